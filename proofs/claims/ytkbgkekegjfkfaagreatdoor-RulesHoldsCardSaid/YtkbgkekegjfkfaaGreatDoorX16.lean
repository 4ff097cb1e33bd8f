-- By pack.py, a program of this session's.
import Derived.Test.YtkbgkekegjfkfaaGreatDoorX11
import Derived.Test.YtkbgkekegjfkfaaGreatDoorX12
set_option linter.unusedVariables false
set_option linter.unusedSimpArgs false
namespace Go.Proofs.YtkbgkekegjfkfaaGreatDoor.A
open Go.RowKit B WW WL WM
attribute [local go_sem] max2_int min2_int max_two min_two max_three min_three max_four min_four
set_option maxHeartbeats 8000000
set_option maxRecDepth 100000
def testF (c:S48) (d a:Int) (rf tx:ByteArray):Bool :=
 if c.f1=2 then decide (nOfC c d a ≥ c.f3) else if c.f1=3 then decide (nOfC c d a≤c.f3) else
 if c.f1=4 then Lib.contains (sOfC c rf tx).data.toList c.f2.data.toList else if c.f1=5 then Lib.hasPrefix (sOfC c rf tx).data.toList c.f2.data.toList else
 if c.f0=1∨c.f0=4 then decide (nOfC c d a=c.f3) else decide ((sOfC c rf tx).toList=c.f2.toList)
theorem least_calls (g gn gs:Nat) (c:S48) (d a:Int) (rf tx:ByteArray) (w:World) (h:CEnv w g gn gs c) :
  Calls Tryz.prog 61 #[lineV d a rf tx,.pointer (some ⟨gn,0,none⟩),.pointer (some ⟨g,0,none⟩)] w fun e w'=>e=.returned (.bool (decide (nOfC c d a ≥ c.f3)))∧Below w.heap.size w w':=by
 have HE:=sd h;clear h;generalize hQ:(fun (e:Ending) (w':World)=>e=.returned (.bool (decide (nOfC c d a ≥ c.f3)))∧Below w.heap.size w w')=Post;have HQ:=sd hQ;clear hQ;unfold lineV;go_enter Tryz.func61,Tryz.ntmps61
 go_wp2_with fail
 have HB:=sd (below_alloc (Below.refl w.heap.size w) (Obj.cells #[Value.int IntKind.i64 d,Value.int IntKind.i64 a,Value.string rf,Value.string tx] 32));have HE1:=sd (HE.out.below HB.out);have b0:(w.alloc (Obj.cells #[Value.int IntKind.i64 d,Value.int IntKind.i64 a,Value.string rf,Value.string tx] 32)).heap[w.heap.size]?=some (.cells #[Value.int IntKind.i64 d,Value.int IntKind.i64 a,Value.string rf,Value.string tx] 32 (0,0)):=blk_new _ _;generalize w.alloc (Obj.cells #[Value.int IntKind.i64 d,Value.int IntKind.i64 a,Value.string rf,Value.string tx] 32)=w1 at *;generalize w.heap.size=gl at b0 ⊢;have b1:(w1.drew).heap[gl]?=some (.cells #[Value.int IntKind.i64 d,Value.int IntKind.i64 a,Value.string rf,Value.string tx] 32 (0,0)):=b0;have l0:w1.drew.cell? ⟨gl,0,none⟩=some (.int .i64 d):=(blk_cell b1 0).trans rfl;have l1:w1.drew.cell? ⟨gl,1,none⟩=some (.int .i64 a):=(blk_cell b1 1).trans rfl;have l2:w1.drew.cell? ⟨gl,2,none⟩=some (.string rf):=(blk_cell b1 2).trans rfl;have l3:w1.drew.cell? ⟨gl,3,none⟩=some (.string tx):=(blk_cell b1 3).trans rfl;have HE2:=sd (HE1.out.below (below_drew1 (Below.refl _ _)));have HB2:=sd (below_drew1 HB.out);clear b0 b1 HB HE1;refine start_ (n:=7) (S:=fun w'=>w'.cell? ⟨gn,0,none⟩=some (.func (.func 59) #[] #[.pointer (some ⟨g,0,none⟩)])∧w'.cell? ⟨g,3,none⟩=some (.int .i64 c.f3)∧w'.cell? ⟨gl,0,none⟩=some (.int .i64 d)∧w'.cell? ⟨gl,1,none⟩=some (.int .i64 a)∧w'.cell? ⟨gl,2,none⟩=some (.string rf)∧w'.cell? ⟨gl,3,none⟩=some (.string tx)) (ds:=[]) #[false,false,false,false,false,false,false] (by kernel_rfl) rfl rfl ⟨HE2.out.fn,HE2.out.c3,l0,l1,l2,l3⟩ (fun hHeld=>?_);clear l0 l1 l2 l3;have hm2:∀ p v,w1.cell? p=some v→w1.drew.cell? p=some v:=fun p v hc=>hc
 clear hm2;generalize w1.drew=w2 at hHeld HE2 HB2  ⊢;refine tB 0 5 hHeld ?_;refine tB 1 6 hHeld ?_;refine pB 3 8 ?_;refine tB 4 9 hHeld ?_;refine one_ (i:=2) (N:=some 7) #[true,true,true,true,true,false,false] rfl rfl (by kernel_rfl) (by decide) (fun K hK=>?_);refine goesF_ (cap:=#[.pointer (some ⟨g,0,none⟩)]) Tryz.func59 (by kernel_rfl) rfl #[.agg #[.int .i64 d,.int .i64 a,.string rf,.string tx],.pointer (some ⟨g,0,none⟩)] (by rfl) rfl rfl (by rfl) zq122 ?_;refine (nOf_calls g c d a rf tx w2 HE2.out.c0).mono ?_;rintro e w3 ⟨rfl,hb⟩;refine ⟨_,rfl,?_⟩;have hk:∀ p v,w2.cell? p=some v→w3.cell? p=some v:=fun p v hc=>(hb.cell (lt_of_cell hc)).trans hc
 obtain ⟨h1,h2,h3,h4,h5,h6⟩:=hHeld;refine hK.out _ _ ⟨hk _ _ h1,hk _ _ h2,hk _ _ h3,hk _ _ h4,hk _ _ h5,hk _ _ h6⟩ (fun hHeld=>?_);clear hK K h1 h2 h3 h4 h5 h6 hk;refine nA 7 ?_;refine pB 5 10 ?_;refine pB 6 4 ?_;refine done_ (by kernel_rfl) ?_;clear hHeld;go_wp2_with fail
 rw [← HQ.out];exact ⟨by (try rfl),HB2.out.trans (hb.mono HB2.out.size)⟩
theorem most_calls (g gn gs:Nat) (c:S48) (d a:Int) (rf tx:ByteArray) (w:World) (h:CEnv w g gn gs c) :
  Calls Tryz.prog 62 #[lineV d a rf tx,.pointer (some ⟨gn,0,none⟩),.pointer (some ⟨g,0,none⟩)] w fun e w'=>e=.returned (.bool (decide (nOfC c d a≤c.f3)))∧Below w.heap.size w w':=by
 have HE:=sd h;clear h;generalize hQ:(fun (e:Ending) (w':World)=>e=.returned (.bool (decide (nOfC c d a≤c.f3)))∧Below w.heap.size w w')=Post;have HQ:=sd hQ;clear hQ;unfold lineV;go_enter Tryz.func62,Tryz.ntmps62
 go_wp2_with fail
 have HB:=sd (below_alloc (Below.refl w.heap.size w) (Obj.cells #[Value.int IntKind.i64 d,Value.int IntKind.i64 a,Value.string rf,Value.string tx] 32));have HE1:=sd (HE.out.below HB.out);have b0:(w.alloc (Obj.cells #[Value.int IntKind.i64 d,Value.int IntKind.i64 a,Value.string rf,Value.string tx] 32)).heap[w.heap.size]?=some (.cells #[Value.int IntKind.i64 d,Value.int IntKind.i64 a,Value.string rf,Value.string tx] 32 (0,0)):=blk_new _ _;generalize w.alloc (Obj.cells #[Value.int IntKind.i64 d,Value.int IntKind.i64 a,Value.string rf,Value.string tx] 32)=w1 at *;generalize w.heap.size=gl at b0 ⊢;have b1:(w1.drew).heap[gl]?=some (.cells #[Value.int IntKind.i64 d,Value.int IntKind.i64 a,Value.string rf,Value.string tx] 32 (0,0)):=b0;have l0:w1.drew.cell? ⟨gl,0,none⟩=some (.int .i64 d):=(blk_cell b1 0).trans rfl;have l1:w1.drew.cell? ⟨gl,1,none⟩=some (.int .i64 a):=(blk_cell b1 1).trans rfl;have l2:w1.drew.cell? ⟨gl,2,none⟩=some (.string rf):=(blk_cell b1 2).trans rfl;have l3:w1.drew.cell? ⟨gl,3,none⟩=some (.string tx):=(blk_cell b1 3).trans rfl;have HE2:=sd (HE1.out.below (below_drew1 (Below.refl _ _)));have HB2:=sd (below_drew1 HB.out);clear b0 b1 HB HE1;refine start_ (n:=7) (S:=fun w'=>w'.cell? ⟨gn,0,none⟩=some (.func (.func 59) #[] #[.pointer (some ⟨g,0,none⟩)])∧w'.cell? ⟨g,3,none⟩=some (.int .i64 c.f3)∧w'.cell? ⟨gl,0,none⟩=some (.int .i64 d)∧w'.cell? ⟨gl,1,none⟩=some (.int .i64 a)∧w'.cell? ⟨gl,2,none⟩=some (.string rf)∧w'.cell? ⟨gl,3,none⟩=some (.string tx)) (ds:=[]) #[false,false,false,false,false,false,false] (by kernel_rfl) rfl rfl ⟨HE2.out.fn,HE2.out.c3,l0,l1,l2,l3⟩ (fun hHeld=>?_);clear l0 l1 l2 l3;have hm2:∀ p v,w1.cell? p=some v→w1.drew.cell? p=some v:=fun p v hc=>hc
 clear hm2;generalize w1.drew=w2 at hHeld HE2 HB2  ⊢;refine tB 0 5 hHeld ?_;refine tB 1 6 hHeld ?_;refine pB 3 8 ?_;refine tB 4 9 hHeld ?_;refine one_ (i:=2) (N:=some 7) #[true,true,true,true,true,false,false] rfl rfl (by kernel_rfl) (by decide) (fun K hK=>?_);refine goesF_ (cap:=#[.pointer (some ⟨g,0,none⟩)]) Tryz.func59 (by kernel_rfl) rfl #[.agg #[.int .i64 d,.int .i64 a,.string rf,.string tx],.pointer (some ⟨g,0,none⟩)] (by rfl) rfl rfl (by rfl) zq122 ?_;refine (nOf_calls g c d a rf tx w2 HE2.out.c0).mono ?_;rintro e w3 ⟨rfl,hb⟩;refine ⟨_,rfl,?_⟩;have hk:∀ p v,w2.cell? p=some v→w3.cell? p=some v:=fun p v hc=>(hb.cell (lt_of_cell hc)).trans hc
 obtain ⟨h1,h2,h3,h4,h5,h6⟩:=hHeld;refine hK.out _ _ ⟨hk _ _ h1,hk _ _ h2,hk _ _ h3,hk _ _ h4,hk _ _ h5,hk _ _ h6⟩ (fun hHeld=>?_);clear hK K h1 h2 h3 h4 h5 h6 hk;refine nA 7 ?_;refine pB 5 10 ?_;refine pB 6 4 ?_;refine done_ (by kernel_rfl) ?_;clear hHeld;go_wp2_with fail
 rw [← HQ.out];exact ⟨by (try rfl),HB2.out.trans (hb.mono HB2.out.size)⟩
theorem same_calls (g gn gs:Nat) (c:S48) (d a:Int) (rf tx:ByteArray) (w:World) (h:CEnv w g gn gs c) :
  Calls Tryz.prog 68 #[lineV d a rf tx,.pointer (some ⟨gn,0,none⟩),.pointer (some ⟨g,0,none⟩)] w fun e w'=>e=.returned (.bool (decide (nOfC c d a=c.f3)))∧Below w.heap.size w w':=by
 have HE:=sd h;clear h;generalize hQ:(fun (e:Ending) (w':World)=>e=.returned (.bool (decide (nOfC c d a=c.f3)))∧Below w.heap.size w w')=Post;have HQ:=sd hQ;clear hQ;unfold lineV;go_enter Tryz.func68,Tryz.ntmps68
 go_wp2_with fail
 have HB:=sd (below_alloc (Below.refl w.heap.size w) (Obj.cells #[Value.int IntKind.i64 d,Value.int IntKind.i64 a,Value.string rf,Value.string tx] 32));have HE1:=sd (HE.out.below HB.out);have b0:(w.alloc (Obj.cells #[Value.int IntKind.i64 d,Value.int IntKind.i64 a,Value.string rf,Value.string tx] 32)).heap[w.heap.size]?=some (.cells #[Value.int IntKind.i64 d,Value.int IntKind.i64 a,Value.string rf,Value.string tx] 32 (0,0)):=blk_new _ _;generalize w.alloc (Obj.cells #[Value.int IntKind.i64 d,Value.int IntKind.i64 a,Value.string rf,Value.string tx] 32)=w1 at *;generalize w.heap.size=gl at b0 ⊢;have b1:(w1.drew).heap[gl]?=some (.cells #[Value.int IntKind.i64 d,Value.int IntKind.i64 a,Value.string rf,Value.string tx] 32 (0,0)):=b0;have l0:w1.drew.cell? ⟨gl,0,none⟩=some (.int .i64 d):=(blk_cell b1 0).trans rfl;have l1:w1.drew.cell? ⟨gl,1,none⟩=some (.int .i64 a):=(blk_cell b1 1).trans rfl;have l2:w1.drew.cell? ⟨gl,2,none⟩=some (.string rf):=(blk_cell b1 2).trans rfl;have l3:w1.drew.cell? ⟨gl,3,none⟩=some (.string tx):=(blk_cell b1 3).trans rfl;have HE2:=sd (HE1.out.below (below_drew1 (Below.refl _ _)));have HB2:=sd (below_drew1 HB.out);clear b0 b1 HB HE1;refine start_ (n:=7) (S:=fun w'=>w'.cell? ⟨gn,0,none⟩=some (.func (.func 59) #[] #[.pointer (some ⟨g,0,none⟩)])∧w'.cell? ⟨g,3,none⟩=some (.int .i64 c.f3)∧w'.cell? ⟨gl,0,none⟩=some (.int .i64 d)∧w'.cell? ⟨gl,1,none⟩=some (.int .i64 a)∧w'.cell? ⟨gl,2,none⟩=some (.string rf)∧w'.cell? ⟨gl,3,none⟩=some (.string tx)) (ds:=[]) #[false,false,false,false,false,false,false] (by kernel_rfl) rfl rfl ⟨HE2.out.fn,HE2.out.c3,l0,l1,l2,l3⟩ (fun hHeld=>?_);clear l0 l1 l2 l3;have hm2:∀ p v,w1.cell? p=some v→w1.drew.cell? p=some v:=fun p v hc=>hc
 clear hm2;generalize w1.drew=w2 at hHeld HE2 HB2  ⊢;refine tB 0 5 hHeld ?_;refine tB 1 6 hHeld ?_;refine pB 3 8 ?_;refine tB 4 9 hHeld ?_;refine one_ (i:=2) (N:=some 7) #[true,true,true,true,true,false,false] rfl rfl (by kernel_rfl) (by decide) (fun K hK=>?_);refine goesF_ (cap:=#[.pointer (some ⟨g,0,none⟩)]) Tryz.func59 (by kernel_rfl) rfl #[.agg #[.int .i64 d,.int .i64 a,.string rf,.string tx],.pointer (some ⟨g,0,none⟩)] (by rfl) rfl rfl (by rfl) zq122 ?_;refine (nOf_calls g c d a rf tx w2 HE2.out.c0).mono ?_;rintro e w3 ⟨rfl,hb⟩;refine ⟨_,rfl,?_⟩;have hk:∀ p v,w2.cell? p=some v→w3.cell? p=some v:=fun p v hc=>(hb.cell (lt_of_cell hc)).trans hc
 obtain ⟨h1,h2,h3,h4,h5,h6⟩:=hHeld;refine hK.out _ _ ⟨hk _ _ h1,hk _ _ h2,hk _ _ h3,hk _ _ h4,hk _ _ h5,hk _ _ h6⟩ (fun hHeld=>?_);clear hK K h1 h2 h3 h4 h5 h6 hk;refine nA 7 ?_;refine pB 5 10 ?_;refine pB 6 4 ?_;refine done_ (by kernel_rfl) ?_;clear hHeld;go_wp2_with fail
 rw [← HQ.out];exact ⟨by (try rfl),HB2.out.trans (hb.mono HB2.out.size)⟩
theorem is_calls (g gn gs:Nat) (c:S48) (d a:Int) (rf tx:ByteArray) (w:World) (h:CEnv w g gn gs c) :
  Calls Tryz.prog 69 #[lineV d a rf tx,.pointer (some ⟨gs,0,none⟩),.pointer (some ⟨g,0,none⟩)] w fun e w'=>e=.returned (.bool ((sOfC c rf tx).toList == c.f2.toList))∧Below w.heap.size w w':=by
 have HE:=sd h;clear h;generalize hQ:(fun (e:Ending) (w':World)=>e=.returned (.bool ((sOfC c rf tx).toList == c.f2.toList))∧Below w.heap.size w w')=Post;have HQ:=sd hQ;clear hQ;unfold lineV;go_enter Tryz.func69,Tryz.ntmps69
 go_wp2_with fail
 have HB:=sd (below_alloc (Below.refl w.heap.size w) (Obj.cells #[Value.int IntKind.i64 d,Value.int IntKind.i64 a,Value.string rf,Value.string tx] 32));have HE1:=sd (HE.out.below HB.out);have b0:(w.alloc (Obj.cells #[Value.int IntKind.i64 d,Value.int IntKind.i64 a,Value.string rf,Value.string tx] 32)).heap[w.heap.size]?=some (.cells #[Value.int IntKind.i64 d,Value.int IntKind.i64 a,Value.string rf,Value.string tx] 32 (0,0)):=blk_new _ _;generalize w.alloc (Obj.cells #[Value.int IntKind.i64 d,Value.int IntKind.i64 a,Value.string rf,Value.string tx] 32)=w1 at *;generalize w.heap.size=gl at b0 ⊢;have b1:(w1.drew).heap[gl]?=some (.cells #[Value.int IntKind.i64 d,Value.int IntKind.i64 a,Value.string rf,Value.string tx] 32 (0,0)):=b0;have l0:w1.drew.cell? ⟨gl,0,none⟩=some (.int .i64 d):=(blk_cell b1 0).trans rfl;have l1:w1.drew.cell? ⟨gl,1,none⟩=some (.int .i64 a):=(blk_cell b1 1).trans rfl;have l2:w1.drew.cell? ⟨gl,2,none⟩=some (.string rf):=(blk_cell b1 2).trans rfl;have l3:w1.drew.cell? ⟨gl,3,none⟩=some (.string tx):=(blk_cell b1 3).trans rfl;have HE2:=sd (HE1.out.below (below_drew1 (Below.refl _ _)));have HB2:=sd (below_drew1 HB.out);clear b0 b1 HB HE1;refine start_ (n:=7) (S:=fun w'=>w'.cell? ⟨gs,0,none⟩=some (.func (.func 60) #[] #[.pointer (some ⟨g,0,none⟩)])∧w'.cell? ⟨g,2,none⟩=some (.string c.f2)∧w'.cell? ⟨gl,0,none⟩=some (.int .i64 d)∧w'.cell? ⟨gl,1,none⟩=some (.int .i64 a)∧w'.cell? ⟨gl,2,none⟩=some (.string rf)∧w'.cell? ⟨gl,3,none⟩=some (.string tx)) (ds:=[]) #[false,false,false,false,false,false,false] (by kernel_rfl) rfl rfl ⟨HE2.out.fs,HE2.out.c2,l0,l1,l2,l3⟩ (fun hHeld=>?_);clear l0 l1 l2 l3;have hm2:∀ p v,w1.cell? p=some v→w1.drew.cell? p=some v:=fun p v hc=>hc
 clear hm2;generalize w1.drew=w2 at hHeld HE2 HB2  ⊢;refine tB 0 5 hHeld ?_;refine tB 1 6 hHeld ?_;refine pB 3 8 ?_;refine tB 4 9 hHeld ?_;refine one_ (i:=2) (N:=some 7) #[true,true,true,true,true,false,false] rfl rfl (by kernel_rfl) (by decide) (fun K hK=>?_);refine goesF_ (cap:=#[.pointer (some ⟨g,0,none⟩)]) Tryz.func60 (by kernel_rfl) rfl #[.agg #[.int .i64 d,.int .i64 a,.string rf,.string tx],.pointer (some ⟨g,0,none⟩)] (by rfl) rfl rfl (by rfl) zq122 ?_;refine (sOf_calls g c d a rf tx w2 HE2.out.c0).mono ?_;rintro e w3 ⟨rfl,hb⟩;refine ⟨_,rfl,?_⟩;have hk:∀ p v,w2.cell? p=some v→w3.cell? p=some v:=fun p v hc=>(hb.cell (lt_of_cell hc)).trans hc
 obtain ⟨h1,h2,h3,h4,h5,h6⟩:=hHeld;refine hK.out _ _ ⟨hk _ _ h1,hk _ _ h2,hk _ _ h3,hk _ _ h4,hk _ _ h5,hk _ _ h6⟩ (fun hHeld=>?_);clear hK K h1 h2 h3 h4 h5 h6 hk;refine nA 7 ?_;refine pB 5 10 ?_;refine pB 6 4 ?_;refine done_ (by kernel_rfl) ?_;clear hHeld;go_wp2_with fail
 rw [← HQ.out];exact ⟨by (try rfl),HB2.out.trans (hb.mono HB2.out.size)⟩
def rules_Holds.f (k:Nat) (a0_0:ByteArray) (l0_1:List S48) (a0_2 a0_3:ByteArray) (l0_4:List S50) (a1_0 a1_1:Int) (a1_2 a1_3:ByteArray):Option Bool :=
 (rules_Check.f k a0_0 l0_1 a0_2 a0_3 l0_4).bind fun e=>if e=0 then (if a1_2.size < 4294967281∧a1_3.size < 4294967281 then some (l0_1.all fun c=>testF c a1_0 a1_1 a1_2 a1_3) else none) else some false
theorem strs_new (l:List ByteArray) (hl:l.length≤1000000) (W:World) (base:Nat) (hb:base≤W.heap.size):Kd.R Kd.string 9 (W.alloc (.cells (l.map Value.string).toArray 9)) base (fun _=>True) (.slice (some ⟨W.heap.size,0,none⟩) l.length l.length) l :=
 Kd.R_of_own ⟨by simp [encs],Or.inr ⟨W.heap.size,l.length,_,rfl,hb,blk_new _ _,Nat.le_refl _,by unfold maxLen;omega,by simp,by rw [Nat.mul_one];simp [encs];exact List.take_of_length_le (by simp)⟩⟩ (fun _ _=>trivial)
theorem strs_C (l:List ByteArray) (hl:l.length≤1000000) (W:World):Kd.C Kd.string (W.alloc (.cells (l.map Value.string).toArray 9)) (some ⟨W.heap.size,0,none⟩) l.length l :=
 (Kd.R_reads' (strs_new l hl W 0 (Nat.zero_le _))).2.2
theorem grown_alloc {W w1:World} {o:Obj} {row:Option Nat} (h:(W.alloc o).grownBy w1 row):W.grownBy w1 row:=(World.grownBy_alloc W o row).trans h
abbrev keyB (x:S73) (s:ByteArray):Bool:=keyV x.f0 x.f1 s
theorem RP.growT {w w1:World} {bd g:Nat} {p:PR} {vC vT vW v1:Value} {tg':List S50} (h:RP w bd g p vC vT vW) (hR:Kd.R k50 50 w1 bd (fun _=>True) v1 tg') (hg:w.grownBy w1 vT.ownBlock):RP (w1.setCell ⟨g,4,none⟩ v1) bd g { p with tg:=tg' } vC v1 vW:=by
  have hB:=blk_grown h.blk hg (Kd.R_ne h.rT h.blk (by decide));exact ⟨blk_put (cs:=p.cells vC vT vW) hB 4 _ rfl,Kd.R_set (Kd.R_over h.rC h.rT (by decide) hg) hB n48 4 _,Kd.R_set hR hB n50 4 _,Kd.R_set (Kd.R_over h.rW h.rT (by decide) hg) hB n73 4 _,h.hbd⟩
theorem key2_calls (gw:Nat) (kd:Int) (s x:ByteArray) (w:World) (h0:w.cell? ⟨gw,0,none⟩=some (.int .i64 kd)) (h1:w.cell? ⟨gw,1,none⟩=some (.string s)) :
    Calls Tryz.prog 138 #[.string x,.pointer (some ⟨gw,0,none⟩)] w fun e w'=>e=.returned (.bool (keyV kd s x))∧Drawn0 w w':=by
  unfold keyV;by_cases e:kd=1
  · have q:decide (kd=1)=true:=decide_eq_true e
    have hr:decide (kd=1∧s.toList=x.toList)=(s.toList == x.toList):=by
      rw [Bool.eq_iff_iff,decide_eq_true_iff,beq_iff_eq];exact ⟨fun h=>h.2,fun h=>⟨e,h⟩⟩
    rw [hr];clear hr;go_enter Tryz.func138,Tryz.ntmps138
    go_wp2_with fail
    go_ret
    exact ⟨rfl,Drawn0.refl _⟩
  have q:decide (kd=1)=false:=decide_eq_false e;have hr:decide (kd=1∧s.toList=x.toList)=false:=decide_eq_false (fun h=>e h.1);rw [hr];clear hr;go_enter Tryz.func138,Tryz.ntmps138
  go_wp2_with fail
  go_ret
  exact ⟨rfl,Drawn0.refl _⟩
def ValPost (bd g:Nat) (vC vT vW:Value) (p':PR) (at_ er:Int) (w:World) (e:Ending) (w':World):Prop :=
  e=.returned (.tuple #[.int .i64 at_,.int .i64 er])∧(∃ vC' vT' vW',RP w' bd g p' vC' vT' vW')∧FP bd g vC vT vW w w'
end Go.Proofs.YtkbgkekegjfkfaaGreatDoor.A
namespace Go.Proofs.YtkbgkekegjfkfaaGreatDoor.WW
open Go.RowKit
section
variable {P:Program} {d:Nat} {xs ys:Array Value} {f:Field} {fs:List Field} {a b:Value} {r s:Bool} {w:World}
theorem eqf_last (hn : (f.name == "_") = false) (ha : (part f.type xs f.offset).run P w = .ok a w) (hb : (part f.type ys f.offset).run P w = .ok b w) (he : (Op.equalIn d f.type a b).run P w = .ok r w) : (Op.eqFields d xs ys [f]).run P w = .ok r w := by
  have hn' : f.name ≠ "_" := by simpa using hn
  simp only [Op.eqFields,if_pos hn',Sem.run_bind,ha,hb,he,Result.andThen_ok]
  cases r <;> simp
theorem eqf_cons (hn : (f.name == "_") = false) (ha : (part f.type xs f.offset).run P w = .ok a w) (hb : (part f.type ys f.offset).run P w = .ok b w) (he : (Op.equalIn d f.type a b).run P w = .ok r w) (hr : (Op.eqFields d xs ys fs).run P w = .ok s w) : (Op.eqFields d xs ys (f :: fs)).run P w = .ok (r && s) w := by
  have hn' : f.name ≠ "_" := by simpa using hn
  rw [Op.eqFields];simp only [if_pos hn',Sem.run_bind,ha,hb,he,Result.andThen_ok]
  cases r
  · simp
  · simpa using hr
theorem eqA_of {t:TypeId} {fs:Array Field} (hu:P.underlying t=some (.struct fs)) (hp:P.stoodInHeld t=false) (h:(Op.eqFields d xs ys fs.toList).run P w=.ok r w):(Op.equalIn (d+1) t (.agg xs) (.agg ys)).run P w=.ok r w:=by
  have hf:P.fieldsOf t=fs:=by simp [Program.fieldsOf,hu]
  rw [run_equalIn_struct (P:=P) w d t xs ys (by rw [hf];exact hu) hp,hf];exact h
end
end Go.Proofs.YtkbgkekegjfkfaaGreatDoor.WW
namespace Go.Proofs.YtkbgkekegjfkfaaGreatDoor.A
open Go.RowKit B WW WL WM
attribute [local go_sem] max2_int min2_int max_two min_two max_three min_three max_four min_four
def z73:S73:=⟨(0:Int),(⟨#[]⟩:ByteArray),(0:Int)⟩
def rd_T73 (xs:List S73) (i:Int):S73:=xs.getD i.toNat z73
theorem at_T73 {w:World} {A:Option Addr} {n:Nat} {xs:List S73} (h:Kd.C k73 w A n xs) (i:Int) (h0:0≤i) (h1:i < n):∃ ad ,A=some ad∧w.cell? (ad.add (i.toNat * 3))=some (.int .i64 (rd_T73 xs i).f0)∧w.cell? ⟨(ad.add (i.toNat * 3)).block,(ad.add (i.toNat * 3)).off+1,none⟩=some (.string (rd_T73 xs i).f1)∧w.cell? ⟨(ad.add (i.toNat * 3)).block,(ad.add (i.toNat * 3)).off+2,none⟩=some (.int .i64 (rd_T73 xs i).f2):=by
  obtain ⟨ad,c,e,_,hK,hc0⟩:=Kd.C_get h z73 i h0 h1;have hc:∀ j u,c[j]?=some u→w.cell? (ad.add (i.toNat * 3+j))=some u:=hc0;obtain rfl:=k73_open hK;exact ⟨ad,e,hc 0 _ rfl,by rw [← add_field _ _ 1 (by omega)];exact hc 1 _ rfl,by rw [← add_field _ _ 2 (by omega)];exact hc 2 _ rfl⟩
theorem eqA48 (d:Nat) (w:World) (x0 y0 x1 y1:Int) (x2 y2:ByteArray) (x3 y3:Int) :
    (Op.equalIn (d+2) 48 (.agg #[.int .i64 x0,.int .i64 x1,.string x2,.int .i64 x3]) (.agg #[.int .i64 y0,.int .i64 y1,.string y2,.int .i64 y3])).run Tryz.prog w=.ok (x0 == y0 && (x1 == y1 && (x2.toList == y2.toList && (x3 == y3)))) w:=by
  refine eqA_of Tryz.underlying48 (by kernel_rfl) ?_;refine eqf_cons (by rfl) (by go_simp;rfl) (by go_simp;rfl) (by go_simp) ?_;refine eqf_cons (by rfl) (by go_simp;rfl) (by go_simp;rfl) (by go_simp) ?_;refine eqf_cons (by rfl) (by go_simp;rfl) (by go_simp;rfl) (by go_simp) ?_;exact eqf_last (by rfl) (by go_simp;rfl) (by go_simp;rfl) (by go_simp)
theorem eqA50 (d:Nat) (w:World) (x0 y0 x1 y1:ByteArray) :
    (Op.equalIn (d+2) 50 (.agg #[.string x0,.string x1]) (.agg #[.string y0,.string y1])).run Tryz.prog w=.ok (x0.toList == y0.toList && (x1.toList == y1.toList)) w:=by
  refine eqA_of Tryz.underlying50 (by kernel_rfl) ?_;refine eqf_cons (by rfl) (by go_simp;rfl) (by go_simp;rfl) (by go_simp) ?_;exact eqf_last (by rfl) (by go_simp;rfl) (by go_simp;rfl) (by go_simp)
end Go.Proofs.YtkbgkekegjfkfaaGreatDoor.A
namespace Go.Proofs.YtkbgkekegjfkfaaGreatDoor.A
open Go.RowKit B WW WL WM
attribute [local go_sem] max2_int min2_int max_two min_two max_three min_three max_four min_four
set_option maxHeartbeats 8000000
set_option maxRecDepth 100000
attribute [local go_sem high] eqA50
mutual
def rf48_Check.j0:Nat→Bool→ByteArray→List (S48)→ByteArray→ByteArray→List (S50)→Option (Int)
 | 0,_,_,_,_,_,_=>none
 | k+1,x25,x150000,x150001,x150002,x150003,x150004=>if x25=true then (some 7) else ((rf09_Right.f k x150004).bind fun t153=>(if t153=true then (if (x150001.length:Int)=0 then (some 2) else (if (x150001.length:Int) > 8 then (some 9) else (rf48_Check.l0 k 0 x150000 x150001 x150002 x150003 x150004))) else (some 14)))
def rf48_Check.l0:Nat→Int→ByteArray→List (S48)→ByteArray→ByteArray→List (S50)→Option (Int)
 | 0,_,_,_,_,_,_=>none
 | k+1,x3,x150000,x150001,x150002,x150003,x150004=>if x3 < (x150001.length:Int) then (if 0≤x3 then ((rf48_condition.f k ((rd_T48 x150001 x3).f0) ((rd_T48 x150001 x3).f1) ((rd_T48 x150001 x3).f2) ((rd_T48 x150001 x3).f3)).bind fun t155=>(if t155=0 then (rf48_Check.l0 k (wrap64 (x3+1)) x150000 x150001 x150002 x150003 x150004) else (some t155))) else (none)) else (some 0)
end
def rf48_Check.f (k:Nat) (a0_0:ByteArray) (l0_1:List (S48)) (a0_2:ByteArray) (a0_3:ByteArray) (l0_4:List (S50)):Option (Int):=(rf06_Code.f k a0_0).bind fun t150=>(if t150=true then ((rf06_Code.f k a0_2).bind fun t151=>(if t151=true then (if a0_3.toList=([]:List UInt8) then (rf48_Check.j0 k false a0_0 l0_1 a0_2 a0_3 l0_4) else ((rf06_Code.f k a0_3).bind fun t152=>(rf48_Check.j0 k (!t152) a0_0 l0_1 a0_2 a0_3 l0_4))) else (rf48_Check.j0 k true a0_0 l0_1 a0_2 a0_3 l0_4))) else (rf48_Check.j0 k true a0_0 l0_1 a0_2 a0_3 l0_4))
theorem rf48_Check.calls (k:Nat) (a0_0:ByteArray) (A0_1:Option Addr) (c0_1:Nat) (l0_1:List (S48)) (a0_2 a0_3:ByteArray) (A0_4:Option Addr) (c0_4:Nat) (l0_4:List (S50)) (r:Int) (w:World) (hr0_1:Kd.C k48 w A0_1 l0_1.length l0_1) (hc0_1:l0_1.length≤c0_1) (hr0_4:Kd.C k50 w A0_4 l0_4.length l0_4) (hc0_4:l0_4.length≤c0_4) (h:rf48_Check.f k a0_0 l0_1 a0_2 a0_3 l0_4=some r) :
  Calls Tryz.prog 10 #[.agg #[.string a0_0,.slice A0_1 l0_1.length c0_1,.string a0_2,.string a0_3,.slice A0_4 l0_4.length c0_4]] w fun e w'=>e=.returned (.int .i64 r)∧Below w.heap.size w w':=by
 have hu25:=Tryz.underlying25;have hu48:=Tryz.underlying48;have HR0_1:=sd hr0_1;have HC0_1:=sd hc0_1;clear hr0_1 hc0_1;have HR0_4:=sd hr0_4;have HC0_4:=sd hc0_4;clear hr0_4 hc0_4;have HB:=sd (Below.refl w.heap.size w);have H:=h;clear h;unfold rf48_Check.f at H;have HC2:=sd H;clear H;go_enter Tryz.func10,Tryz.ntmps10
 go_upto_region 1 with (first | ((with_reducible refine gate_dst (N:=1) rfl ?_);refine bxA 1 #[.string a0_0,.slice A0_1 l0_1.length c0_1,.string a0_2,.string a0_3,.slice A0_4 l0_4.length c0_4] 25 ?_;intro gb149 hg w3 hbox hb;have BK149:=sd (hbox);have GW149:=gem hg HB;have GE149:=GW149;replace HB:=hbm HB hb;clear hb hbox hg))
 (try simp only [Act.put,List.setIfInBounds_toArray,List.set_cons_zero,List.set_cons_succ])
 go_cut [25] (fun v25 wc=>∃ (kq:Nat) (x25_1:Bool),v25=.bool x25_1∧Aside0 (rf48_Check.j0 kq x25_1 a0_0 l0_1 a0_2 a0_3 l0_4=some r)∧Aside0 (kq≤k)∧Aside0 (wc.heap[gb149]?=some (.cells #[.string a0_0,(.slice A0_1 l0_1.length c0_1),.string a0_2,.string a0_3,(.slice A0_4 l0_4.length c0_4)] 25 (0,0)))∧Aside0 (Below w.heap.size w wc))
 case first =>
  have H:=HC2.out;clear HC2;replace H:=bdI H;obtain ⟨t150,A4,H⟩:=H;(try dsimp only at H)
  by_cases c5:t150=true
  ·subst c5;rw [if_pos rfl] at H;replace H:=bdI H;obtain ⟨t151,A6,H⟩:=H;(try dsimp only at H)
   by_cases c7:t151=true
   ·subst c7;rw [if_pos rfl] at H;replace H:=ifI H;rcases H with ⟨c8,H⟩ | ⟨c8,H⟩
    ·obtain ⟨c8b0,c8b1⟩:=eqI c8;clear c8;(first | rw [c8b0] | (simp only [i64_w,i32_w];rw [c8b0]) | skip)
     have H':=sd H;clear H;obtain ⟨_,_,_,_,_,_,_,_,_,_⟩:=bk5 BK149;go_wp2_with (first | ((with_reducible refine gate_callee (f:=24) rfl ?_);refine gL 7 Tryz.func24 #[.string a0_0] ?_;(with_reducible refine (rf06_Code.calls k a0_0 true _ A4.out).mono ?_);rintro e w' ⟨rfl,⟨nd,rfl⟩⟩;refine ⟨_,rfl,?_⟩) | (go_at_call 24;(with_reducible refine (rf06_Code.calls k a0_2 true _ A6.out).mono ?_);rintro e w' ⟨rfl,⟨nd,rfl⟩⟩))
     go_meet
     case rel=>exact ⟨_,(false),zq7,H',⟨by first | omega | exact Nat.le_refl _⟩,⟨zq38⟩,⟨zq39⟩⟩
    obtain ⟨c8b0,c8b1⟩:=neI c8;(first | rw [c8b0] | (simp only [i64_w,i32_w];rw [c8b0]) | skip)
    replace H:=bdI H;obtain ⟨t152,A10,H⟩:=H;(try dsimp only at H)
    have H':=sd H;clear H;obtain ⟨_,_,_,_,_,_,_,_,_,_⟩:=bk5 BK149;go_wp2_with (first | ((with_reducible refine gate_callee (f:=24) rfl ?_);refine gL 7 Tryz.func24 #[.string a0_0] ?_;(with_reducible refine (rf06_Code.calls k a0_0 true _ A4.out).mono ?_);rintro e w' ⟨rfl,⟨nd,rfl⟩⟩;refine ⟨_,rfl,?_⟩) | (go_at_call 24;(with_reducible refine (rf06_Code.calls k a0_2 true _ A6.out).mono ?_);rintro e w' ⟨rfl,⟨nd,rfl⟩⟩) | (go_at_call 24;(with_reducible refine (rf06_Code.calls k a0_3 t152 _ A10.out).mono ?_);rintro e w' ⟨rfl,⟨nd,rfl⟩⟩))
    go_meet
    case rel=>exact ⟨_,(!t152),zq7,H',⟨by first | omega | exact Nat.le_refl _⟩,⟨zq38⟩,⟨zq39⟩⟩
   replace c7:=Bool.eq_false_iff.mpr c7;subst c7;rw [if_neg Bool.false_ne_true] at H;have H':=sd H;clear H;obtain ⟨_,_,_,_,_,_,_,_,_,_⟩:=bk5 BK149;go_wp2_with (first | ((with_reducible refine gate_callee (f:=24) rfl ?_);refine gL 7 Tryz.func24 #[.string a0_0] ?_;(with_reducible refine (rf06_Code.calls k a0_0 true _ A4.out).mono ?_);rintro e w' ⟨rfl,⟨nd,rfl⟩⟩;refine ⟨_,rfl,?_⟩) | (go_at_call 24;(with_reducible refine (rf06_Code.calls k a0_2 false _ A6.out).mono ?_);rintro e w' ⟨rfl,⟨nd,rfl⟩⟩))
   go_meet
   case rel=>exact ⟨_,(true),zq7,H',⟨by first | omega | exact Nat.le_refl _⟩,⟨zq38⟩,⟨zq39⟩⟩
  replace c5:=Bool.eq_false_iff.mpr c5;subst c5;rw [if_neg Bool.false_ne_true] at H;have H':=sd H;clear H;obtain ⟨_,_,_,_,_,_,_,_,_,_⟩:=bk5 BK149;go_wp2_with (first | ((with_reducible refine gate_callee (f:=24) rfl ?_);refine gL 7 Tryz.func24 #[.string a0_0] ?_;(with_reducible refine (rf06_Code.calls k a0_0 false _ A4.out).mono ?_);rintro e w' ⟨rfl,⟨nd,rfl⟩⟩;refine ⟨_,rfl,?_⟩))
  go_meet
  case rel=>exact ⟨_,(true),zq7,H',⟨by first | omega | exact Nat.le_refl _⟩,⟨zq38⟩,⟨zq39⟩⟩
 case rest =>
  clear HC2;try clear c1
  try clear c2
  try clear p2
  try clear c5
  try clear c7
  try clear c8
  try clear c8b0
  try clear c8b1
  try clear c10
  try clear hcz11_0
  try clear hcz11_1
  try clear hcz11_2
  try clear hcz11_3
  try clear hcz11_4
  try clear hcz12_0
  try clear hcz12_1
  try clear hcz12_2
  try clear hcz12_3
  try clear hcz12_4
  try clear hcz13_0
  try clear hcz13_1
  try clear hcz13_2
  try clear hcz13_3
  try clear hcz13_4
  try clear hcz9_0
  try clear hcz9_1
  try clear hcz9_2
  try clear hcz9_3
  try clear hcz9_4
  try clear hfz11_0
  try clear hfz11_1
  try clear hfz11_2
  try clear hfz11_3
  try clear hfz11_4
  try clear hfz12_0
  try clear hfz12_1
  try clear hfz12_2
  try clear hfz12_3
  try clear hfz12_4
  try clear hfz13_0
  try clear hfz13_1
  try clear hfz13_2
  try clear hfz13_3
  try clear hfz13_4
  try clear hfz9_0
  try clear hfz9_1
  try clear hfz9_2
  try clear hfz9_3
  try clear hfz9_4
  obtain ⟨kq,x25_1,rfl,HA,HJ1,BK149,HB⟩:=hcut
  cases kq with
  | zero=>exact absurd HA.out (by simp [rf48_Check.j0])
  | succ kj1 =>
   have H:=HA.out;clear HA;simp only [rf48_Check.j0] at H
   by_cases c14:x25_1=true
   ·subst c14;rw [if_pos rfl] at H;obtain rfl:=Option.some.inj H;go_wp2
    go_ret
    exact ⟨zq4,zq39⟩
   replace c14:=Bool.eq_false_iff.mpr c14;subst c14;rw [if_neg Bool.false_ne_true] at H;replace H:=bdI H;obtain ⟨t153,A15,H⟩:=H;(try dsimp only at H)
   by_cases c16:t153=true
   ·subst c16;rw [if_pos rfl] at H;replace H:=ifI H;rcases H with ⟨c17,H⟩ | ⟨c17,H⟩
    ·obtain ⟨c17b0,c17b1⟩:=eqI c17;clear c17;obtain rfl:=Option.some.inj H;obtain ⟨_,_,_,_,_,_,_,_,_,_⟩:=bk5 BK149;go_wp2_with (first | ((with_reducible refine gate_callee (f:=25) rfl ?_);refine gL 28 Tryz.func25 #[.slice A0_4 l0_4.length c0_4] ?_;(with_reducible refine (rf09_Right.calls kj1 _ _ l0_4 true _ ?side1 ?side2 A15.out).mono ?_);(case side1=>exact zq40);(case side2=>exact HC0_4.out);rintro e w19 ⟨rfl,hb⟩;refine ⟨_,rfl,?_⟩;replace BK149:=bkm BK149 hb;replace HB:=hbm HB hb;clear hb;obtain ⟨_,_,_,_,_,_,_,_,_,_⟩:=bk5 BK149))
     go_ret
     exact ⟨zq4,zq39⟩
    obtain ⟨c17b0,c17b1⟩:=neI c17;have c17b2:¬ (l0_1=[]):=fun h_=>c17 (by rw [h_];rfl)
    replace H:=ifI H;rcases H with ⟨c21,H⟩ | ⟨c21,H⟩
    ·have c21b0:decide (8 < (l0_1.length:Int))=true:=decide_eq_true c21;have c21b1:decide (8 < l0_1.length)=true:=decide_eq_true (by omega);clear c21;obtain rfl:=Option.some.inj H;obtain ⟨_,_,_,_,_,_,_,_,_,_⟩:=bk5 BK149;go_wp2_with (first | ((with_reducible refine gate_callee (f:=25) rfl ?_);refine gL 28 Tryz.func25 #[.slice A0_4 l0_4.length c0_4] ?_;(with_reducible refine (rf09_Right.calls kj1 _ _ l0_4 true _ ?side1 ?side2 A15.out).mono ?_);(case side1=>exact zq40);(case side2=>exact HC0_4.out);rintro e w23 ⟨rfl,hb⟩;refine ⟨_,rfl,?_⟩;replace BK149:=bkm BK149 hb;replace HB:=hbm HB hb;clear hb;obtain ⟨_,_,_,_,_,_,_,_,_,_⟩:=bk5 BK149))
     go_ret
     exact ⟨zq4,zq39⟩
    have c21b0:decide (8 < (l0_1.length:Int))=false:=decide_eq_false c21;have c21b1:decide (8 < l0_1.length)=false:=decide_eq_false (by omega);clear c21;have H':=sd H;clear H;obtain ⟨_,_,_,_,_,_,_,_,_,_⟩:=bk5 BK149;go_wp2_with (first | ((with_reducible refine gate_callee (f:=25) rfl ?_);refine gL 28 Tryz.func25 #[.slice A0_4 l0_4.length c0_4] ?_;(with_reducible refine (rf09_Right.calls kj1 _ _ l0_4 true _ ?side1 ?side2 A15.out).mono ?_);(case side1=>exact zq40);(case side2=>exact HC0_4.out);rintro e w26 ⟨rfl,hb⟩;refine ⟨_,rfl,?_⟩;replace BK149:=bkm BK149 hb;replace HB:=hbm HB hb;clear hb;obtain ⟨_,_,_,_,_,_,_,_,_,_⟩:=bk5 BK149))
    go_loopg [3] kj1 (fun kq v3 w'=>∃ (x3_2:Int),v3=.int .i64 x3_2∧Aside0 (rf48_Check.l0 kq x3_2 a0_0 l0_1 a0_2 a0_3 l0_4=some r)∧Aside0 (kq≤kj1)∧Aside0 (w'.heap[gb149]?=some (.cells #[.string a0_0,(.slice A0_1 l0_1.length c0_1),.string a0_2,.string a0_3,(.slice A0_4 l0_4.length c0_4)] 25 (0,0)))∧Aside0 (Below w.heap.size w w'))
    case atStart=>exact ⟨(0),zq7,H',⟨Nat.le_refl _⟩,⟨zq38⟩,⟨zq39⟩⟩
    case round =>
     clear H';try clear c1
     try clear c2
     try clear p2
     try clear c5
     try clear c7
     try clear c8
     try clear c8b0
     try clear c8b1
     try clear c10
     try clear c14
     try clear c16
     try clear c17
     try clear c17b0
     try clear c17b1
     try clear c17b2
     try clear c21
     try clear c21b0
     try clear c21b1
     try clear c24
     try clear c25
     try clear hcz11_0
     try clear hcz11_1
     try clear hcz11_2
     try clear hcz11_3
     try clear hcz11_4
     try clear hcz12_0
     try clear hcz12_1
     try clear hcz12_2
     try clear hcz12_3
     try clear hcz12_4
     try clear hcz13_0
     try clear hcz13_1
     try clear hcz13_2
     try clear hcz13_3
     try clear hcz13_4
     try clear hcz18_0
     try clear hcz18_1
     try clear hcz18_2
     try clear hcz18_3
     try clear hcz18_4
     try clear hcz20_0
     try clear hcz20_1
     try clear hcz20_2
     try clear hcz20_3
     try clear hcz20_4
     try clear hcz22_0
     try clear hcz22_1
     try clear hcz22_2
     try clear hcz22_3
     try clear hcz22_4
     try clear hcz24_0
     try clear hcz24_1
     try clear hcz24_2
     try clear hcz24_3
     try clear hcz24_4
     try clear hcz25_0
     try clear hcz25_1
     try clear hcz25_2
     try clear hcz25_3
     try clear hcz25_4
     try clear hcz27_0
     try clear hcz27_1
     try clear hcz27_2
     try clear hcz27_3
     try clear hcz27_4
     try clear hcz9_0
     try clear hcz9_1
     try clear hcz9_2
     try clear hcz9_3
     try clear hcz9_4
     try clear hfz11_0
     try clear hfz11_1
     try clear hfz11_2
     try clear hfz11_3
     try clear hfz11_4
     try clear hfz12_0
     try clear hfz12_1
     try clear hfz12_2
     try clear hfz12_3
     try clear hfz12_4
     try clear hfz13_0
     try clear hfz13_1
     try clear hfz13_2
     try clear hfz13_3
     try clear hfz13_4
     try clear hfz18_0
     try clear hfz18_1
     try clear hfz18_2
     try clear hfz18_3
     try clear hfz18_4
     try clear hfz20_0
     try clear hfz20_1
     try clear hfz20_2
     try clear hfz20_3
     try clear hfz20_4
     try clear hfz22_0
     try clear hfz22_1
     try clear hfz22_2
     try clear hfz22_3
     try clear hfz22_4
     try clear hfz24_0
     try clear hfz24_1
     try clear hfz24_2
     try clear hfz24_3
     try clear hfz24_4
     try clear hfz25_0
     try clear hfz25_1
     try clear hfz25_2
     try clear hfz25_3
     try clear hfz25_4
     try clear hfz27_0
     try clear hfz27_1
     try clear hfz27_2
     try clear hfz27_3
     try clear hfz27_4
     try clear hfz9_0
     try clear hfz9_1
     try clear hfz9_2
     try clear hfz9_3
     try clear hfz9_4
     try clear p2
     obtain ⟨x3_2,rfl,HA,HK2,BK149,HB⟩:=hrel
     cases gk with
     | zero=>exact absurd HA.out (by simp [rf48_Check.l0])
     | succ k2 =>
      have H:=HA.out;clear HA;simp only [rf48_Check.l0] at H
      replace H:=ifI H;rcases H with ⟨c28,H⟩ | ⟨c28,H⟩
      ·have c28b0:decide (x3_2 < (l0_1.length:Int))=true:=decide_eq_true c28;clear c28;replace H:=ifI H;rcases H with ⟨c29,H⟩ | ⟨c29,H⟩
       ·have c29b0:decide (0≤x3_2)=true:=decide_eq_true c29;clear c29;replace H:=bdI H;obtain ⟨t155,A30,H⟩:=H;(try dsimp only at H)
        replace H:=ifI H;rcases H with ⟨c31,H⟩ | ⟨c31,H⟩
        ·obtain ⟨c31b0,c31b1⟩:=eqI c31;clear c31;have H':=sd H;clear H;obtain ⟨_,_,_,_,_,_,_,_,_,_⟩:=bk5 BK149;have p154:0≤(x3_2:Int):=od;have q154:x3_2 < (l0_1.length:Int):=od;obtain ⟨ad154,e154,hx154_0,hx154_1,hx154_2,hx154_3⟩:=at_T48 HR0_1.out x3_2 p154 q154
         cases e154
         replace hx154_0:=(HB.out.cell (World.block_lt_of_cell? w _ hx154_0)).trans hx154_0;replace hx154_1:=(HB.out.cell (World.block_lt_of_cell? w _ hx154_1)).trans hx154_1;replace hx154_2:=(HB.out.cell (World.block_lt_of_cell? w _ hx154_2)).trans hx154_2;replace hx154_3:=(HB.out.cell (World.block_lt_of_cell? w _ hx154_3)).trans hx154_3;replace p154:=eq_true p154;replace q154:=eq_true q154;go_wp2_with (first | ((with_reducible refine gate_callee (f:=26) rfl ?_);refine gL 50 Tryz.func26 #[.agg #[.int .i64 ((rd_T48 l0_1 x3_2).f0),.int .i64 ((rd_T48 l0_1 x3_2).f1),.string ((rd_T48 l0_1 x3_2).f2),.int .i64 ((rd_T48 l0_1 x3_2).f3)]] ?_;(with_reducible refine (rf48_condition.calls k2 ((rd_T48 l0_1 x3_2).f0) ((rd_T48 l0_1 x3_2).f1) ((rd_T48 l0_1 x3_2).f2) ((rd_T48 l0_1 x3_2).f3) t155 _ A30.out).mono ?_);rintro e w33 ⟨rfl,hb⟩;refine ⟨_,rfl,?_⟩;replace BK149:=bkm BK149 hb;replace HB:=hbm HB hb;clear hb))
         go_roundg k2
         case measure=>have:=HJ1.out;have:=HK2.out;omega
         case rel=>exact ⟨(wrap64 (x3_2+1)),zq7,H',⟨zq23⟩,⟨zq38⟩,⟨zq39⟩⟩
        obtain ⟨c31b0,c31b1⟩:=neI c31;obtain rfl:=Option.some.inj H;obtain ⟨_,_,_,_,_,_,_,_,_,_⟩:=bk5 BK149;have p154:0≤(x3_2:Int):=od;have q154:x3_2 < (l0_1.length:Int):=od;obtain ⟨ad154,e154,hx154_0,hx154_1,hx154_2,hx154_3⟩:=at_T48 HR0_1.out x3_2 p154 q154
        cases e154
        replace hx154_0:=(HB.out.cell (World.block_lt_of_cell? w _ hx154_0)).trans hx154_0;replace hx154_1:=(HB.out.cell (World.block_lt_of_cell? w _ hx154_1)).trans hx154_1;replace hx154_2:=(HB.out.cell (World.block_lt_of_cell? w _ hx154_2)).trans hx154_2;replace hx154_3:=(HB.out.cell (World.block_lt_of_cell? w _ hx154_3)).trans hx154_3;replace p154:=eq_true p154;replace q154:=eq_true q154;go_wp2_with (first | ((with_reducible refine gate_callee (f:=26) rfl ?_);refine gL 50 Tryz.func26 #[.agg #[.int .i64 ((rd_T48 l0_1 x3_2).f0),.int .i64 ((rd_T48 l0_1 x3_2).f1),.string ((rd_T48 l0_1 x3_2).f2),.int .i64 ((rd_T48 l0_1 x3_2).f3)]] ?_;(with_reducible refine (rf48_condition.calls k2 ((rd_T48 l0_1 x3_2).f0) ((rd_T48 l0_1 x3_2).f1) ((rd_T48 l0_1 x3_2).f2) ((rd_T48 l0_1 x3_2).f3) t155 _ A30.out).mono ?_);rintro e w35 ⟨rfl,hb⟩;refine ⟨_,rfl,?_⟩;replace BK149:=bkm BK149 hb;replace HB:=hbm HB hb;clear hb))
        go_ret
        exact ⟨zq4,zq39⟩
       exact absurd H (by simp)
      have c28b0:decide (x3_2 < (l0_1.length:Int))=false:=decide_eq_false c28;clear c28;obtain rfl:=Option.some.inj H;obtain ⟨_,_,_,_,_,_,_,_,_,_⟩:=bk5 BK149;go_wp2
      go_ret
      exact ⟨zq4,zq39⟩
   replace c16:=Bool.eq_false_iff.mpr c16;subst c16;rw [if_neg Bool.false_ne_true] at H;obtain rfl:=Option.some.inj H;obtain ⟨_,_,_,_,_,_,_,_,_,_⟩:=bk5 BK149;go_wp2_with (first | ((with_reducible refine gate_callee (f:=25) rfl ?_);refine gL 28 Tryz.func25 #[.slice A0_4 l0_4.length c0_4] ?_;(with_reducible refine (rf09_Right.calls kj1 _ _ l0_4 false _ ?side1 ?side2 A15.out).mono ?_);(case side1=>exact zq40);(case side2=>exact HC0_4.out);rintro e w38 ⟨rfl,hb⟩;refine ⟨_,rfl,?_⟩;replace BK149:=bkm BK149 hb;replace HB:=hbm HB hb;clear hb))
   go_ret
   exact ⟨zq4,zq39⟩
def rf09_Same.l0:Nat→List (S50)→List (S50)→Int→Option (Bool)
 | 0,_,_,_=>none
 | k+1,x0,x1,x5=>if x5 < (x0.length:Int) then (if 0≤x5 then (if x5 < (x1.length:Int) then (if (!((((rd_T50 x0 x5).f0).toList) == (((rd_T50 x1 x5).f0).toList)) || (!((((rd_T50 x0 x5).f1).toList) == (((rd_T50 x1 x5).f1).toList))))=true then (some false) else (rf09_Same.l0 k x0 x1 (wrap64 (x5+1)))) else (none)) else (none)) else (some true)
def rf09_Same.f (k:Nat) (l0:List (S50)) (l1:List (S50)):Option (Bool):=if (l0.length:Int)=(l1.length:Int) then (rf09_Same.l0 k l0 l1 0) else (some false)
theorem rf09_Same.calls (k:Nat) (A0:Option Addr) (c0:Nat) (l0:List (S50)) (A1:Option Addr) (c1:Nat) (l1:List (S50)) (r:Bool) (w:World) (hr0:Kd.C k50 w A0 l0.length l0) (hc0:l0.length≤c0) (hr1:Kd.C k50 w A1 l1.length l1) (hc1:l1.length≤c1) (h:rf09_Same.f k l0 l1=some r) :
  Calls Tryz.prog 42 #[.slice A0 l0.length c0,.slice A1 l1.length c1] w fun e w'=>e=.returned (.bool r)∧Drawn0 w w':=by
 have hu50:=Tryz.underlying50;have HR0:=sd hr0;have HC0:=sd hc0;clear hr0 hc0;have HR1:=sd hr1;have HC1:=sd hc1;clear hr1 hc1;have H:=h;clear h;unfold rf09_Same.f at H;replace H:=ifI H;rcases H with ⟨c3,H⟩ | ⟨c3,H⟩
 ·obtain ⟨c3b0,c3b1⟩:=eqI c3;have c3b2:(l0.length == l1.length)=true:=by first | simpa using c3 | (simp at c3 ⊢;omega)
  clear c3;have H':=sd H;clear H;go_enter Tryz.func42,Tryz.ntmps42
  go_wp2
  repeat (go_quiet (fail);try go_wp2)
  go_loopg [5] k (fun kq v5 w'=>∃ (x5_1:Int),v5=.int .i64 x5_1∧Aside0 (rf09_Same.l0 kq l0 l1 x5_1=some r)∧Aside0 (kq≤k)∧Drawn0 w w')
  case atStart=>exact ⟨(0),zq7,H',⟨Nat.le_refl _⟩,zq16⟩
  case round =>
   clear H';try clear c1
   try clear p2
   try clear c3
   try clear c3b0
   try clear c3b1
   try clear c3b2
   obtain ⟨x5_1,rfl,HA,HK1,⟨m1,rfl⟩⟩:=hrel
   cases gk with
   | zero=>exact absurd HA.out (by simp [rf09_Same.l0])
   | succ k1 =>
    have H:=HA.out;clear HA;simp only [rf09_Same.l0] at H
    replace H:=ifI H;rcases H with ⟨c4,H⟩ | ⟨c4,H⟩
    ·have c4b0:decide (x5_1 < (l0.length:Int))=true:=decide_eq_true c4;clear c4;replace H:=ifI H;rcases H with ⟨c5,H⟩ | ⟨c5,H⟩
     ·have c5b0:decide (0≤x5_1)=true:=decide_eq_true c5;clear c5;replace H:=ifI H;rcases H with ⟨c6,H⟩ | ⟨c6,H⟩
      ·have c6b0:decide (x5_1 < (l1.length:Int))=true:=decide_eq_true c6;clear c6;replace H:=ifI H;rcases H with ⟨c7,H⟩ | ⟨c7,H⟩
       ·have c7b0:(!((((rd_T50 l0 x5_1).f0).toList) == (((rd_T50 l1 x5_1).f0).toList)) || (!((((rd_T50 l0 x5_1).f1).toList) == (((rd_T50 l1 x5_1).f1).toList))))=true:=c7;clear c7;obtain rfl:=Option.some.inj H;have p243:0≤(x5_1:Int):=od;have q243:x5_1 < (l0.length:Int):=od;obtain ⟨ad243,e243,hx243_0,hx243_1⟩:=at_T50 HR0.out x5_1 p243 q243
        cases e243
        replace p243:=eq_true p243;replace q243:=eq_true q243;have p244:0≤(x5_1:Int):=od;have q244:x5_1 < (l1.length:Int):=od;obtain ⟨ad244,e244,hx244_0,hx244_1⟩:=at_T50 HR1.out x5_1 p244 q244
        cases e244
        replace p244:=eq_true p244;replace q244:=eq_true q244;go_wp2
        repeat (go_quiet (fail);try go_wp2)
        go_ret
        exact ⟨zq7,zq16⟩
       have c7b0:(!((((rd_T50 l0 x5_1).f0).toList) == (((rd_T50 l1 x5_1).f0).toList)) || (!((((rd_T50 l0 x5_1).f1).toList) == (((rd_T50 l1 x5_1).f1).toList))))=false:=by simpa using c7
       clear c7;have H':=sd H;clear H;have p243:0≤(x5_1:Int):=od;have q243:x5_1 < (l0.length:Int):=od;obtain ⟨ad243,e243,hx243_0,hx243_1⟩:=at_T50 HR0.out x5_1 p243 q243
       cases e243
       replace p243:=eq_true p243;replace q243:=eq_true q243;have p244:0≤(x5_1:Int):=od;have q244:x5_1 < (l1.length:Int):=od;obtain ⟨ad244,e244,hx244_0,hx244_1⟩:=at_T50 HR1.out x5_1 p244 q244
       cases e244
       replace p244:=eq_true p244;replace q244:=eq_true q244;go_wp2
       repeat (go_quiet (fail);try go_wp2)
       go_roundg k1
       case measure=>have:=HK1.out;omega
       case rel=>exact ⟨(wrap64 (x5_1+1)),zq7,H',⟨by have:=HK1.out;omega⟩,zq16⟩
      exact absurd H (by simp)
     exact absurd H (by simp)
    have c4b0:decide (x5_1 < (l0.length:Int))=false:=decide_eq_false c4;clear c4;obtain rfl:=Option.some.inj H;go_wp2
    repeat (go_quiet (fail);try go_wp2)
    go_ret
    exact ⟨zq7,zq16⟩
 obtain ⟨c3b0,c3b1⟩:=neI c3;have c3b2:(l0.length == l1.length)=false:=by first | simpa using c3 | (simp at c3 ⊢;omega)
 obtain rfl:=Option.some.inj H;go_enter Tryz.func42,Tryz.ntmps42
 go_wp2
 repeat (go_quiet (fail);try go_wp2)
 go_ret
 exact ⟨zq7,zq16⟩
end Go.Proofs.YtkbgkekegjfkfaaGreatDoor.A
namespace Go.Proofs.YtkbgkekegjfkfaaGreatDoor.A
open Go.RowKit B WW WL WM
attribute [local go_sem] max2_int min2_int max_two min_two max_three min_three max_four min_four
set_option maxHeartbeats 8000000
set_option maxRecDepth 100000
section
variable {P:Program} {ops:Array Oper} {o:Oper} {rest:List Oper} {a:Act} {Q:Exit→Act→World→Prop} {Kc:Act→World→Prop}
theorem strs_app {w0 W:World} (base:Nat) (hgd:o.guard=none) (s x:Operand) (t:TypeId) (ho:o.op=.call { callee:=.builtin .append,args:=#[s,x],argTypes:=#[t,t] }) (ht:P.underlying t=some (.slice 9)) (hinfo:(P.info? 9).map (fun i=>(i.zero,i.size,i.bytes))=some (some (.string ⟨#[]⟩),1,16))
  (v:Value) (xs ys:List ByteArray) (hs:a.eval s=v) (hx:a.eval x=.slice (some ⟨W.heap.size,0,none⟩) ys.length ys.length) (HO:Kd.R Kd.string 9 W base (fun _=>True) v xs) (hys:ys.length≤1000) (hl:xs.length≤100000000) (HB:Below base w0 W) (hbase:base≤W.heap.size)
  (h:∀ v1 w1,Kd.R Kd.string 9 w1 base (fun _=>True) v1 (xs++ys)→Below base w0 w1→W.grownBy w1 v.ownBlock→wpList P ops Q rest (a.put o.dst v1) w1) :
  wpList P ops Q (o :: rest) a (W.alloc (.cells (ys.map Value.string).toArray 9)):=by
 have hb:=below_alloc (Below.refl W.heap.size W) (Obj.cells (ys.map Value.string).toArray 9);refine Kd.R_append_rows Kd.string (Rr:=fun x cs=>cs=[.string x]) (w0:=w0) base hgd s x t 9 (.string ⟨#[]⟩) 16 ho ht hinfo rfl (by decide) (by decide) v xs ys (some ⟨W.heap.size,0,none⟩) ys.length ys.length (fun _=>True) (fun _=>False) hs hx (Kd.R_below HO hb) (strs_C ys (by omega) W) (fun _ _ h=>h) (fun _ hk=>hk.elim) (fun _ _=>trivial) (HB.alloc hbase _) (Nat.le_trans hbase hb.size) (by omega) ?_;intro v1 w1 hR hB hg _;exact h v1 w1 hR hB (grown_alloc hg)
theorem strs_step {w0 W:World} (base:Nat) (hw:Region.wanted o (yielded ops a.tmps)=true) (s x:Operand) (t:TypeId) (ho:o.op=.call { callee:=.builtin .append,args:=#[s,x],argTypes:=#[t,t] }) (ht:P.underlying t=some (.slice 9)) (hinfo:(P.info? 9).map (fun i=>(i.zero,i.size,i.bytes))=some (some (.string ⟨#[]⟩),1,16))
  (v:Value) (xs ys:List ByteArray) (hs:a.eval s=v) (hx:a.eval x=.slice (some ⟨W.heap.size,0,none⟩) ys.length ys.length) (HO:Kd.R Kd.string 9 W base (fun _=>True) v xs) (hys:ys.length≤1000) (hl:xs.length≤100000000) (HB:Below base w0 W) (hbase:base≤W.heap.size)
  (h:∀ v1 w1,Kd.R Kd.string 9 w1 base (fun _=>True) v1 (xs++ys)→Below base w0 w1→W.grownBy w1 v.ownBlock→Kc (a.put o.dst v1) w1) :
  if Region.wanted o (yielded ops a.tmps)=true then Oper.wp P o a (W.alloc (.cells (ys.map Value.string).toArray 9)) Kc Q else Kc (a.put o.dst undef) (W.alloc (.cells (ys.map Value.string).toArray 9)):=by
 have hb:=below_alloc (Below.refl W.heap.size W) (Obj.cells (ys.map Value.string).toArray 9);refine Kd.R_append_rows_step Kd.string (Rr:=fun x cs=>cs=[.string x]) (w0:=w0) base hw s x t 9 (.string ⟨#[]⟩) 16 ho ht hinfo rfl (by decide) (by decide) v xs ys (some ⟨W.heap.size,0,none⟩) ys.length ys.length (fun _=>True) (fun _=>False) hs hx (Kd.R_below HO hb) (strs_C ys (by omega) W) (fun _ _ h=>h) (fun _ hk=>hk.elim) (fun _ _=>trivial) (HB.alloc hbase _) (Nat.le_trans hbase hb.size) (by omega) ?_;intro v1 w1 hR hB hg _;exact h v1 w1 hR hB (grown_alloc hg)
end
end Go.Proofs.YtkbgkekegjfkfaaGreatDoor.A
namespace Go.Proofs.YtkbgkekegjfkfaaGreatDoor.A
open Go.RowKit B WW WL WM
attribute [local go_sem] max2_int min2_int max_two min_two max_three min_three max_four min_four
set_option maxHeartbeats 8000000
set_option maxRecDepth 100000
attribute [local go_sem high] eqA48
mutual
def rf48_Same.j0:Nat→Bool→ByteArray→List (S48)→ByteArray→ByteArray→List (S50)→ByteArray→List (S48)→ByteArray→ByteArray→List (S50)→Option (Bool)
 | 0,_,_,_,_,_,_,_,_,_,_,_=>none
 | k+1,x41,x246000,x246001,x246002,x246003,x246004,x247000,x247001,x247002,x247003,x247004=>if x41=true then (some false) else (rf48_Same.l0 k 0 x246000 x246001 x246002 x246003 x246004 x247000 x247001 x247002 x247003 x247004)
def rf48_Same.l0:Nat→Int→ByteArray→List (S48)→ByteArray→ByteArray→List (S50)→ByteArray→List (S48)→ByteArray→ByteArray→List (S50)→Option (Bool)
 | 0,_,_,_,_,_,_,_,_,_,_,_=>none
 | k+1,x5,x246000,x246001,x246002,x246003,x246004,x247000,x247001,x247002,x247003,x247004=>if x5 < (x246001.length:Int) then (if 0≤x5 then (if x5 < (x247001.length:Int) then (if (!(((rd_T48 x246001 x5).f0) == ((rd_T48 x247001 x5).f0)) || (!(((rd_T48 x246001 x5).f1) == ((rd_T48 x247001 x5).f1)) || (!((((rd_T48 x246001 x5).f2).toList) == (((rd_T48 x247001 x5).f2).toList)) || (!(((rd_T48 x246001 x5).f3) == ((rd_T48 x247001 x5).f3))))))=true then (some false) else (rf48_Same.l0 k (wrap64 (x5+1)) x246000 x246001 x246002 x246003 x246004 x247000 x247001 x247002 x247003 x247004)) else (none)) else (none)) else (some true)
end
def rf48_Same.f (k:Nat) (a0_0:ByteArray) (l0_1:List (S48)) (a0_2:ByteArray) (a0_3:ByteArray) (l0_4:List (S50)) (a1_0:ByteArray) (l1_1:List (S48)) (a1_2:ByteArray) (a1_3:ByteArray) (l1_4:List (S50)):Option (Bool):=if a0_0.toList=a1_0.toList then (if a0_2.toList=a1_2.toList then (if a0_3.toList=a1_3.toList then (if (l0_1.length:Int)=(l1_1.length:Int) then ((rf09_Same.f k l0_4 l1_4).bind fun t247=>(rf48_Same.j0 k (!t247) a0_0 l0_1 a0_2 a0_3 l0_4 a1_0 l1_1 a1_2 a1_3 l1_4)) else (rf48_Same.j0 k true a0_0 l0_1 a0_2 a0_3 l0_4 a1_0 l1_1 a1_2 a1_3 l1_4)) else (rf48_Same.j0 k true a0_0 l0_1 a0_2 a0_3 l0_4 a1_0 l1_1 a1_2 a1_3 l1_4)) else (rf48_Same.j0 k true a0_0 l0_1 a0_2 a0_3 l0_4 a1_0 l1_1 a1_2 a1_3 l1_4)) else (rf48_Same.j0 k true a0_0 l0_1 a0_2 a0_3 l0_4 a1_0 l1_1 a1_2 a1_3 l1_4)
end Go.Proofs.YtkbgkekegjfkfaaGreatDoor.A
