-- By pack.py, a program of this session's.
import Derived.Test.YtkbgkekegjfkfaaGreatDoorY0
import Derived.Test.YtkbgkekegjfkfaaGreatDoorY1
set_option linter.unusedVariables false
set_option linter.unusedSimpArgs false
namespace Go.Proofs.YtkbgkekegjfkfaaGreatDoor.WW
open Go.RowKit
theorem ReadsInt.below {w w1:World} {k:IntKind} {A:Option Addr} {n:Nat} {xs:List Int} (h:ReadsInt w k A n xs) (hb:Below w.heap.size w w1):ReadsInt w1 k A n xs :=
  ⟨h.1,h.2.1,fun hn=>by
    obtain ⟨ad,e,hc⟩:=h.2.2 hn;exact ⟨ad,e,fun j hj=>pw_cell_below hb (hc j hj)⟩⟩
theorem Ev.bind {α β:Type} {g:Nat→Option α} {f:Nat→α→Option β} {a:α} {r:β} (h:Ev g a) (k:Ev (fun n=>f n a) r):Ev (fun n=>(g n).bind (f n)) r:=by
  obtain ⟨K,h⟩:=h;obtain ⟨K',k⟩:=k;refine ⟨max K K',fun n hn=>?_⟩;have h1:=h n (by omega);have h2:=k n (by omega);simp only [h1,Option.bind_some]
  exact h2
theorem Ev.step {α:Type} {g f:Nat→Option α} {r:α} (h:∀ k,g (k+1)=f k) (k:Ev f r):Ev g r:=by
  obtain ⟨K,k⟩:=k;refine ⟨K+1,fun n hn=>?_⟩;obtain ⟨m,rfl⟩:∃ m,n=m+1:=⟨n - 1,by omega⟩
  rw [h];exact k m (by omega)
theorem blk_alloc {w:World} {g:Nat} {o:Obj} (h:w.heap[g]?=some o) (o':Obj):(w.alloc o').heap[g]?=some o:=(Below.heap_alloc w o' g (blk_lt h)).trans h
end Go.Proofs.YtkbgkekegjfkfaaGreatDoor.WW
namespace Go.Proofs.YtkbgkekegjfkfaaGreatDoor.WW
open Go.RowKit
namespace Kd
def H {α:Type} (d:Kd α) (e:Nat) (w:World) (base:Nat) (ok:Nat→Prop) (v:Value) (xs:List α) (i:Int) (oki:Nat→Prop) (c:List Value):Prop :=
  (∀ k,oki k→ok k)∧∃ f,(gap f d i.toNat c).R e w base (fun k=>ok k∧¬ oki k) v xs.zipIdx
theorem Heap.C {α:Type} {d:Kd α} (hd:Heap d) {w w1:World} {A:Option Addr} {n:Nat} {xs:List α} (hb:∀ k,k < w.heap.size→w1.heap[k]?=w.heap[k]?) (h:d.C w A n xs):d.C w1 A n xs :=
  ⟨h.1,h.2.1,fun hn=>by
    obtain ⟨ad,e,hc⟩:=h.2.2 hn;refine ⟨ad,e,fun j p hj=>?_⟩;obtain ⟨c,hs,hr,hcell⟩:=hc j p hj;exact ⟨c,hs,hd.K hb hr,fun i u hu=>cell_heap hb (hcell i u hu)⟩⟩
def F {α:Type} (d:Kd α) (W:World) (ok:Nat→Prop) (A:Option Addr) (n:Nat) (xs:List α):Prop:=Foot (fun W=>d.C W A n xs) W ok
def FK {α:Type} (d:Kd α) (W:World) (ok:Nat→Prop) (x:α) (c:List Value):Prop:=Foot (fun W=>d.K W x c) W ok
def V {α:Type} (d:Kd α) (_e:Nat) (W:World) (_base:Nat) (ok:Nat→Prop) (v:Value) (xs:List α):Prop:=∃ A c,v=.slice A xs.length c∧xs.length≤c∧F d W ok A xs.length xs
end Kd
end Go.Proofs.YtkbgkekegjfkfaaGreatDoor.WW
namespace Go.Proofs.YtkbgkekegjfkfaaGreatDoor.B
open Go.RowKit WW WL WM
section
variable {P:Program} {ops:Array Oper} {rest:List Oper} {o:Oper} {Q:Exit→Act→World→Prop} {a:Act} {w V W w1:World} {g g':Nat}
theorem bk2 {w:World} {g t:Nat} {v0 v1:Value} (B:Aside0 (w.heap[g]?=some (.cells #[v0,v1] t (0,0)))):w.cell? ⟨g,0,none⟩=some v0∧w.cell? ⟨g,1,none⟩=some v1∧w.frozen? ⟨g,0,none⟩=false∧w.frozen? ⟨g,1,none⟩=false:=⟨(blk_cell B.out 0).trans rfl,(blk_cell B.out 1).trans rfl,blk_frozen B.out 0,blk_frozen B.out 1⟩
theorem bk4 {w:World} {g t:Nat} {v0 v1 v2 v3:Value} (B:Aside0 (w.heap[g]?=some (.cells #[v0,v1,v2,v3] t (0,0)))):w.cell? ⟨g,0,none⟩=some v0∧w.cell? ⟨g,1,none⟩=some v1∧w.cell? ⟨g,2,none⟩=some v2∧w.cell? ⟨g,3,none⟩=some v3∧w.frozen? ⟨g,0,none⟩=false∧w.frozen? ⟨g,1,none⟩=false∧w.frozen? ⟨g,2,none⟩=false∧w.frozen? ⟨g,3,none⟩=false:=⟨(blk_cell B.out 0).trans rfl,(blk_cell B.out 1).trans rfl,(blk_cell B.out 2).trans rfl,(blk_cell B.out 3).trans rfl,blk_frozen B.out 0,blk_frozen B.out 1,blk_frozen B.out 2,blk_frozen B.out 3⟩
theorem hbm (H:Aside0 (Below w.heap.size w V)) (hb:Below W.heap.size W w1) (hs:Below w.heap.size w V→Below w.heap.size w W:=by (intro h;repeat (first | (with_reducible first | exact h | apply below_alloc | apply pw_below_drewN | apply below_drew1 | refine below_set ?_ (Aside0.out ‹_›)) | exact h))):Aside0 (Below w.heap.size w w1):=⟨below_step (hs H.out) hb⟩
theorem gem (hg:g=W.heap.size) (H:Aside0 (Below w.heap.size w V)) (hs:Below w.heap.size w V→Below w.heap.size w W:=by (intro h;repeat (first | (with_reducible first | exact h | apply below_alloc | apply pw_below_drewN | apply below_drew1 | refine below_set ?_ (Aside0.out ‹_›)) | exact h))):Aside0 (w.heap.size≤g):=⟨by rw [hg];exact below_size (hs H.out)⟩
end
end Go.Proofs.YtkbgkekegjfkfaaGreatDoor.B
namespace Go.Proofs.YtkbgkekegjfkfaaGreatDoor.WW
open Go.RowKit
namespace Foot
variable {P Q:World→Prop} {W W1:World} {ok ok':Nat→Prop}
theorem mono (h:Foot P W ok) (hok:∀ k,ok k→ok' k):Foot P W ok':=fun W' hW=>h W' (fun k hk hlt=>hW k (hok k hk) hlt)
theorem step (h:Foot P W ok) (hm:∀ k,ok k→k < W.heap.size→W1.heap[k]?=W.heap[k]?):Foot P W1 ok:=fun W' hW=>h W' (fun k hk hlt=>(hW k hk (heap_lt (hm k hk hlt) hlt)).trans (hm k hk hlt))
end Foot
end Go.Proofs.YtkbgkekegjfkfaaGreatDoor.WW
namespace Go.Proofs.YtkbgkekegjfkfaaGreatDoor.A
open Go.RowKit B WW WL WM
theorem zq16 {P:Prop} (h:P:=by repeat (first | exact Drawn0.refl _ | apply Drawn0.step)):P:=h
theorem zq35 {P:Prop} (h:P:=by (with_reducible repeat (first | refine blk_drewN ?_ _ | refine blk_drew ?_ | refine blk_alloc ?_ _));exact BK134.out):P:=h
theorem zq36 {P:Prop} (h:P:=by repeat (first | (with_reducible first | exact HB.out | apply below_alloc | apply pw_below_drewN | apply below_drew1 | refine below_set ?_ GE134.out) | exact HB.out)):P:=h
end Go.Proofs.YtkbgkekegjfkfaaGreatDoor.A
namespace Go.Proofs.YtkbgkekegjfkfaaGreatDoor.WM
open Go.RowKit WW
theorem max2_int (k k':IntKind) (x y:Int):Builtin.max2 (.int k x) (.int k' y)=pure (.int k (if x < y then y else x)):=by simp only [Builtin.max2,gt_iff_lt]
theorem min2_int (k k':IntKind) (x y:Int):Builtin.min2 (.int k x) (.int k' y)=pure (.int k (if y < x then y else x)):=by simp only [Builtin.min2]
end Go.Proofs.YtkbgkekegjfkfaaGreatDoor.WM
namespace Go.Proofs.YtkbgkekegjfkfaaGreatDoor.A
open Go.RowKit B WW WL WM
attribute [local go_sem] max2_int min2_int max_two min_two max_three min_three max_four min_four
set_option maxHeartbeats 8000000
set_option maxRecDepth 100000
structure FP (bd g:Nat) (vC vT vW:Value) (w w':World):Prop where
  b:Below bd w w'
  fr:∀ i,i < w.heap.size→i≠g→some i≠vC.ownBlock→some i≠vT.ownBlock→some i≠vW.ownBlock→w'.heap[i]?=w.heap[i]?
theorem FP.refl (bd g:Nat) (vC vT vW:Value) (w:World):FP bd g vC vT vW w w:=⟨Below.refl bd w,fun _ _ _ _ _ _=>rfl⟩
theorem FP.trans {bd g:Nat} {vC vT vW:Value} {w w1 w2:World} (h:FP bd g vC vT vW w w1) (k:FP bd g vC vT vW w1 w2):FP bd g vC vT vW w w2 :=
  ⟨h.b.trans k.b,fun i h1 h2 h3 h4 h5=>(k.fr i (Nat.lt_of_lt_of_le h1 h.b.size) h2 h3 h4 h5).trans (h.fr i h1 h2 h3 h4 h5)⟩
def rf06_letter.f (a0:Int):Option (Bool):=if a0 ≥ 97 then (if a0≤122 then (some true) else (if a0 ≥ 65 then (if a0≤90 then (some true) else (some (a0 == 95))) else (some (a0 == 95)))) else (if a0 ≥ 65 then (if a0≤90 then (some true) else (some (a0 == 95))) else (some (a0 == 95)))
def rf06_digit.f (a0:Int):Option (Bool):=if a0 ≥ 48 then (some (decide (a0≤57))) else (some false)
def rf06_Code.l0:Nat→ByteArray→Int→Option (Bool)
 | 0,_,_=>none
 | k+1,x0,x3=>if x3 < (x0.size:Int) then (if 0≤x3 then ((rf06_letter.f (bt x0 x3)).bind fun t125=>(if t125=true then (rf06_Code.l0 k x0 (wrap64 (x3+1))) else ((rf06_digit.f (bt x0 x3)).bind fun t126=>(if t126=true then (rf06_Code.l0 k x0 (wrap64 (x3+1))) else (some false))))) else (none)) else (if (x0.size:Int) ≥ 1 then (some (decide ((x0.size:Int)≤12))) else (some false))
def rf06_Code.f (k:Nat) (a0:ByteArray):Option (Bool):=rf06_Code.l0 k a0 0
def rf09_named.f (k:Nat) (a0_0:ByteArray) (a0_1:ByteArray):Option (Bool):=(rf06_Code.f k a0_0).bind fun t128=>(if t128=true then ((rf06_Code.f k a0_1).bind fun t129=>(some t129)) else (some false))
def rf09_Right.T4:Bool×List (List Nat×List Nat):=(true,[([],[]),([],[]),([0,1],[0,1]),([2],[2]),([3],[3]),([4],[4]),([5,4],[5]),([6],[6]),([7,6],[6,7]),([8,6,6],[6,8]),([9],[9]),([9],[9]),([10,11,9],[9,10,11]),([12,9],[9,12]),([13,9],[9,13]),([9],[9]),([9],[9]),([16,9],[9,16]),([15,17,9],[9,15,17]),([18,9],[9,18]),([19,9],[9,19]),([14,20,9],[9,14,20]),([9,21,6],[6,9,21]),([6,22],[6,22])])
def rf09_Right.B4:List Nat:=[0,0,3,7,15,31,63,127,255,511,1023,1023,4095,8191,16383,1023,1023,66559,230399,492543,1016831,2097151,4194303,8388607]
def rf48_number.f (a0:Int):Option (Bool):=if a0=1 then (some true) else (some (a0 == 4))
def rf04_Is.f (a0:Int):Option (Bool):=if a0 ≥ 0 then (some (decide (a0≤109572))) else (some false)
def rf06_Plain.l0:Nat→ByteArray→Int→Option (Bool)
 | 0,_,_=>none
 | k+1,x0,x3=>if x3 < (x0.size:Int) then (if 0≤x3 then (if (bt x0 x3) < 32 then (some false) else (if (bt x0 x3) > 126 then (some false) else (rf06_Plain.l0 k x0 (wrap64 (x3+1))))) else (none)) else (some (decide ((x0.size:Int)≤60)))
def rf06_Plain.f (k:Nat) (a0:ByteArray):Option (Bool):=rf06_Plain.l0 k a0 0
mutual
def rf48_condition.j0:Nat→Bool→Int→Int→ByteArray→Int→Option (Int)
 | 0,_,_,_,_,_=>none
 | k+1,x10,x135000,x135001,x135002,x135003=>if x10=true then (some 10) else ((rf48_number.f x135000).bind fun t135=>(if t135=true then (if x135001 < 1 then (rf48_condition.j1 k true x135000 x135001 x135002 x135003) else (if x135001 > 3 then (rf48_condition.j1 k true x135000 x135001 x135002 x135003) else ((rf48_number.f x135000).bind fun t136=>(if t136=true then (rf48_condition.j1 k false x135000 x135001 x135002 x135003) else (if x135001=1 then (rf48_condition.j1 k false x135000 x135001 x135002 x135003) else (if x135001=4 then (rf48_condition.j1 k false x135000 x135001 x135002 x135003) else (rf48_condition.j1 k (x135001 != 5) x135000 x135001 x135002 x135003))))))) else ((rf48_number.f x135000).bind fun t137=>(if t137=true then (rf48_condition.j1 k false x135000 x135001 x135002 x135003) else (if x135001=1 then (rf48_condition.j1 k false x135000 x135001 x135002 x135003) else (if x135001=4 then (rf48_condition.j1 k false x135000 x135001 x135002 x135003) else (rf48_condition.j1 k (x135001 != 5) x135000 x135001 x135002 x135003)))))))
def rf48_condition.j1:Nat→Bool→Int→Int→ByteArray→Int→Option (Int)
 | 0,_,_,_,_,_=>none
 | k+1,x44,x135000,x135001,x135002,x135003=>if x44=true then (some 10) else (if x135000=1 then (if x135003 > 1000000000000 then (rf48_condition.j2 k true x135000 x135001 x135002 x135003) else (if x135003 < (-1000000000000) then (rf48_condition.j2 k true x135000 x135001 x135002 x135003) else (if x135000=4 then ((rf04_Is.f x135003).bind fun t138=>(if t138=true then ((rf48_number.f x135000).bind fun t139=>(if t139=true then (rf48_condition.j2 k false x135000 x135001 x135002 x135003) else (rf48_condition.j2 k (x135003 != 0) x135000 x135001 x135002 x135003))) else (rf48_condition.j2 k true x135000 x135001 x135002 x135003))) else ((rf48_number.f x135000).bind fun t140=>(if t140=true then (rf48_condition.j2 k false x135000 x135001 x135002 x135003) else (rf48_condition.j2 k (x135003 != 0) x135000 x135001 x135002 x135003)))))) else (if x135000=4 then ((rf04_Is.f x135003).bind fun t141=>(if t141=true then ((rf48_number.f x135000).bind fun t142=>(if t142=true then (rf48_condition.j2 k false x135000 x135001 x135002 x135003) else (rf48_condition.j2 k (x135003 != 0) x135000 x135001 x135002 x135003))) else (rf48_condition.j2 k true x135000 x135001 x135002 x135003))) else ((rf48_number.f x135000).bind fun t143=>(if t143=true then (rf48_condition.j2 k false x135000 x135001 x135002 x135003) else (rf48_condition.j2 k (x135003 != 0) x135000 x135001 x135002 x135003)))))
def rf48_condition.j2:Nat→Bool→Int→Int→ByteArray→Int→Option (Int)
 | 0,_,_,_,_,_=>none
 | k+1,x79,x135000,x135001,x135002,x135003=>if x79=true then (some 3) else ((rf48_number.f x135000).bind fun t144=>(if t144=true then (if x135002.toList=([]:List UInt8) then ((rf48_number.f x135000).bind fun t145=>(if t145=true then (some 0) else ((rf06_Plain.f k x135002).bind fun t146=>(if t146=true then (some 0) else (some 5))))) else (some 5)) else ((rf48_number.f x135000).bind fun t147=>(if t147=true then (some 0) else ((rf06_Plain.f k x135002).bind fun t148=>(if t148=true then (some 0) else (some 5)))))))
end
def rf48_condition.f (k:Nat) (a0_0:Int) (a0_1:Int) (a0_2:ByteArray) (a0_3:Int):Option (Int):=if a0_0 < 1 then (rf48_condition.j0 k true a0_0 a0_1 a0_2 a0_3) else (rf48_condition.j0 k (decide (a0_0 > 4)) a0_0 a0_1 a0_2 a0_3)
end Go.Proofs.YtkbgkekegjfkfaaGreatDoor.A
namespace Go.Proofs.YtkbgkekegjfkfaaGreatDoor.A
open Go.RowKit B WW WL WM
attribute [local go_sem] max2_int min2_int max_two min_two max_three min_three max_four min_four
def errW:Option Int→Value
  | none=>.nilIface
  | some c=>.iface 0 (.int .i64 c)
theorem errW_none:errW none=.nilIface:=rfl
theorem errW_some (c:Int):errW (some c)=.iface 0 (.int .i64 c):=rfl
structure S48 where
  f0:Int
  f1:Int
  f2:ByteArray
  f3:Int
structure S50 where
  f0:ByteArray
  f1:ByteArray
def z50:S50:=⟨(⟨#[]⟩:ByteArray),(⟨#[]⟩:ByteArray)⟩
def k50:Kd S50:=Kd.iso (Kd.pair Kd.string Kd.string) (fun x:S50=>(x.f0,x.f1))
theorem k50_open {w:World} {x:S50} {cs:List Value} (h:k50.K w x cs):cs=[.string x.f0,.string x.f1]:=by
  obtain ⟨_,_,rfl,rfl,rfl⟩:=h;exact rfl
def rd_T50 (xs:List S50) (i:Int):S50:=xs.getD i.toNat z50
structure S73 where
  f0:Int
  f1:ByteArray
  f2:Int
end Go.Proofs.YtkbgkekegjfkfaaGreatDoor.A
namespace Go.Proofs.YtkbgkekegjfkfaaGreatDoor.WL
section
variable {P:Program} {ops:Array Oper} {Q:Exit→Act→World→Prop} {md:Region.Mode} {S:World→Prop} {ds:List Nat}
theorem i64_w (n:Int):IntKind.i64.wrap n=Go.RowKit.wrap64 n:=by unfold Go.RowKit.wrap64;exact IntKind.wrap_i64 n
theorem i32_w (n:Int):IntKind.i32.wrap n=Go.RowKit.wrap32 n:=by unfold Go.RowKit.wrap32;exact IntKind.wrap_i32 n
end
end Go.Proofs.YtkbgkekegjfkfaaGreatDoor.WL
namespace Go.Proofs.YtkbgkekegjfkfaaGreatDoor.A
open Go.RowKit B WW WL WM
attribute [local go_sem] max2_int min2_int max_two min_two max_three min_three max_four min_four
set_option maxHeartbeats 8000000
set_option maxRecDepth 100000
structure PR where
  nm:ByteArray
  cs:List S48
  acc:ByteArray
  par:ByteArray
  tg:List S50
  st:Int
  ws:List S73
def PR.cells (p:PR) (vC vT vW:Value):Array Value:=#[.string p.nm,vC,.string p.acc,.string p.par,vT,.int .i64 p.st,vW]
def rf09_Right.l0:Nat→List (S50)→Int→Option (Bool)
 | 0,_,_=>none
 | k+1,x0,x3=>if x3 < (x0.length:Int) then (if 0≤x3 then ((rf09_named.f k ((rd_T50 x0 x3).f0) ((rd_T50 x0 x3).f1)).bind fun t131=>(if t131=true then (if x3 > 0 then (if 0≤(wrap64 (x3 - 1)) then (if (wrap64 (x3 - 1)) < (x0.length:Int) then (if ((Op.bytesLess (((rd_T50 x0 (wrap64 (x3 - 1))).f0).toList) (((rd_T50 x0 x3).f0).toList))=true) then (rf09_Right.l0 k x0 (wrap64 (x3+1))) else (some false)) else (none)) else (none)) else (rf09_Right.l0 k x0 (wrap64 (x3+1)))) else (some false))) else (none)) else (some (decide ((x0.length:Int)≤6)))
def rf09_Right.f (k:Nat) (l0:List (S50)):Option (Bool):=rf09_Right.l0 k l0 0
end Go.Proofs.YtkbgkekegjfkfaaGreatDoor.A
namespace Go.Proofs.YtkbgkekegjfkfaaGreatDoor.WW
open Go.RowKit
section
variable {α:Type} {enc:α→Value} {d:α}
theorem ReadsOf.below {w w1:World} {A:Option Addr} {n:Nat} {xs:List α} (h:ReadsOf enc d w A n xs) (hb:Below w.heap.size w w1):ReadsOf enc d w1 A n xs :=
  ⟨h.1,h.2.1,fun hn=>by
    obtain ⟨ad,e,hc⟩:=h.2.2 hn;exact ⟨ad,e,fun j hj=>pw_cell_below hb (hc j hj)⟩⟩
end
end Go.Proofs.YtkbgkekegjfkfaaGreatDoor.WW
namespace Go.Proofs.YtkbgkekegjfkfaaGreatDoor.WW
open Go.RowKit
section
variable {α:Type} {R R':α→List Value→Prop} {e:TypeId} {size:Nat} {w w1:World} {base:Nat} {v:Value} {ps:List α}
theorem OwnRow.below (h:OwnRow R e size w base v ps) (hb:Below w.heap.size w w1):OwnRow R e size w1 base v ps:=by
  obtain ⟨inner,ho,hr⟩:=h;exact ⟨inner,pw_own_below ho hb,hr⟩
end
end Go.Proofs.YtkbgkekegjfkfaaGreatDoor.WW
namespace Go.Proofs.YtkbgkekegjfkfaaGreatDoor.WW
open Go.RowKit
section
variable {P:Program} {ops:Array Oper} {rest:List Oper} {o:Oper} {a:Act} {Q:Exit→Act→World→Prop}
theorem box_event {W:World} (hgd:o.guard=none) {N:Tmp} (_hd:o.dst=some N) {cs:Array Value} {t:TypeId}
    (hrun:(execOp a.eval o).run P W=.ok (.value (.pointer (some ⟨W.heap.size,0,none⟩))) (W.alloc (.cells cs t (0,0))))
    (h:∀ g,g=W.heap.size→∀ w1,w1.heap[g]?=some (.cells cs t (0,0))→Below W.heap.size W w1→wpList P ops Q rest (a.put o.dst (.pointer (some ⟨g,0,none⟩))) w1):wpList P ops Q (o :: rest) a W :=
  Kd.event_run hgd hrun (h _ rfl _ (blk_new W _) (below_alloc (Below.refl _ _) _))
end
end Go.Proofs.YtkbgkekegjfkfaaGreatDoor.WW
namespace Go.Proofs.YtkbgkekegjfkfaaGreatDoor.B
open Go.RowKit WW WL WM
theorem bdI {α β:Type} {x:Option α} {f:α→Option β} {r:β} (h:x.bind f=some r):∃ a,Aside0 (x=some a)∧f a=some r:=by
  obtain ⟨a,h1,h2⟩:=Option.bind_eq_some_iff.mp h;exact ⟨a,⟨h1⟩,h2⟩
end Go.Proofs.YtkbgkekegjfkfaaGreatDoor.B
namespace Go.Proofs.YtkbgkekegjfkfaaGreatDoor.WW
open Go.RowKit
section
variable {w W W2:World} {S S2 S':Nat→Prop}
theorem Kept.below (h:Kept w W S) (hb:Below W.heap.size W W2):Kept w W2 S:=h.then_ (Kept.of_below hb (fun _=>False)) (fun _ hk=>hk.elim)
theorem Kept.alloc (h:Kept w W S) (o:Obj):Kept w (W.alloc o) S:=h.below (below_alloc (Below.refl _ _) o)
end
end Go.Proofs.YtkbgkekegjfkfaaGreatDoor.WW
namespace Go.Proofs.YtkbgkekegjfkfaaGreatDoor.WW
open Go.RowKit
namespace Kd
section
variable {α:Type} {d:Kd α} {e base n cc g:Nat} {ok ok' okp S:Nat→Prop} {w w1 W W1:World} {A:Option Addr} {u v v1:Value} {xs:List α} {x:α} {c:List Value}
def N {α:Type} (d:Kd α) (e:Nat) (w:World) (base:Nat) (ok:Nat→Prop) (v:Value) (xs:List α):Prop :=
  (∀ k,v.ownBlock=some k→ok k)∧∃ rows:List (List Value),rows.length=xs.length∧(raw d.sz).R e w base (fun k=>some k=v.ownBlock) v rows∧∀ (j:Nat) (x:α) (c:List Value),xs[j]?=some x→rows[j]?=some c→FK d w (fun k=>ok k∧some k≠v.ownBlock) x c
end
end Kd
end Go.Proofs.YtkbgkekegjfkfaaGreatDoor.WW
namespace Go.Proofs.YtkbgkekegjfkfaaGreatDoor.B
open Go.RowKit WW WL WM
section
variable {P:Program} {ops:Array Oper} {rest:List Oper} {o:Oper} {Q:Exit→Act→World→Prop} {a:Act} {w V W w1:World} {g g':Nat}
theorem bxA (N:Tmp) (cs:Array Value) (t:TypeId)
    (h:∀ g,g=W.heap.size→∀ w1,w1.heap[g]?=some (.cells cs t (0,0))→Below W.heap.size W w1→wpList P ops Q rest (a.put o.dst (.pointer (some ⟨g,0,none⟩))) w1)
    (hgd:o.guard=none:=by rfl) (hd:o.dst=some N:=by rfl) (hrun:(execOp a.eval o).run P W=.ok (.value (.pointer (some ⟨W.heap.size,0,none⟩))) (W.alloc (.cells cs t (0,0))):=by first | (go_simp;done) | (go_simp;rfl)):wpList P ops Q (o :: rest) a W :=
  box_event hgd hd hrun h
theorem gL (N:Tmp) {f:FuncId} {fn:Func} (hf:P.funcs[f]?=some fn) (args:Array Value) {as_:Array Operand} {ts:Array TypeId}
    (h:Calls P f args w fun e w'=>∃ v,e=.returned v∧wpList P ops Q rest (a.put (some N) v) w')
    (hd : o.dst = some N := by rfl) (hg : o.guard = none := by rfl) (hname : (fn.name == "runtime.NumGoroutine") = false := by kernel_rfl) (hb : fn.body.isSome = true := by rfl)
    (hop:o.op=.call { callee:=.value (.func f),args:=as_,argTypes:=ts }:=by rfl)
    (hargs:as_.map a.eval=args:=by (try simp only [List.map_toArray,List.map_cons,List.map_nil]);first | done | rfl | (simp only [List.length_drop,List.length_take];rfl)):wpList P ops Q (o :: rest) a w :=
  goesL_ (some N) hd hg hf hname hb args hop hargs h
end
end Go.Proofs.YtkbgkekegjfkfaaGreatDoor.B
namespace Go.Proofs.YtkbgkekegjfkfaaGreatDoor.B
open Go.RowKit
structure WordW (W:World) (g:Nat) (kind:Int) (S:ByteArray) (i pa pe:Int):Prop where
  k0:W.cell? ⟨g,0,none⟩=some (.int .i64 kind)
  k1:W.cell? ⟨g,1,none⟩=some (.string S)
  k2:W.cell? ⟨g,2,none⟩=some (.int .i64 i)
  k3:W.cell? ⟨g+1,0,none⟩=some (.int .i64 pa)
  k4:W.cell? ⟨g+1,1,none⟩=some (.int .i64 pe)
  f0:W.frozen? ⟨g,0,none⟩=false
  f1:W.frozen? ⟨g,1,none⟩=false
  f2:W.frozen? ⟨g,2,none⟩=false
  f3:W.frozen? ⟨g+1,0,none⟩=false
  f4:W.frozen? ⟨g+1,1,none⟩=false
theorem WordW.e {W:World} {g:Nat} {kind:Int} {S:ByteArray} {i pa pe:Int} (h:WordW W g kind S i pa pe) (x:Int):WordW (W.setCell ⟨g+1,1,none⟩ (.int .i64 x)) g kind S i pa x :=
  ⟨has_other (by simp) h.k0,has_other (by simp) h.k1,has_other (by simp) h.k2,has_other (by simp) h.k3,has_same ⟨_,h.k4⟩,by rw [World.frozen?_setCell];exact h.f0,by rw [World.frozen?_setCell];exact h.f1,by rw [World.frozen?_setCell];exact h.f2,by rw [World.frozen?_setCell];exact h.f3,by rw [World.frozen?_setCell];exact h.f4⟩
end Go.Proofs.YtkbgkekegjfkfaaGreatDoor.B
namespace Go.Proofs.YtkbgkekegjfkfaaGreatDoor.A
open Go.RowKit B WW WL WM
attribute [local go_sem] max2_int min2_int max_two min_two max_three min_three max_four min_four
set_option maxHeartbeats 8000000
set_option maxRecDepth 100000
theorem rf06_letter.calls (a0:Int) (r:Bool) (w:World) (h:rf06_letter.f a0=some r) :
  Calls Tryz.prog 54 #[.int .u8 a0] w fun e w'=>e=.returned (.bool r)∧Drawn0 w w':=by
 have H:=h;clear h;unfold rf06_letter.f at H;replace H:=ifI H;rcases H with ⟨c2,H⟩ | ⟨c2,H⟩
 ·have c2b0:decide (97≤a0)=true:=decide_eq_true c2;clear c2;replace H:=ifI H;rcases H with ⟨c3,H⟩ | ⟨c3,H⟩
  ·have c3b0:decide (a0≤122)=true:=decide_eq_true c3;clear c3;obtain rfl:=Option.some.inj H;go_enter Tryz.func54,Tryz.ntmps54
   go_wp2
   go_ret
   exact ⟨zq7,zq16⟩
  have c3b0:decide (a0≤122)=false:=decide_eq_false c3;clear c3;replace H:=ifI H;rcases H with ⟨c4,H⟩ | ⟨c4,H⟩
  ·have c4b0:decide (65≤a0)=true:=decide_eq_true c4;clear c4;replace H:=ifI H;rcases H with ⟨c5,H⟩ | ⟨c5,H⟩
   ·have c5b0:decide (a0≤90)=true:=decide_eq_true c5;clear c5;obtain rfl:=Option.some.inj H;go_enter Tryz.func54,Tryz.ntmps54
    go_wp2
    go_ret
    exact ⟨zq7,zq16⟩
   have c5b0:decide (a0≤90)=false:=decide_eq_false c5;clear c5;obtain rfl:=Option.some.inj H;go_enter Tryz.func54,Tryz.ntmps54
   go_wp2
   go_ret
   exact ⟨zq7,zq16⟩
  have c4b0:decide (65≤a0)=false:=decide_eq_false c4;clear c4;obtain rfl:=Option.some.inj H;go_enter Tryz.func54,Tryz.ntmps54
  go_wp2
  go_ret
  exact ⟨zq7,zq16⟩
 have c2b0:decide (97≤a0)=false:=decide_eq_false c2;clear c2;replace H:=ifI H;rcases H with ⟨c6,H⟩ | ⟨c6,H⟩
 ·have c6b0:decide (65≤a0)=true:=decide_eq_true c6;clear c6;replace H:=ifI H;rcases H with ⟨c7,H⟩ | ⟨c7,H⟩
  ·have c7b0:decide (a0≤90)=true:=decide_eq_true c7;clear c7;obtain rfl:=Option.some.inj H;go_enter Tryz.func54,Tryz.ntmps54
   go_wp2
   go_ret
   exact ⟨zq7,zq16⟩
  have c7b0:decide (a0≤90)=false:=decide_eq_false c7;clear c7;obtain rfl:=Option.some.inj H;go_enter Tryz.func54,Tryz.ntmps54
  go_wp2
  go_ret
  exact ⟨zq7,zq16⟩
 have c6b0:decide (65≤a0)=false:=decide_eq_false c6;clear c6;obtain rfl:=Option.some.inj H;go_enter Tryz.func54,Tryz.ntmps54
 go_wp2
 go_ret
 exact ⟨zq7,zq16⟩
theorem rf06_digit.calls (a0:Int) (r:Bool) (w:World) (h:rf06_digit.f a0=some r) :
  Calls Tryz.prog 55 #[.int .u8 a0] w fun e w'=>e=.returned (.bool r)∧Drawn0 w w':=by
 have H:=h;clear h;unfold rf06_digit.f at H;replace H:=ifI H;rcases H with ⟨c2,H⟩ | ⟨c2,H⟩
 ·have c2b0:decide (48≤a0)=true:=decide_eq_true c2;clear c2;obtain rfl:=Option.some.inj H;go_enter Tryz.func55,Tryz.ntmps55
  go_wp2
  go_ret
  exact ⟨zq7,zq16⟩
 have c2b0:decide (48≤a0)=false:=decide_eq_false c2;clear c2;obtain rfl:=Option.some.inj H;go_enter Tryz.func55,Tryz.ntmps55
 go_wp2
 go_ret
 exact ⟨zq7,zq16⟩
theorem rf06_Code.calls (k:Nat) (a0:ByteArray) (r:Bool) (w:World) (h:rf06_Code.f k a0=some r) :
  Calls Tryz.prog 24 #[.string a0] w fun e w'=>e=.returned (.bool r)∧Drawn0 w w':=by
 have H:=h;clear h;unfold rf06_Code.f at H;have H':=sd H;clear H;go_enter Tryz.func24,Tryz.ntmps24
 go_wp2
 go_loopg [3] k (fun kq v3 w'=>∃ (x3_1:Int),v3=.int .i64 x3_1∧Aside0 (rf06_Code.l0 kq a0 x3_1=some r)∧Aside0 (kq≤k)∧Drawn0 w w')
 case atStart=>exact ⟨(0),zq7,H',⟨Nat.le_refl _⟩,zq16⟩
 case round =>
  clear H';obtain ⟨x3_1,rfl,HA,HK1,⟨m1,rfl⟩⟩:=hrel
  cases gk with
  | zero=>exact absurd HA.out (by simp [rf06_Code.l0])
  | succ k1 =>
   have H:=HA.out;clear HA;simp only [rf06_Code.l0] at H
   replace H:=ifI H;rcases H with ⟨c2,H⟩ | ⟨c2,H⟩
   ·have c2b0:decide (x3_1 < (a0.size:Int))=true:=decide_eq_true c2;clear c2;replace H:=ifI H;rcases H with ⟨c3,H⟩ | ⟨c3,H⟩
    ·have c3b0:decide (0≤x3_1)=true:=decide_eq_true c3;clear c3;replace H:=bdI H;obtain ⟨t125,A5,H⟩:=H;(try dsimp only at H)
     by_cases c6:t125=true
     ·subst c6;rw [if_pos rfl] at H;have H':=sd H;clear H;have p4:0≤(x3_1:Int):=od;have q4:x3_1 < (a0.size:Int):=od;have hx4:=bt_at a0 x3_1;replace p4:=eq_true p4;replace q4:=eq_true q4;go_wp2_with (first | ((with_reducible refine gate_callee (f:=54) rfl ?_);refine gL 13 Tryz.func54 #[.int .u8 (bt a0 x3_1)] ?_;(with_reducible refine (rf06_letter.calls (bt a0 x3_1) true _ A5.out).mono ?_);rintro e w' ⟨rfl,⟨nd,rfl⟩⟩;refine ⟨_,rfl,?_⟩))
      go_roundg k1
      case measure=>have:=HK1.out;omega
      case rel=>exact ⟨(wrap64 (x3_1+1)),zq7,H',⟨by have:=HK1.out;omega⟩,zq16⟩
     replace c6:=Bool.eq_false_iff.mpr c6;subst c6;rw [if_neg Bool.false_ne_true] at H;replace H:=bdI H;obtain ⟨t126,A8,H⟩:=H;(try dsimp only at H)
     by_cases c9:t126=true
     ·subst c9;rw [if_pos rfl] at H;have H':=sd H;clear H;have p4:0≤(x3_1:Int):=od;have q4:x3_1 < (a0.size:Int):=od;have hx4:=bt_at a0 x3_1;replace p4:=eq_true p4;replace q4:=eq_true q4;go_wp2_with (first | ((with_reducible refine gate_callee (f:=54) rfl ?_);refine gL 13 Tryz.func54 #[.int .u8 (bt a0 x3_1)] ?_;(with_reducible refine (rf06_letter.calls (bt a0 x3_1) false _ A5.out).mono ?_);rintro e w' ⟨rfl,⟨nd,rfl⟩⟩;refine ⟨_,rfl,?_⟩;have p7:0≤(x3_1:Int):=od;have q7:x3_1 < (a0.size:Int):=od;have hx7:=bt_at a0 x3_1;replace p7:=eq_true p7;replace q7:=eq_true q7) | (go_at_call 55;(with_reducible refine (rf06_digit.calls (bt a0 x3_1) true _ A8.out).mono ?_);rintro e w' ⟨rfl,⟨nd,rfl⟩⟩))
      go_roundg k1
      case measure=>have:=HK1.out;omega
      case rel=>exact ⟨(wrap64 (x3_1+1)),zq7,H',⟨by have:=HK1.out;omega⟩,zq16⟩
     replace c9:=Bool.eq_false_iff.mpr c9;subst c9;rw [if_neg Bool.false_ne_true] at H;obtain rfl:=Option.some.inj H;have p4:0≤(x3_1:Int):=od;have q4:x3_1 < (a0.size:Int):=od;have hx4:=bt_at a0 x3_1;replace p4:=eq_true p4;replace q4:=eq_true q4;go_wp2_with (first | ((with_reducible refine gate_callee (f:=54) rfl ?_);refine gL 13 Tryz.func54 #[.int .u8 (bt a0 x3_1)] ?_;(with_reducible refine (rf06_letter.calls (bt a0 x3_1) false _ A5.out).mono ?_);rintro e w' ⟨rfl,⟨nd,rfl⟩⟩;refine ⟨_,rfl,?_⟩;have p7:0≤(x3_1:Int):=od;have q7:x3_1 < (a0.size:Int):=od;have hx7:=bt_at a0 x3_1;replace p7:=eq_true p7;replace q7:=eq_true q7) | (go_at_call 55;(with_reducible refine (rf06_digit.calls (bt a0 x3_1) false _ A8.out).mono ?_);rintro e w' ⟨rfl,⟨nd,rfl⟩⟩))
     go_ret
     exact ⟨zq7,zq16⟩
    exact absurd H (by simp)
   have c2b0:decide (x3_1 < (a0.size:Int))=false:=decide_eq_false c2;clear c2;replace H:=ifI H;rcases H with ⟨c10,H⟩ | ⟨c10,H⟩
   ·have c10b0:decide (1≤(a0.size:Int))=true:=decide_eq_true c10;have c10b1:decide (1≤a0.size)=true:=decide_eq_true (by omega);clear c10;obtain rfl:=Option.some.inj H;go_wp2
    go_ret
    exact ⟨zq7,zq16⟩
   have c10b0:decide (1≤(a0.size:Int))=false:=decide_eq_false c10;have c10b1:decide (1≤a0.size)=false:=decide_eq_false (by omega);clear c10;obtain rfl:=Option.some.inj H;go_wp2
   go_ret
   exact ⟨zq7,zq16⟩
theorem rf48_number.calls (a0:Int) (r:Bool) (w:World) (h:rf48_number.f a0=some r) :
  Calls Tryz.prog 35 #[.int .i64 a0] w fun e w'=>e=.returned (.bool r)∧Drawn0 w w':=by
 have H:=h;clear h;unfold rf48_number.f at H;replace H:=ifI H;rcases H with ⟨c2,H⟩ | ⟨c2,H⟩
 ·obtain ⟨c2b0,c2b1⟩:=eqI c2;clear c2;obtain rfl:=Option.some.inj H;go_enter Tryz.func35,Tryz.ntmps35
  go_wp2
  go_ret
  exact ⟨zq7,zq16⟩
 obtain ⟨c2b0,c2b1⟩:=neI c2;obtain rfl:=Option.some.inj H;go_enter Tryz.func35,Tryz.ntmps35
 go_wp2
 go_ret
 exact ⟨zq7,zq16⟩
theorem rf04_Is.calls (a0:Int) (r:Bool) (w:World) (h:rf04_Is.f a0=some r) :
  Calls Tryz.prog 57 #[.int .i64 a0] w fun e w'=>e=.returned (.bool r)∧Drawn0 w w':=by
 have H:=h;clear h;unfold rf04_Is.f at H;replace H:=ifI H;rcases H with ⟨c2,H⟩ | ⟨c2,H⟩
 ·have c2b0:decide (0≤a0)=true:=decide_eq_true c2;clear c2;obtain rfl:=Option.some.inj H;go_enter Tryz.func57,Tryz.ntmps57
  go_wp2
  go_ret
  exact ⟨zq7,zq16⟩
 have c2b0:decide (0≤a0)=false:=decide_eq_false c2;clear c2;obtain rfl:=Option.some.inj H;go_enter Tryz.func57,Tryz.ntmps57
 go_wp2
 go_ret
 exact ⟨zq7,zq16⟩
theorem rf06_Plain.calls (k:Nat) (a0:ByteArray) (r:Bool) (w:World) (h:rf06_Plain.f k a0=some r) :
  Calls Tryz.prog 58 #[.string a0] w fun e w'=>e=.returned (.bool r)∧Drawn0 w w':=by
 have H:=h;clear h;unfold rf06_Plain.f at H;have H':=sd H;clear H;go_enter Tryz.func58,Tryz.ntmps58
 go_wp2
 go_loopg [3] k (fun kq v3 w'=>∃ (x3_1:Int),v3=.int .i64 x3_1∧Aside0 (rf06_Plain.l0 kq a0 x3_1=some r)∧Aside0 (kq≤k)∧Drawn0 w w')
 case atStart=>exact ⟨(0),zq7,H',⟨Nat.le_refl _⟩,zq16⟩
 case round =>
  clear H';obtain ⟨x3_1,rfl,HA,HK1,⟨m1,rfl⟩⟩:=hrel
  cases gk with
  | zero=>exact absurd HA.out (by simp [rf06_Plain.l0])
  | succ k1 =>
   have H:=HA.out;clear HA;simp only [rf06_Plain.l0] at H
   replace H:=ifI H;rcases H with ⟨c2,H⟩ | ⟨c2,H⟩
   ·have c2b0:decide (x3_1 < (a0.size:Int))=true:=decide_eq_true c2;clear c2;replace H:=ifI H;rcases H with ⟨c3,H⟩ | ⟨c3,H⟩
    ·have c3b0:decide (0≤x3_1)=true:=decide_eq_true c3;clear c3;replace H:=ifI H;rcases H with ⟨c5,H⟩ | ⟨c5,H⟩
     ·have c5b0:decide ((bt a0 x3_1) < 32)=true:=decide_eq_true c5;clear c5;obtain rfl:=Option.some.inj H;have p4:0≤(x3_1:Int):=od;have q4:x3_1 < (a0.size:Int):=od;have hx4:=bt_at a0 x3_1;replace p4:=eq_true p4;replace q4:=eq_true q4;go_wp2
      go_ret
      exact ⟨zq7,zq16⟩
     have c5b0:decide ((bt a0 x3_1) < 32)=false:=decide_eq_false c5;clear c5;replace H:=ifI H;rcases H with ⟨c7,H⟩ | ⟨c7,H⟩
     ·have c7b0:decide (126 < (bt a0 x3_1))=true:=decide_eq_true c7;clear c7;obtain rfl:=Option.some.inj H;have p4:0≤(x3_1:Int):=od;have q4:x3_1 < (a0.size:Int):=od;have hx4:=bt_at a0 x3_1;replace p4:=eq_true p4;replace q4:=eq_true q4;have p6:0≤(x3_1:Int):=od;have q6:x3_1 < (a0.size:Int):=od;have hx6:=bt_at a0 x3_1;replace p6:=eq_true p6;replace q6:=eq_true q6;go_wp2
      go_ret
      exact ⟨zq7,zq16⟩
     have c7b0:decide (126 < (bt a0 x3_1))=false:=decide_eq_false c7;clear c7;have H':=sd H;clear H;have p4:0≤(x3_1:Int):=od;have q4:x3_1 < (a0.size:Int):=od;have hx4:=bt_at a0 x3_1;replace p4:=eq_true p4;replace q4:=eq_true q4;have p6:0≤(x3_1:Int):=od;have q6:x3_1 < (a0.size:Int):=od;have hx6:=bt_at a0 x3_1;replace p6:=eq_true p6;replace q6:=eq_true q6;go_wp2
     go_roundg k1
     case measure=>have:=HK1.out;omega
     case rel=>exact ⟨(wrap64 (x3_1+1)),zq7,H',⟨by have:=HK1.out;omega⟩,zq16⟩
    exact absurd H (by simp)
   have c2b0:decide (x3_1 < (a0.size:Int))=false:=decide_eq_false c2;clear c2;obtain rfl:=Option.some.inj H;go_wp2
   go_ret
   exact ⟨zq7,zq16⟩
end Go.Proofs.YtkbgkekegjfkfaaGreatDoor.A
namespace Go.Proofs.YtkbgkekegjfkfaaGreatDoor.A
open Go.RowKit B WW WL WM
attribute [local go_sem] max2_int min2_int max_two min_two max_three min_three max_four min_four
theorem at_T50 {w:World} {A:Option Addr} {n:Nat} {xs:List S50} (h:Kd.C k50 w A n xs) (i:Int) (h0:0≤i) (h1:i < n):∃ ad ,A=some ad∧w.cell? (ad.add (i.toNat * 2))=some (.string (rd_T50 xs i).f0)∧w.cell? ⟨(ad.add (i.toNat * 2)).block,(ad.add (i.toNat * 2)).off+1,none⟩=some (.string (rd_T50 xs i).f1):=by
  obtain ⟨ad,c,e,_,hK,hc0⟩:=Kd.C_get h z50 i h0 h1;have hc:∀ j u,c[j]?=some u→w.cell? (ad.add (i.toNat * 2+j))=some u:=hc0;obtain rfl:=k50_open hK;exact ⟨ad,e,hc 0 _ rfl,by rw [← add_field _ _ 1 (by omega)];exact hc 1 _ rfl⟩
end Go.Proofs.YtkbgkekegjfkfaaGreatDoor.A
namespace Go.Proofs.YtkbgkekegjfkfaaGreatDoor.A
open Go.RowKit B WW WL WM
theorem zq4 {P:Prop} (h:P:=by first | rfl | (simp [errW_none,errW_some] <;> rfl) | (simp [*,errW_none,errW_some] <;> rfl)):P:=h
end Go.Proofs.YtkbgkekegjfkfaaGreatDoor.A
namespace Go.Proofs.YtkbgkekegjfkfaaGreatDoor.A
open Go.RowKit B WW WL WM
attribute [local go_sem] max2_int min2_int max_two min_two max_three min_three max_four min_four
set_option maxHeartbeats 8000000
set_option maxRecDepth 100000
theorem rf09_named.calls (k:Nat) (a0_0 a0_1:ByteArray) (r:Bool) (w:World) (h:rf09_named.f k a0_0 a0_1=some r) :
  Calls Tryz.prog 56 #[.agg #[.string a0_0,.string a0_1]] w fun e w'=>e=.returned (.bool r)∧Below w.heap.size w w':=by
 have hu50:=Tryz.underlying50;have HB:=sd (Below.refl w.heap.size w);have H:=h;clear h;unfold rf09_named.f at H;replace H:=bdI H;obtain ⟨t128,A2,H⟩:=H;(try dsimp only at H)
 by_cases c3:t128=true
 ·subst c3;rw [if_pos rfl] at H;replace H:=bdI H;obtain ⟨t129,A4,H⟩:=H;(try dsimp only at H)
  obtain rfl:=Option.some.inj H;go_enter Tryz.func56,Tryz.ntmps56
  go_wp2_with (first | ((with_reducible refine gate_dst (N:=1) rfl ?_);refine bxA 1 #[.string a0_0,.string a0_1] 50 ?_;intro gb127 hg w5 hbox hb;have BK127:=sd (hbox);have GW127:=gem hg HB;have GE127:=GW127;replace HB:=hbm HB hb;clear hb hbox hg;obtain ⟨_,_,_,_⟩:=bk2 BK127) | ((with_reducible refine gate_callee (f:=24) rfl ?_);refine gL 5 Tryz.func24 #[.string a0_0] ?_;(with_reducible refine (rf06_Code.calls k a0_0 true _ A2.out).mono ?_);rintro e w' ⟨rfl,⟨nd,rfl⟩⟩;refine ⟨_,rfl,?_⟩) | (go_at_call 24;(with_reducible refine (rf06_Code.calls k a0_1 t129 _ A4.out).mono ?_);rintro e w' ⟨rfl,⟨nd,rfl⟩⟩))
  go_ret
  exact ⟨zq4,by repeat (first | (with_reducible first | exact HB.out | apply below_alloc | apply pw_below_drewN | apply below_drew1 | refine below_set ?_ GE127.out) | exact HB.out)⟩
 replace c3:=Bool.eq_false_iff.mpr c3;subst c3;rw [if_neg Bool.false_ne_true] at H;obtain rfl:=Option.some.inj H;go_enter Tryz.func56,Tryz.ntmps56
 go_wp2_with (first | ((with_reducible refine gate_dst (N:=1) rfl ?_);refine bxA 1 #[.string a0_0,.string a0_1] 50 ?_;intro gb127 hg w7 hbox hb;have BK127:=sd (hbox);have GW127:=gem hg HB;have GE127:=GW127;replace HB:=hbm HB hb;clear hb hbox hg;obtain ⟨_,_,_,_⟩:=bk2 BK127) | ((with_reducible refine gate_callee (f:=24) rfl ?_);refine gL 5 Tryz.func24 #[.string a0_0] ?_;(with_reducible refine (rf06_Code.calls k a0_0 false _ A2.out).mono ?_);rintro e w' ⟨rfl,⟨nd,rfl⟩⟩;refine ⟨_,rfl,?_⟩))
 go_ret
 exact ⟨zq4,by repeat (first | (with_reducible first | exact HB.out | apply below_alloc | apply pw_below_drewN | apply below_drew1 | refine below_set ?_ GE127.out) | exact HB.out)⟩
end Go.Proofs.YtkbgkekegjfkfaaGreatDoor.A
