-- By pack.py, a program of this session's.
import Derived.Test.YtkbgkekegjfkfaaGreatDoorZ0
import Derived.Test.YtkbgkekegjfkfaaGreatDoorZ1
set_option linter.unusedVariables false
set_option linter.unusedSimpArgs false
namespace Go.Proofs.YtkbgkekegjfkfaaGreatDoor
namespace WW
open Go.RowKit
theorem ReadsInt.below {w w1:World} {k:IntKind} {A:Option Addr} {n:Nat} {xs:List Int} (h:ReadsInt w k A n xs) (hb:Below w.heap.size w w1):ReadsInt w1 k A n xs :=
  ⟨h.1,h.2.1,fun hn=>by
    obtain ⟨ad,e,hc⟩:=h.2.2 hn;exact ⟨ad,e,fun j hj=>pw_cell_below hb (hc j hj)⟩⟩
theorem Ev.bind {α β:Type} {g:Nat→Option α} {f:Nat→α→Option β} {a:α} {r:β} (h:Ev g a) (k:Ev (fun n=>f n a) r):Ev (fun n=>(g n).bind (f n)) r:=by
  obtain ⟨K,h⟩:=h;obtain ⟨K',k⟩:=k;refine ⟨max K K',fun n hn=>?_⟩;have h1:=h n (by omega);have h2:=k n (by omega);simp only [h1,Option.bind_some]
  exact h2
theorem keep_drewN {w W:World} {g:Nat} {row:Option Nat} (h:KeepBut w W g row) (m:Nat):KeepBut w (W.drewN m) g row:=h
end WW
namespace WW
open Go.RowKit
namespace Kd
def H {α:Type} (d:Kd α) (e:Nat) (w:World) (base:Nat) (ok:Nat→Prop) (v:Value) (xs:List α) (i:Int) (oki:Nat→Prop) (c:List Value):Prop :=
  (∀ k,oki k→ok k)∧∃ f,(gap f d i.toNat c).R e w base (fun k=>ok k∧¬ oki k) v xs.zipIdx
theorem Heap.C {α:Type} {d:Kd α} (hd:Heap d) {w w1:World} {A:Option Addr} {n:Nat} {xs:List α} (hb:∀ k,k < w.heap.size→w1.heap[k]?=w.heap[k]?) (h:d.C w A n xs):d.C w1 A n xs :=
  ⟨h.1,h.2.1,fun hn=>by
    obtain ⟨ad,e,hc⟩:=h.2.2 hn;refine ⟨ad,e,fun j p hj=>?_⟩;obtain ⟨c,hs,hr,hcell⟩:=hc j p hj;exact ⟨c,hs,hd.K hb hr,fun i u hu=>cell_heap hb (hcell i u hu)⟩⟩
def F {α:Type} (d:Kd α) (W:World) (ok:Nat→Prop) (A:Option Addr) (n:Nat) (xs:List α):Prop:=Foot (fun W=>d.C W A n xs) W ok
def FK {α:Type} (d:Kd α) (W:World) (ok:Nat→Prop) (x:α) (c:List Value):Prop:=Foot (fun W=>d.K W x c) W ok
def V {α:Type} (d:Kd α) (_e:Nat) (W:World) (_base:Nat) (ok:Nat→Prop) (v:Value) (xs:List α):Prop:=∃ A c,v=.slice A xs.length c∧xs.length≤c∧F d W ok A xs.length xs
end Kd
end WW
namespace B
open Go.RowKit WW WL WM
section
variable {P:Program} {ops:Array Oper} {rest:List Oper} {o:Oper} {Q:Exit→Act→World→Prop} {a:Act} {w V W w1:World} {g g':Nat}
theorem bk3 {w:World} {g t:Nat} {v0 v1 v2:Value} (B:Aside0 (w.heap[g]?=some (.cells #[v0,v1,v2] t (0,0)))):w.cell? ⟨g,0,none⟩=some v0∧w.cell? ⟨g,1,none⟩=some v1∧w.cell? ⟨g,2,none⟩=some v2∧w.frozen? ⟨g,0,none⟩=false∧w.frozen? ⟨g,1,none⟩=false∧w.frozen? ⟨g,2,none⟩=false:=⟨(blk_cell B.out 0).trans rfl,(blk_cell B.out 1).trans rfl,(blk_cell B.out 2).trans rfl,blk_frozen B.out 0,blk_frozen B.out 1,blk_frozen B.out 2⟩
theorem bk4 {w:World} {g t:Nat} {v0 v1 v2 v3:Value} (B:Aside0 (w.heap[g]?=some (.cells #[v0,v1,v2,v3] t (0,0)))):w.cell? ⟨g,0,none⟩=some v0∧w.cell? ⟨g,1,none⟩=some v1∧w.cell? ⟨g,2,none⟩=some v2∧w.cell? ⟨g,3,none⟩=some v3∧w.frozen? ⟨g,0,none⟩=false∧w.frozen? ⟨g,1,none⟩=false∧w.frozen? ⟨g,2,none⟩=false∧w.frozen? ⟨g,3,none⟩=false:=⟨(blk_cell B.out 0).trans rfl,(blk_cell B.out 1).trans rfl,(blk_cell B.out 2).trans rfl,(blk_cell B.out 3).trans rfl,blk_frozen B.out 0,blk_frozen B.out 1,blk_frozen B.out 2,blk_frozen B.out 3⟩
theorem hbm (H:Aside0 (Below w.heap.size w V)) (hb:Below W.heap.size W w1) (hs:Below w.heap.size w V→Below w.heap.size w W:=by (intro h;repeat (first|(with_reducible first|exact h|apply below_alloc|apply pw_below_drewN|apply below_drew1|refine below_set ?_ (Aside0.out ‹_›))|exact h))):Aside0 (Below w.heap.size w w1):=⟨below_step (hs H.out) hb⟩
end
end B
namespace WM
open Go.RowKit WW
theorem max2_int (k k':IntKind) (x y:Int):Builtin.max2 (.int k x) (.int k' y)=pure (.int k (if x < y then y else x)):=by simp only [Builtin.max2,gt_iff_lt]
theorem min2_int (k k':IntKind) (x y:Int):Builtin.min2 (.int k x) (.int k' y)=pure (.int k (if y < x then y else x)):=by simp only [Builtin.min2]
end WM
namespace A
open Go.RowKit B WW WL WM
attribute [local go_sem] max2_int min2_int max_two min_two max_three min_three max_four min_four
set_option maxHeartbeats 8000000
set_option maxRecDepth 100000
structure FP (bd g:Nat) (vC vT vW:Value) (w w':World):Prop where
  b:Below bd w w'
  fr:∀ i,i < w.heap.size→i≠g→some i≠vC.ownBlock→some i≠vT.ownBlock→some i≠vW.ownBlock→w'.heap[i]?=w.heap[i]?
theorem FP.refl (bd g:Nat) (vC vT vW:Value) (w:World):FP bd g vC vT vW w w:=⟨Below.refl bd w,fun _ _ _ _ _ _=>rfl⟩
theorem FP.trans {bd g:Nat} {vC vT vW:Value} {w w1 w2:World} (h:FP bd g vC vT vW w w1) (k:FP bd g vC vT vW w1 w2):FP bd g vC vT vW w w2 :=
  ⟨h.b.trans k.b,fun i h1 h2 h3 h4 h5=>(k.fr i (Nat.lt_of_lt_of_le h1 h.b.size) h2 h3 h4 h5).trans (h.fr i h1 h2 h3 h4 h5)⟩
def rf48_number.f (a0:Int):Option (Bool):=if a0=1 then (some true) else (some (a0 == 4))
def rf48_field.f (a0:Int):Option (ByteArray):=(some (([(⟨#[]⟩:ByteArray),(⟨#[97,109,111,117,110,116]⟩:ByteArray),(⟨#[114,101,102]⟩:ByteArray),(⟨#[116,101,120,116]⟩:ByteArray),(⟨#[100,97,121]⟩:ByteArray)]:List ByteArray):List ByteArray)).bind fun y333=>(if 0≤a0 then (if a0 < (y333.length:Int) then (some (rdOf ByteArray.empty y333 a0)) else (none)) else (none))
def rf48_operator.f (a0:Int):Option (ByteArray):=(some (([(⟨#[]⟩:ByteArray),(⟨#[105,115]⟩:ByteArray),(⟨#[108,101,97,115,116]⟩:ByteArray),(⟨#[109,111,115,116]⟩:ByteArray),(⟨#[104,97,115]⟩:ByteArray),(⟨#[98,101,103,105,110,115]⟩:ByteArray)]:List ByteArray):List ByteArray)).bind fun y337=>(if 0≤a0 then (if a0 < (y337.length:Int) then (some (rdOf ByteArray.empty y337 a0)) else (none)) else (none))
end A
namespace A
open Go.RowKit B WW WL WM
attribute [local go_sem] max2_int min2_int max_two min_two max_three min_three max_four min_four
def errW:Option Int→Value
 |none=>.nilIface
 |some c=>.iface 0 (.int .i64 c)
theorem errW_none:errW none=.nilIface:=rfl
theorem errW_some (c:Int):errW (some c)=.iface 0 (.int .i64 c):=rfl
structure S48 where
  f0:Int
  f1:Int
  f2:ByteArray
  f3:Int
def k48:Kd S48:=Kd.iso (Kd.pair (Kd.int .i64) (Kd.pair (Kd.int .i64) (Kd.pair Kd.string (Kd.int .i64)))) (fun x:S48=>(x.f0,x.f1,x.f2,x.f3))
structure S50 where
  f0:ByteArray
  f1:ByteArray
def k50:Kd S50:=Kd.iso (Kd.pair Kd.string Kd.string) (fun x:S50=>(x.f0,x.f1))
structure S73 where
  f0:Int
  f1:ByteArray
  f2:Int
def z73:S73:=⟨(0:Int),(⟨#[]⟩:ByteArray),(0:Int)⟩
def k73:Kd S73:=Kd.iso (Kd.pair (Kd.int .i64) (Kd.pair Kd.string (Kd.int .i64))) (fun x:S73=>(x.f0,x.f1,x.f2))
theorem k73_open {w:World} {x:S73} {cs:List Value} (h:k73.K w x cs):cs=[.int .i64 x.f0,.string x.f1,.int .i64 x.f2]:=by
  obtain ⟨_,_,rfl,rfl,⟨_,_,rfl,rfl,rfl⟩⟩:=h;exact rfl
def rd_T73 (xs:List S73) (i:Int):S73:=xs.getD i.toNat z73
end A
namespace A
open Go.RowKit B WW WL WM
attribute [local go_sem] max2_int min2_int max_two min_two max_three min_three max_four min_four
set_option maxHeartbeats 8000000
set_option maxRecDepth 100000
structure CEnv (w:World) (g gn gs:Nat) (c:S48):Prop where
 c0:w.cell? ⟨g,0,none⟩=some (.int .i64 c.f0)
 c2:w.cell? ⟨g,2,none⟩=some (.string c.f2)
 c3:w.cell? ⟨g,3,none⟩=some (.int .i64 c.f3)
 fn:w.cell? ⟨gn,0,none⟩=some (.func (.func 59) #[] #[.pointer (some ⟨g,0,none⟩)])
 fs:w.cell? ⟨gs,0,none⟩=some (.func (.func 60) #[] #[.pointer (some ⟨g,0,none⟩)])
structure PR where
  nm:ByteArray
  cs:List S48
  acc:ByteArray
  par:ByteArray
  tg:List S50
  st:Int
  ws:List S73
def PR.cells (p:PR) (vC vT vW:Value):Array Value:=#[.string p.nm,vC,.string p.acc,.string p.par,vT,.int .i64 p.st,vW]
def IsS82 (w0 W:World) (g:Nat) (f0:List (S73)) (f1:Int) (f2:Bool):Prop:=∃ A0 c0,W.heap[g]?=some (.cells #[.slice A0 f0.length c0,.int .i64 f1,.bool f2] 82 (0,0))∧w0.heap.size≤g∧Kd.C k73 w0 A0 f0.length f0
theorem IsS82.drew {w0 W:World} {g:Nat} {f0:List (S73)} {f1:Int} {f2:Bool} (h:IsS82 w0 W g f0 f1 f2):IsS82 w0 W.drew g f0 f1 f2:=h
theorem IsS82.lt {w0 W:World} {g:Nat} {f0:List (S73)} {f1:Int} {f2:Bool} (h:IsS82 w0 W g f0 f1 f2):g < W.heap.size:=by
 obtain ⟨A0,c0,hb,hg,hr0⟩:=h;exact blk_lt hb
theorem IsS82.ge {w0 W:World} {g:Nat} {f0:List (S73)} {f1:Int} {f2:Bool} (h:IsS82 w0 W g f0 f1 f2):w0.heap.size≤g:=by
 obtain ⟨A0,c0,hb,hg,hr0⟩:=h;exact hg
theorem cellS82_0 {W:World} {g:Nat} {A0:Option Addr} {c0:Nat} {f0:List (S73)} {f1:Int} {f2:Bool} (h:W.heap[g]?=some (.cells #[.slice A0 f0.length c0,.int .i64 f1,.bool f2] 82 (0,0))):W.cell? ⟨g,0,none⟩=some (.slice A0 f0.length c0):=(blk_cell h 0).trans rfl
theorem cellS82_1 {W:World} {g:Nat} {A0:Option Addr} {c0:Nat} {f0:List (S73)} {f1:Int} {f2:Bool} (h:W.heap[g]?=some (.cells #[.slice A0 f0.length c0,.int .i64 f1,.bool f2] 82 (0,0))):W.cell? ⟨g,1,none⟩=some (.int .i64 f1):=(blk_cell h 1).trans rfl
theorem IsS82.set_1 {w0 W:World} {g:Nat} {f0:List (S73)} {f1:Int} {f2:Bool} (h:IsS82 w0 W g f0 f1 f2) (x:Int):IsS82 w0 (W.setCell ⟨g,1,none⟩ (.int .i64 x)) g f0 x f2:=by
 obtain ⟨A0,c0,hb,hg,hr0⟩:=h;exact ⟨A0,c0,by simpa using blk_set hb 1 (.int .i64 x),hg,hr0⟩
theorem cellS82_2 {W:World} {g:Nat} {A0:Option Addr} {c0:Nat} {f0:List (S73)} {f1:Int} {f2:Bool} (h:W.heap[g]?=some (.cells #[.slice A0 f0.length c0,.int .i64 f1,.bool f2] 82 (0,0))):W.cell? ⟨g,2,none⟩=some (.bool f2):=(blk_cell h 2).trans rfl
theorem IsS82.set_2 {w0 W:World} {g:Nat} {f0:List (S73)} {f1:Int} {f2:Bool} (h:IsS82 w0 W g f0 f1 f2) (x:Bool):IsS82 w0 (W.setCell ⟨g,2,none⟩ (.bool x)) g f0 f1 x:=by
 obtain ⟨A0,c0,hb,hg,hr0⟩:=h;exact ⟨A0,c0,by simpa using blk_set hb 2 (.bool x),hg,hr0⟩
def rf48_Reader_is.f (s0_0:List (S73)) (s0_1:Int) (s0_2:Bool) (a1:ByteArray):Option (Bool×Int×Bool):=if s0_2=true then (some (false,s0_1,s0_2)) else (if s0_1 ≥ (s0_0.length:Int) then (some (false,s0_1,s0_2)) else (if 0≤s0_1 then (if s0_1 < (s0_0.length:Int) then (if ((rd_T73 s0_0 s0_1).f0)=1 then (if ((rd_T73 s0_0 s0_1).f1).toList=a1.toList then (some (true,wrap64 (s0_1+1),s0_2)) else (some (false,s0_1,s0_2))) else (some (false,s0_1,s0_2))) else (none)) else (none)))
def rf48_Reader_next.f (s0_0:List (S73)) (s0_1:Int) (s0_2:Bool) (a1:Int) (a2:Int):Option (ByteArray×Int×Bool):=if s0_2=true then (some ((⟨#[]⟩:ByteArray),s0_1,true)) else (if s0_1 ≥ (s0_0.length:Int) then (some ((⟨#[]⟩:ByteArray),s0_1,true)) else (if 0≤s0_1 then (if s0_1 < (s0_0.length:Int) then (if ((rd_T73 s0_0 s0_1).f0)=a1 then (if 0≤(wrap64 ((wrap64 (s0_1+1)) - 1)) then (if (wrap64 ((wrap64 (s0_1+1)) - 1)) < (s0_0.length:Int) then (some ((rd_T73 s0_0 (wrap64 ((wrap64 (s0_1+1)) - 1))).f1,wrap64 (s0_1+1),s0_2)) else (none)) else (none)) else (if ((rd_T73 s0_0 s0_1).f0)=a2 then (if 0≤(wrap64 ((wrap64 (s0_1+1)) - 1)) then (if (wrap64 ((wrap64 (s0_1+1)) - 1)) < (s0_0.length:Int) then (some ((rd_T73 s0_0 (wrap64 ((wrap64 (s0_1+1)) - 1))).f1,wrap64 (s0_1+1),s0_2)) else (none)) else (none)) else (some ((⟨#[]⟩:ByteArray),s0_1,true)))) else (none)) else (none)))
mutual
def rf48_Reader_cond.l0:Nat→Int→List (S73)→Int→Bool→Int→Int→ByteArray→Int→Int→ByteArray→Int→Option (Int×Int×ByteArray×Int×Int×ByteArray×Int×Int×Bool)
|0,_,_,_,_,_,_,_,_,_,_,_=>none
|k+1,x6,x1000,x1001,x1002,x440000,x440001,x440002,x440003,x441000,x441001,x441002=>if x6≤4 then (rf48_Reader_cond.j1 k x6 (x440000 == 0) x1000 x1001 x1002 x440000 x440001 x440002 x440003 x441000 x441001 x441002) else (rf48_Reader_cond.j1 k x6 false x1000 x1001 x1002 x440000 x440001 x440002 x440003 x441000 x441001 x441002)
def rf48_Reader_cond.j1:Nat→Int→Bool→List (S73)→Int→Bool→Int→Int→ByteArray→Int→Int→ByteArray→Int→Option (Int×Int×ByteArray×Int×Int×ByteArray×Int×Int×Bool)
|0,_,_,_,_,_,_,_,_,_,_,_,_=>none
|k+1,x6,x17,x1000,x1001,x1002,x440000,x440001,x440002,x440003,x441000,x441001,x441002=>if x17=true then ((rf48_field.f x6).bind fun t441=>((rf48_Reader_is.f x1000 x1001 x1002 t441).bind fun bt442=>(if bt442.1=true then (rf48_Reader_cond.l0 k (wrap64 (x6+1)) x1000 bt442.2.1 bt442.2.2 x6 x440001 x440002 x440003 x441000 x441001 x441002) else (rf48_Reader_cond.l0 k (wrap64 (x6+1)) x1000 bt442.2.1 bt442.2.2 x440000 x440001 x440002 x440003 x441000 x441001 x441002)))) else (if x440000=0 then (some (x440000,x440001,x440002,x440003,x441000,x441001,x441002,x1001,true)) else (rf48_Reader_cond.l1 k 1 x1000 x1001 x1002 x440000 x440001 x440002 x440003 x441000 x441001 x441002))
def rf48_Reader_cond.l1:Nat→Int→List (S73)→Int→Bool→Int→Int→ByteArray→Int→Int→ByteArray→Int→Option (Int×Int×ByteArray×Int×Int×ByteArray×Int×Int×Bool)
|0,_,_,_,_,_,_,_,_,_,_,_=>none
|k+1,x7,x1000,x1001,x1002,x440000,x440001,x440002,x440003,x441000,x441001,x441002=>if x7≤5 then (rf48_Reader_cond.j3 k x7 (x440001 == 0) x1000 x1001 x1002 x440000 x440001 x440002 x440003 x441000 x441001 x441002) else (rf48_Reader_cond.j3 k x7 false x1000 x1001 x1002 x440000 x440001 x440002 x440003 x441000 x441001 x441002)
def rf48_Reader_cond.j3:Nat→Int→Bool→List (S73)→Int→Bool→Int→Int→ByteArray→Int→Int→ByteArray→Int→Option (Int×Int×ByteArray×Int×Int×ByteArray×Int×Int×Bool)
|0,_,_,_,_,_,_,_,_,_,_,_,_=>none
|k+1,x7,x40,x1000,x1001,x1002,x440000,x440001,x440002,x440003,x441000,x441001,x441002=>if x40=true then (if x7=1 then ((rf48_operator.f x7).bind fun t445=>((rf48_Reader_is.f x1000 x1001 x1002 t445).bind fun bt446=>(if bt446.1=true then (rf48_Reader_cond.l1 k (wrap64 (x7+1)) x1000 bt446.2.1 bt446.2.2 x440000 x7 x440002 x440003 x441000 x441001 x441002) else (rf48_Reader_cond.l1 k (wrap64 (x7+1)) x1000 bt446.2.1 bt446.2.2 x440000 x440001 x440002 x440003 x441000 x441001 x441002)))) else ((rf48_number.f x440000).bind fun t449=>(if (t449 == (decide (x7 < 4)))=true then ((rf48_operator.f x7).bind fun t450=>((rf48_Reader_is.f x1000 x1001 x1002 t450).bind fun bt451=>(if bt451.1=true then (rf48_Reader_cond.l1 k (wrap64 (x7+1)) x1000 bt451.2.1 bt451.2.2 x440000 x7 x440002 x440003 x441000 x441001 x441002) else (rf48_Reader_cond.l1 k (wrap64 (x7+1)) x1000 bt451.2.1 bt451.2.2 x440000 x440001 x440002 x440003 x441000 x441001 x441002)))) else (rf48_Reader_cond.l1 k (wrap64 (x7+1)) x1000 x1001 x1002 x440000 x440001 x440002 x440003 x441000 x441001 x441002)))) else (if x440001=0 then (some (x440000,x440001,x440002,x440003,x441000,x441001,x441002,x1001,true)) else ((rf48_number.f x440000).bind fun t454=>(if t454=true then ((rf48_Reader_next.f x1000 x1001 x1002 2 2).bind fun bt455=>(if bt455.2.2=true then (some (x440000,x440001,x440002,x440003,x441000,bt455.1,x441002,bt455.2.1,bt455.2.2)) else (if 0≤x1001 then (if x1001 < (x1000.length:Int) then (some (x440000,x440001,x440002,x440003,x441000,bt455.1,(rd_T73 x1000 x1001).f2,bt455.2.1,bt455.2.2)) else (none)) else (none)))) else ((rf48_Reader_next.f x1000 x1001 x1002 3 3).bind fun bt459=>(some (x440000,x440001,bt459.1,x440003,x441000,x441001,x441002,bt459.2.1,bt459.2.2))))))
end
def rf48_Reader_cond.f (k:Nat) (s0_0:List (S73)) (s0_1:Int) (s0_2:Bool):Option (Int×Int×ByteArray×Int×Int×ByteArray×Int×Int×Bool):=rf48_Reader_cond.l0 k 1 s0_0 s0_1 s0_2 0 0 (⟨#[]⟩:ByteArray) 0 0 (⟨#[]⟩:ByteArray) 0
end A
namespace A
open Go.RowKit B WW WL WM
theorem zq4 {P:Prop} (h:P:=by first|rfl|(simp [errW_none,errW_some] <;> rfl)|(simp [*,errW_none,errW_some] <;> rfl)):P:=h
theorem zq32 {P:Prop} (h:P:=by repeat (first|(with_reducible first|exact HB.out|apply below_alloc|apply pw_below_drewN|apply below_drew1|refine below_set ?_ (IsS82.ge HI0.out))|exact HB.out)):P:=h
end A
namespace WW
open Go.RowKit
section
variable {α:Type} {enc:α→Value} {d:α}
theorem ReadsOf.below {w w1:World} {A:Option Addr} {n:Nat} {xs:List α} (h:ReadsOf enc d w A n xs) (hb:Below w.heap.size w w1):ReadsOf enc d w1 A n xs :=
  ⟨h.1,h.2.1,fun hn=>by
    obtain ⟨ad,e,hc⟩:=h.2.2 hn;exact ⟨ad,e,fun j hj=>pw_cell_below hb (hc j hj)⟩⟩
end
end WW
namespace WW
open Go.RowKit
section
variable {α:Type} {R R':α→List Value→Prop} {e:TypeId} {size:Nat} {w w1:World} {base:Nat} {v:Value} {ps:List α}
theorem OwnRow.below (h:OwnRow R e size w base v ps) (hb:Below w.heap.size w w1):OwnRow R e size w1 base v ps:=by
  obtain ⟨inner,ho,hr⟩:=h;exact ⟨inner,pw_own_below ho hb,hr⟩
theorem OwnRow.set_ (h:OwnRow R e size w base v ps) {g:Nat} {t:TypeId} {cells:Array Value} (hb:w.heap[g]?=some (.cells cells t (0,0))) (ht:e≠t) (j:Nat) (u:Value):OwnRow R e size (w.setCell ⟨g,j,none⟩ u) base v ps:=by
  obtain ⟨inner,ho,hr⟩:=h;exact ⟨inner,own_setCell ho (own_ne ho hb ht) u,hr⟩
end
end WW
namespace A
open Go.RowKit B WW WL WM
theorem zq33 {P:Prop} (h:P:=by repeat (first|(with_reducible first|exact HK.out|apply KeepBut.set_|apply keep_drewN|apply keep_drew|apply keep_alloc)|exact HK.out)):P:=h
theorem zq67 {P:Prop} (h:P:=by repeat (first|(with_reducible first|exact HK.out|apply KeepBut.set_|apply keep_drewN|apply keep_drew|apply keep_alloc|refine keep_far ?_ GW437.out _)|exact HK.out)):P:=h
theorem zq68 {P:Prop} (h:P:=by repeat (first|(with_reducible first|exact HK.out|apply KeepBut.set_|apply keep_drewN|apply keep_drew|apply keep_alloc|refine keep_far ?_ GW437.out _|refine keep_far ?_ GW438.out _)|exact HK.out)):P:=h
theorem zq69 {P:Prop} (h:P:=by repeat (first|(with_reducible first|exact HK.out|apply KeepBut.set_|apply keep_drewN|apply keep_drew|apply keep_alloc|refine keep_far ?_ GW437.out _|refine keep_far ?_ GW438.out _|refine keep_far ?_ GW439.out _)|exact HK.out)):P:=h
theorem zq71 {P:Prop} (h:P:=by repeat (first|(with_reducible first|exact HK.out|apply KeepBut.set_|apply keep_drewN|apply keep_drew|apply keep_alloc|refine keep_far ?_ GW437.out _|refine keep_far ?_ GW438.out _|refine keep_far ?_ GW439.out _|refine keep_far ?_ GW440.out _)|exact HK.out)):P:=h
theorem zq87 {P:Prop} (h:P:=by rw [← hq_];exact (by repeat (first|(with_reducible first|exact HK.out|apply KeepBut.set_|apply keep_drewN|apply keep_drew|apply keep_alloc|refine keep_far ?_ GW437.out _|refine keep_far ?_ GW438.out _|refine keep_far ?_ GW439.out _|refine keep_far ?_ GW440.out _)|exact HK.out))):P:=h
end A
namespace WW
open Go.RowKit
section
variable {w W W2:World} {S S2 S':Nat→Prop}
theorem Kept.below (h:Kept w W S) (hb:Below W.heap.size W W2):Kept w W2 S:=h.then_ (Kept.of_below hb (fun _=>False)) (fun _ hk=>hk.elim)
theorem Kept.alloc (h:Kept w W S) (o:Obj):Kept w (W.alloc o) S:=h.below (below_alloc (Below.refl _ _) o)
theorem Kept.drewN (h:Kept w W S) (m:Nat):Kept w (W.drewN m) S:=h
end
end WW
namespace A
open Go.RowKit B WW WL WM
theorem zq31 {P:Prop} (h:P:=by repeat (first|(with_reducible first|exact HI0.out|apply IsS82.alloc|apply IsS82.drewN|apply IsS82.drew|apply IsS82.set_1|apply IsS82.set_2)|exact HI0.out)):P:=h
theorem zq70 {P:Prop} (h:P:=by repeat (first|(with_reducible first|exact HI0.out|apply IsS82.alloc|apply IsS82.drewN|apply IsS82.drew|apply IsS82.set_1|apply IsS82.set_2|refine IsS82.far ?_ NB0_437.out _|refine IsS82.far ?_ NB0_438.out _|refine IsS82.far ?_ NB0_439.out _|refine IsS82.far ?_ NB0_440.out _)|exact HI0.out)):P:=h
theorem zq86 {P:Prop} (h:P:=by rw [← hq_];exact (by repeat (first|(with_reducible first|exact HI0.out|apply IsS82.alloc|apply IsS82.drewN|apply IsS82.drew|apply IsS82.set_1|apply IsS82.set_2|refine IsS82.far ?_ NB0_437.out _|refine IsS82.far ?_ NB0_438.out _|refine IsS82.far ?_ NB0_439.out _|refine IsS82.far ?_ NB0_440.out _)|exact HI0.out))):P:=h
end A
namespace WW
open Go.RowKit
namespace Kd
section
variable {P:Program} {ops:Array Oper} {rest:List Oper} {o:Oper} {a:Act} {Q:Exit→Act→World→Prop}
variable {α:Type}
theorem R_lit (d:Kd α) {w0 W:World} (base e:Nat) (hgd:o.guard=none) {N:Tmp} (_hd:o.dst=some N) {xs:List α} {inner:List Value} {ok okp:Nat→Prop}
    (hrun:(execOp a.eval o).run P W=.ok (.value (.slice (some ⟨W.heap.size,0,none⟩) xs.length xs.length)) (W.alloc (.cells inner.toArray e)))
    (hrep:Reps (d.M W base okp) d.sz xs inner) (hok:∀ k,okp k→ok k) (hfresh:ok W.heap.size) (HB:Below base w0 W) (hbase:base≤W.heap.size) (hm:xs.length≤9223372036854775807)
    (h:∀ v1 w1,d.R e w1 base ok v1 xs→Below base w0 w1→W.grownBy w1 none→(∃ b,v1.ownBlock=some b∧W.heap.size≤b)→wpList P ops Q rest (a.put o.dst v1) w1):wpList P ops Q (o :: rest) a W:=by
  refine event_run hgd hrun (h _ _ ⟨fun k hk=>?_,inner,?_,?_⟩ (HB.alloc hbase _) (World.grownBy_alloc W _ none) ⟨W.heap.size,by simp [Value.ownBlock],Nat.le_refl _⟩)
  · have:W.heap.size=k:=by simpa [Value.ownBlock] using hk
    subst this;exact hfresh
  · have h2:=World.ownsRow_lit (base:=base) (e:=e) (size:=d.sz) W inner.toArray xs.length hbase (by simpa [maxLen] using hm) (by simpa using hrep.1)
    simpa using h2
  · refine hrep.imp_ (fun p c hp=>d.M_mono (fun k hk=>⟨hok k hk.1,fun he=>?_⟩) (M_below (d.M_bound hp) (below_alloc (Below.refl _ _) _)))
    have h3:k=W.heap.size:=by simpa [Value.ownBlock] using he
    have:=hk.2.2.1;omega
end
end Kd
end WW
namespace WW
open Go.RowKit
namespace Kd
theorem reads_of_C {α:Type} {enc:α→Value} {d:α} {h1:∀ x,(enc x).oneCell'=true} {w:World} {A:Option Addr} {n:Nat} {xs:List α} (h:(scalar enc h1).C w A n xs):ReadsOf enc d w A n xs:=by
  refine ⟨h.1,h.2.1,fun hn=>?_⟩;obtain ⟨ad,e,hc⟩:=h.2.2 hn;refine ⟨ad,e,fun j hj=>?_⟩;have hl:j < xs.length:=by have:=h.1;omega
  obtain ⟨c,_,hK,hcell⟩:=hc j _ (List.getElem?_eq_getElem hl);have hK':c=[enc xs[j]]:=hK;subst hK';have:=hcell 0 _ rfl;simpa [scalar,List.getD_eq_getElem?_getD,List.getElem?_eq_getElem hl] using this
end Kd
end WW
namespace WW
open Go.RowKit
namespace Kd
section
variable {w W:World} {A:Option Addr} {n:Nat}
theorem at_string {xs:List ByteArray} (h:Kd.string.C w A n xs) (i:Int) (h0:0≤i) (h1:i < n):∃ ad,A=some ad∧w.cell? (ad.add i.toNat)=some (.string (rdOf ByteArray.empty xs i)) :=
  ReadsOf.at_ (reads_of_C (enc:=Value.string) (d:=ByteArray.empty) (h1:=fun _=>rfl) h) i h0 h1
end
end Kd
end WW
namespace B
open Go.RowKit WW WL WM
theorem bdI {α β:Type} {x:Option α} {f:α→Option β} {r:β} (h:x.bind f=some r):∃ a,Aside0 (x=some a)∧f a=some r:=by
  obtain ⟨a,h1,h2⟩:=Option.bind_eq_some_iff.mp h;exact ⟨a,⟨h1⟩,h2⟩
end B
namespace WW
open Go.RowKit
namespace Kd
section
variable {α:Type} {d:Kd α} {e base n cc g:Nat} {ok ok' okp S:Nat→Prop} {w w1 W W1:World} {A:Option Addr} {u v v1:Value} {xs:List α} {x:α} {c:List Value}
def N {α:Type} (d:Kd α) (e:Nat) (w:World) (base:Nat) (ok:Nat→Prop) (v:Value) (xs:List α):Prop :=
  (∀ k,v.ownBlock=some k→ok k)∧∃ rows:List (List Value),rows.length=xs.length∧(raw d.sz).R e w base (fun k=>some k=v.ownBlock) v rows∧∀ (j:Nat) (x:α) (c:List Value),xs[j]?=some x→rows[j]?=some c→FK d w (fun k=>ok k∧some k≠v.ownBlock) x c
end
end Kd
end WW
namespace WW
open Go.RowKit
theorem drewN_self (w:World) (n:Nat):w.drewN n=w.drewN n:=rfl
end WW
namespace WL
section
variable {P:Program} {ops:Array Oper} {Q:Exit→Act→World→Prop} {md:Region.Mode} {S:World→Prop} {ds:List Nat}
theorem i64_w (n:Int):IntKind.i64.wrap n=Go.RowKit.wrap64 n:=by unfold Go.RowKit.wrap64;exact IntKind.wrap_i64 n
end
end WL
namespace B
open Go.RowKit
structure WordW (W:World) (g:Nat) (kind:Int) (S:ByteArray) (i pa pe:Int):Prop where
  k0:W.cell? ⟨g,0,none⟩=some (.int .i64 kind)
  k1:W.cell? ⟨g,1,none⟩=some (.string S)
  k2:W.cell? ⟨g,2,none⟩=some (.int .i64 i)
  k3:W.cell? ⟨g+1,0,none⟩=some (.int .i64 pa)
  k4:W.cell? ⟨g+1,1,none⟩=some (.int .i64 pe)
  f0:W.frozen? ⟨g,0,none⟩=false
  f1:W.frozen? ⟨g,1,none⟩=false
  f2:W.frozen? ⟨g,2,none⟩=false
  f3:W.frozen? ⟨g+1,0,none⟩=false
  f4:W.frozen? ⟨g+1,1,none⟩=false
theorem WordW.e {W:World} {g:Nat} {kind:Int} {S:ByteArray} {i pa pe:Int} (h:WordW W g kind S i pa pe) (x:Int):WordW (W.setCell ⟨g+1,1,none⟩ (.int .i64 x)) g kind S i pa x :=
  ⟨has_other (by simp) h.k0,has_other (by simp) h.k1,has_other (by simp) h.k2,has_other (by simp) h.k3,has_same ⟨_,h.k4⟩,by rw [World.frozen?_setCell];exact h.f0,by rw [World.frozen?_setCell];exact h.f1,by rw [World.frozen?_setCell];exact h.f2,by rw [World.frozen?_setCell];exact h.f3,by rw [World.frozen?_setCell];exact h.f4⟩
end B
namespace A
open Go.RowKit B WW WL WM
attribute [local go_sem] max2_int min2_int max_two min_two max_three min_three max_four min_four
set_option maxHeartbeats 8000000
set_option maxRecDepth 100000
theorem FP.far {bd g gc o:Nat} {vC vT vW:Value} {w w1:World} (h:FP bd g vC vT vW w w1) (hg:bd≤gc) (hv:some gc=vC.ownBlock∨some gc=vT.ownBlock) (u:Value):FP bd g vC vT vW w (w1.setCell ⟨gc,o,none⟩ u) :=
  ⟨below_setN h.b hg u,fun i h1 h2 h3 h4 h5=>(Below.heap_setCell _ _ _ i (fun e=>by
    have e':i=gc:=e;rcases hv with hv|hv
    · exact h3 (by rw [e',hv])
    · exact h4 (by rw [e',hv]))).trans (h.fr i h1 h2 h3 h4 h5)⟩
theorem IsS82.drewN {w0 W:World} {g:Nat} {f0:List (S73)} {f1:Int} {f2:Bool} (h:IsS82 w0 W g f0 f1 f2) (m:Nat):IsS82 w0 (W.drewN m) g f0 f1 f2:=h
theorem IsS82.far {w0 W:World} {g:Nat} {f0:List (S73)} {f1:Int} {f2:Bool} {p:Addr} (h:IsS82 w0 W g f0 f1 f2) (hne:g≠p.block) (u:Value):IsS82 w0 (W.setCell p u) g f0 f1 f2:=by
 obtain ⟨A0,c0,hb,hg,hr0⟩:=h;exact ⟨A0,c0,blk_far hb hne u,hg,hr0⟩
theorem rf48_operator.calls (a0:Int) (r:ByteArray) (w:World) (h:rf48_operator.f a0=some r) :
  Calls Tryz.prog 38 #[.int .i64 a0] w fun e w'=>e=.returned (.string r)∧Below w.heap.size w w':=by
 have HB:=sd (Below.refl w.heap.size w);have H:=h;clear h;unfold rf48_operator.f at H;obtain ⟨y337,hy337⟩:∃ y_:List ByteArray,y_=(([(⟨#[]⟩:ByteArray),(⟨#[105,115]⟩:ByteArray),(⟨#[108,101,97,115,116]⟩:ByteArray),(⟨#[109,111,115,116]⟩:ByteArray),(⟨#[104,97,115]⟩:ByteArray),(⟨#[98,101,103,105,110,115]⟩:ByteArray)]:List ByteArray)):=⟨_,rfl⟩
 replace H:(if 0≤a0 then (if a0 < (y337.length:Int) then (some (rdOf ByteArray.empty y337 a0)) else (none)) else (none))=some r:=by first|(rw [hy337];with_reducible exact H)|(have H2_:=(Option.bind_some _ _).symm.trans H;rw [hy337];with_reducible exact H2_)|(have H2_:=(Option.bind_some _ _).symm.trans H;with_reducible exact H2_)|with_reducible exact H|(rw [hy337];exact H)|exact H
 have Ny337:=sd hy337;clear hy337;replace H:=ifI H;rcases H with ⟨c2,H⟩|⟨c2,H⟩
 ·have c2b0:decide (0≤a0)=true:=decide_eq_true c2;clear c2;replace H:=ifI H;rcases H with ⟨c3,H⟩|⟨c3,H⟩
  ·have c3b0:decide (a0 < (y337.length:Int))=true:=decide_eq_true c3;clear c3;obtain rfl:=Option.some.inj H;go_enter Tryz.func38,Tryz.ntmps38
   go_wp2_with (first|((with_reducible refine gate_dst (N:=3) rfl ?_);refine Kd.R_lit Kd.string _ 9 ?hg (N:=3) ?hd (xs:=([(⟨#[]⟩:ByteArray),(⟨#[105,115]⟩:ByteArray),(⟨#[108,101,97,115,116]⟩:ByteArray),(⟨#[109,111,115,116]⟩:ByteArray),(⟨#[104,97,115]⟩:ByteArray),(⟨#[98,101,103,105,110,115]⟩:ByteArray)]:List ByteArray)) (inner:=[.string (⟨#[]⟩:ByteArray),.string (⟨#[105,115]⟩:ByteArray),.string (⟨#[108,101,97,115,116]⟩:ByteArray),.string (⟨#[109,111,115,116]⟩:ByteArray),.string (⟨#[104,97,115]⟩:ByteArray),.string (⟨#[98,101,103,105,110,115]⟩:ByteArray)]) (ok:=fun _=>True) (okp:=fun _=>True) ?hr ?hp (fun _ hk=>hk) trivial (Below.refl _ _) (Nat.le_refl _) (by simp) ?_;(case hd=>rfl);(case hg=>rfl);(case hr=>first|(go_simp;done)|(go_simp;rfl));(case hp=>exact (Reps.one (show Kd.M Kd.string _ _ _ (⟨#[]⟩:ByteArray) [.string (⟨#[]⟩:ByteArray)] from rfl) (Reps.one (show Kd.M Kd.string _ _ _ (⟨#[105,115]⟩:ByteArray) [.string (⟨#[105,115]⟩:ByteArray)] from rfl) (Reps.one (show Kd.M Kd.string _ _ _ (⟨#[108,101,97,115,116]⟩:ByteArray) [.string (⟨#[108,101,97,115,116]⟩:ByteArray)] from rfl) (Reps.one (show Kd.M Kd.string _ _ _ (⟨#[109,111,115,116]⟩:ByteArray) [.string (⟨#[109,111,115,116]⟩:ByteArray)] from rfl) (Reps.one (show Kd.M Kd.string _ _ _ (⟨#[104,97,115]⟩:ByteArray) [.string (⟨#[104,97,115]⟩:ByteArray)] from rfl) (Reps.one (show Kd.M Kd.string _ _ _ (⟨#[98,101,103,105,110,115]⟩:ByteArray) [.string (⟨#[98,101,103,105,110,115]⟩:ByteArray)] from rfl) (Reps.none _ _))))))));intro v338 w4 ho5 hb hg_ hnew_;clear hg_ hnew_;(first|rw [← Ny337.out] at ho5|(simp only [Int.reduceToNat] at ho5;rw [← Ny337.out] at ho5));have HO339:=sd (Kd.R_lower ho5 (below_size zq6));replace HB:=hbm HB hb;clear hb ho5;obtain ⟨Ao6,co6,eo6⟩:=Kd.R_slice HO339.out;subst eo6;have p340:0≤(a0:Int):=od;have q340:a0 < (y337.length:Int):=od;obtain ⟨ad340,e340,hx340_0⟩:=Kd.at_string (Kd.R_reads' HO339.out).2.2 a0 p340 q340;cases e340;replace p340:=eq_true p340;replace q340:=eq_true q340))
   go_ret
   exact ⟨zq4,zq6⟩
  exact absurd H (by simp)
 exact absurd H (by simp)
end A
namespace A
open Go.RowKit B WW WL WM
attribute [local go_sem] max2_int min2_int max_two min_two max_three min_three max_four min_four
theorem at_T73 {w:World} {A:Option Addr} {n:Nat} {xs:List S73} (h:Kd.C k73 w A n xs) (i:Int) (h0:0≤i) (h1:i < n):∃ ad ,A=some ad∧w.cell? (ad.add (i.toNat * 3))=some (.int .i64 (rd_T73 xs i).f0)∧w.cell? ⟨(ad.add (i.toNat * 3)).block,(ad.add (i.toNat * 3)).off+1,none⟩=some (.string (rd_T73 xs i).f1)∧w.cell? ⟨(ad.add (i.toNat * 3)).block,(ad.add (i.toNat * 3)).off+2,none⟩=some (.int .i64 (rd_T73 xs i).f2):=by
  obtain ⟨ad,c,e,_,hK,hc0⟩:=Kd.C_get h z73 i h0 h1;have hc:∀ j u,c[j]?=some u→w.cell? (ad.add (i.toNat * 3+j))=some u:=hc0;obtain rfl:=k73_open hK;exact ⟨ad,e,hc 0 _ rfl,by rw [← add_field _ _ 1 (by omega)];exact hc 1 _ rfl,by rw [← add_field _ _ 2 (by omega)];exact hc 2 _ rfl⟩
end A
namespace A
open Go.RowKit B WW WL WM
attribute [local go_sem] max2_int min2_int max_two min_two max_three min_three max_four min_four
set_option maxHeartbeats 8000000
set_option maxRecDepth 100000
theorem rf48_Reader_is.calls (g:Nat) (s0_0:List (S73)) (s0_1:Int) (s0_2:Bool) (a1:ByteArray) (r1:Bool) (r2:Int) (r3:Bool) (w0 w:World) (hI:IsS82 w0 w g s0_0 s0_1 s0_2) (hB:Below w0.heap.size w0 w) (h:rf48_Reader_is.f s0_0 s0_1 s0_2 a1=some (r1,r2,r3)) :
  Calls Tryz.prog 88 #[.pointer (some ⟨g,0,none⟩),.string a1] w fun e w'=>e=.returned (.bool r1)∧IsS82 w0 w' g s0_0 r2 r3∧Below w0.heap.size w0 w'∧KeepBut w w' g none:=by
 have HI0:=sd hI;have HK:=sd (KeepBut.refl w g none);have HL:=sd hB.size;clear hI;have HW0:=sd hB.size;have HB:=sd hB;clear hB;have H:=h;clear h;unfold rf48_Reader_is.f at H;by_cases c3:s0_2=true
 ·subst c3;rw [if_pos rfl] at H;simp only [Option.some.injEq,Prod.mk.injEq] at H
  obtain ⟨rfl,rfl,rfl⟩:=H;obtain ⟨ASz4_0,cSz4_0,HGz4,hgz4,HSz4_0⟩:=HI0.out;have hcz4_0:=cellS82_0 HGz4;have hcz4_1:=cellS82_1 HGz4;have hcz4_2:=cellS82_2 HGz4;have hfz4_1:=blk_frozen HGz4 1;have hfz4_2:=blk_frozen HGz4 2;clear HGz4 hgz4;go_enter Tryz.func88,Tryz.ntmps88
  go_wp2
  repeat (go_quiet (fail);try go_wp2)
  go_ret
  exact ⟨zq4,zq31,zq32,zq33⟩
 replace c3:=Bool.eq_false_iff.mpr c3;subst c3;rw [if_neg Bool.false_ne_true] at H;replace H:=ifI H;rcases H with ⟨c5,H⟩|⟨c5,H⟩
 ·have c5b0:decide ((s0_0.length:Int)≤s0_1)=true:=decide_eq_true c5;clear c5;simp only [Option.some.injEq,Prod.mk.injEq] at H
  obtain ⟨rfl,rfl,rfl⟩:=H;obtain ⟨ASz6_0,cSz6_0,HGz6,hgz6,HSz6_0⟩:=HI0.out;have hcz6_0:=cellS82_0 HGz6;have hcz6_1:=cellS82_1 HGz6;have hcz6_2:=cellS82_2 HGz6;have hfz6_1:=blk_frozen HGz6 1;have hfz6_2:=blk_frozen HGz6 2;clear HGz6 hgz6;go_enter Tryz.func88,Tryz.ntmps88
  go_wp2
  repeat (go_quiet (fail);try go_wp2)
  go_ret
  exact ⟨zq4,zq31,zq32,zq33⟩
 have c5b0:decide ((s0_0.length:Int)≤s0_1)=false:=decide_eq_false c5;clear c5;replace H:=ifI H;rcases H with ⟨c7,H⟩|⟨c7,H⟩
 ·have c7b0:decide (0≤s0_1)=true:=decide_eq_true c7;clear c7;replace H:=ifI H;rcases H with ⟨c8,H⟩|⟨c8,H⟩
  ·have c8b0:decide (s0_1 < (s0_0.length:Int))=true:=decide_eq_true c8;clear c8;replace H:=ifI H;rcases H with ⟨c9,H⟩|⟨c9,H⟩
   ·obtain ⟨c9b0,c9b1⟩:=eqI c9;clear c9;replace H:=ifI H;rcases H with ⟨c10,H⟩|⟨c10,H⟩
    ·obtain ⟨c10b0,c10b1⟩:=eqI c10;clear c10;simp only [Option.some.injEq,Prod.mk.injEq] at H
     obtain ⟨rfl,rfl,rfl⟩:=H;obtain ⟨ASz11_0,cSz11_0,HGz11,hgz11,HSz11_0⟩:=HI0.out;have hcz11_0:=cellS82_0 HGz11;have hcz11_1:=cellS82_1 HGz11;have hcz11_2:=cellS82_2 HGz11;have hfz11_1:=blk_frozen HGz11 1;have hfz11_2:=blk_frozen HGz11 2;clear HGz11 hgz11;have p425:0≤(s0_1:Int):=od;have q425:s0_1 < (s0_0.length:Int):=od;obtain ⟨ad425,e425,hx425_0,hx425_1,hx425_2⟩:=at_T73 HSz11_0 s0_1 p425 q425
     cases e425
     replace hx425_0:=pw_cell_below HB.out hx425_0;replace hx425_1:=pw_cell_below HB.out hx425_1;replace hx425_2:=pw_cell_below HB.out hx425_2;replace p425:=eq_true p425;replace q425:=eq_true q425;have p426:0≤(s0_1:Int):=od;have q426:s0_1 < (s0_0.length:Int):=od;obtain ⟨ad426,e426,hx426_0,hx426_1,hx426_2⟩:=at_T73 HSz11_0 s0_1 p426 q426;obtain rfl:ad425=ad426:=(by injection e426)
     replace hx426_0:=pw_cell_below HB.out hx426_0;replace hx426_1:=pw_cell_below HB.out hx426_1;replace hx426_2:=pw_cell_below HB.out hx426_2;replace p426:=eq_true p426;replace q426:=eq_true q426;go_enter Tryz.func88,Tryz.ntmps88
     go_wp2
     repeat (go_quiet (fail);try go_wp2)
     go_ret
     exact ⟨zq4,zq31,zq32,zq33⟩
    obtain ⟨c10b0,c10b1⟩:=neI c10;simp only [Option.some.injEq,Prod.mk.injEq] at H
    obtain ⟨rfl,rfl,rfl⟩:=H;obtain ⟨ASz12_0,cSz12_0,HGz12,hgz12,HSz12_0⟩:=HI0.out;have hcz12_0:=cellS82_0 HGz12;have hcz12_1:=cellS82_1 HGz12;have hcz12_2:=cellS82_2 HGz12;have hfz12_1:=blk_frozen HGz12 1;have hfz12_2:=blk_frozen HGz12 2;clear HGz12 hgz12;have p425:0≤(s0_1:Int):=od;have q425:s0_1 < (s0_0.length:Int):=od;obtain ⟨ad425,e425,hx425_0,hx425_1,hx425_2⟩:=at_T73 HSz12_0 s0_1 p425 q425
    cases e425
    replace hx425_0:=pw_cell_below HB.out hx425_0;replace hx425_1:=pw_cell_below HB.out hx425_1;replace hx425_2:=pw_cell_below HB.out hx425_2;replace p425:=eq_true p425;replace q425:=eq_true q425;have p426:0≤(s0_1:Int):=od;have q426:s0_1 < (s0_0.length:Int):=od;obtain ⟨ad426,e426,hx426_0,hx426_1,hx426_2⟩:=at_T73 HSz12_0 s0_1 p426 q426;obtain rfl:ad425=ad426:=(by injection e426)
    replace hx426_0:=pw_cell_below HB.out hx426_0;replace hx426_1:=pw_cell_below HB.out hx426_1;replace hx426_2:=pw_cell_below HB.out hx426_2;replace p426:=eq_true p426;replace q426:=eq_true q426;go_enter Tryz.func88,Tryz.ntmps88
    go_wp2
    repeat (go_quiet (fail);try go_wp2)
    go_ret
    exact ⟨zq4,zq31,zq32,zq33⟩
   obtain ⟨c9b0,c9b1⟩:=neI c9;simp only [Option.some.injEq,Prod.mk.injEq] at H
   obtain ⟨rfl,rfl,rfl⟩:=H;obtain ⟨ASz13_0,cSz13_0,HGz13,hgz13,HSz13_0⟩:=HI0.out;have hcz13_0:=cellS82_0 HGz13;have hcz13_1:=cellS82_1 HGz13;have hcz13_2:=cellS82_2 HGz13;have hfz13_1:=blk_frozen HGz13 1;have hfz13_2:=blk_frozen HGz13 2;clear HGz13 hgz13;have p425:0≤(s0_1:Int):=od;have q425:s0_1 < (s0_0.length:Int):=od;obtain ⟨ad425,e425,hx425_0,hx425_1,hx425_2⟩:=at_T73 HSz13_0 s0_1 p425 q425
   cases e425
   replace hx425_0:=pw_cell_below HB.out hx425_0;replace hx425_1:=pw_cell_below HB.out hx425_1;replace hx425_2:=pw_cell_below HB.out hx425_2;replace p425:=eq_true p425;replace q425:=eq_true q425;go_enter Tryz.func88,Tryz.ntmps88
   go_wp2
   repeat (go_quiet (fail);try go_wp2)
   go_ret
   exact ⟨zq4,zq31,zq32,zq33⟩
  exact absurd H (by simp)
 exact absurd H (by simp)
theorem rf48_Reader_next.calls (g:Nat) (s0_0:List (S73)) (s0_1:Int) (s0_2:Bool) (a1 a2:Int) (r1:ByteArray) (r2:Int) (r3:Bool) (w0 w:World) (hI:IsS82 w0 w g s0_0 s0_1 s0_2) (hB:Below w0.heap.size w0 w) (h:rf48_Reader_next.f s0_0 s0_1 s0_2 a1 a2=some (r1,r2,r3)) :
  Calls Tryz.prog 127 #[.pointer (some ⟨g,0,none⟩),.int .i64 a1,.int .i64 a2] w fun e w'=>e=.returned (.string r1)∧IsS82 w0 w' g s0_0 r2 r3∧Below w0.heap.size w0 w'∧KeepBut w w' g none:=by
 have HI0:=sd hI;have HK:=sd (KeepBut.refl w g none);have HL:=sd hB.size;clear hI;have HW0:=sd hB.size;have HB:=sd hB;clear hB;have H:=h;clear h;unfold rf48_Reader_next.f at H;by_cases c4:s0_2=true
 ·subst c4;rw [if_pos rfl] at H;simp only [Option.some.injEq,Prod.mk.injEq] at H
  obtain ⟨rfl,rfl,rfl⟩:=H;obtain ⟨ASz5_0,cSz5_0,HGz5,hgz5,HSz5_0⟩:=HI0.out;have hcz5_0:=cellS82_0 HGz5;have hcz5_1:=cellS82_1 HGz5;have hcz5_2:=cellS82_2 HGz5;have hfz5_1:=blk_frozen HGz5 1;have hfz5_2:=blk_frozen HGz5 2;clear HGz5 hgz5;go_enter Tryz.func127,Tryz.ntmps127
  go_wp2
  repeat (go_quiet (fail);try go_wp2)
  go_ret
  exact ⟨zq4,zq31,zq32,zq33⟩
 replace c4:=Bool.eq_false_iff.mpr c4;subst c4;rw [if_neg Bool.false_ne_true] at H;replace H:=ifI H;rcases H with ⟨c6,H⟩|⟨c6,H⟩
 ·have c6b0:decide ((s0_0.length:Int)≤s0_1)=true:=decide_eq_true c6;clear c6;simp only [Option.some.injEq,Prod.mk.injEq] at H
  obtain ⟨rfl,rfl,rfl⟩:=H;obtain ⟨ASz7_0,cSz7_0,HGz7,hgz7,HSz7_0⟩:=HI0.out;have hcz7_0:=cellS82_0 HGz7;have hcz7_1:=cellS82_1 HGz7;have hcz7_2:=cellS82_2 HGz7;have hfz7_1:=blk_frozen HGz7 1;have hfz7_2:=blk_frozen HGz7 2;clear HGz7 hgz7;go_enter Tryz.func127,Tryz.ntmps127
  go_wp2
  repeat (go_quiet (fail);try go_wp2)
  go_ret
  exact ⟨zq4,zq31,zq32,zq33⟩
 have c6b0:decide ((s0_0.length:Int)≤s0_1)=false:=decide_eq_false c6;clear c6;replace H:=ifI H;rcases H with ⟨c8,H⟩|⟨c8,H⟩
 ·have c8b0:decide (0≤s0_1)=true:=decide_eq_true c8;clear c8;replace H:=ifI H;rcases H with ⟨c9,H⟩|⟨c9,H⟩
  ·have c9b0:decide (s0_1 < (s0_0.length:Int))=true:=decide_eq_true c9;clear c9;replace H:=ifI H;rcases H with ⟨c10,H⟩|⟨c10,H⟩
   ·obtain ⟨c10b0,c10b1⟩:=eqI c10;clear c10;obtain ⟨ji11,hji11⟩:∃ j_:Int,(wrap64 ((wrap64 (s0_1+1)) - 1))=j_:=⟨_,rfl⟩
    replace H:(if 0≤(ji11) then (if (ji11) < (s0_0.length:Int) then (some ((rd_T73 s0_0 (ji11)).f1,wrap64 (s0_1+1),false)) else (none)) else (none))=some (r1,r2,r3):=by first|(rw [hji11] at H;exact H)|(simp only [hji11] at H ⊢;exact H)
    have hji11w:(IntKind.i64.wrap ((wrap64 (s0_1+1)) - 1))=ji11:=(i64_w _).trans hji11;replace H:=ifI H;rcases H with ⟨c12,H⟩|⟨c12,H⟩
    ·have c12b0:decide (0≤(ji11))=true:=decide_eq_true c12;clear c12;replace H:=ifI H;rcases H with ⟨c13,H⟩|⟨c13,H⟩
     ·have c13b0:decide ((ji11) < (s0_0.length:Int))=true:=decide_eq_true c13;clear c13;simp only [Option.some.injEq,Prod.mk.injEq] at H
      obtain ⟨rfl,rfl,rfl⟩:=H;obtain ⟨ASz14_0,cSz14_0,HGz14,hgz14,HSz14_0⟩:=HI0.out;have hcz14_0:=cellS82_0 HGz14;have hcz14_1:=cellS82_1 HGz14;have hcz14_2:=cellS82_2 HGz14;have hfz14_1:=blk_frozen HGz14 1;have hfz14_2:=blk_frozen HGz14 2;clear HGz14 hgz14;have p430:0≤(s0_1:Int):=od;have q430:s0_1 < (s0_0.length:Int):=od;obtain ⟨ad430,e430,hx430_0,hx430_1,hx430_2⟩:=at_T73 HSz14_0 s0_1 p430 q430
      cases e430
      replace hx430_0:=pw_cell_below HB.out hx430_0;replace hx430_1:=pw_cell_below HB.out hx430_1;replace hx430_2:=pw_cell_below HB.out hx430_2;replace p430:=eq_true p430;replace q430:=eq_true q430;have p431:0≤((ji11):Int):=od;have q431:(ji11) < (s0_0.length:Int):=od;obtain ⟨ad431,e431,hx431_0,hx431_1,hx431_2⟩:=at_T73 HSz14_0 (ji11) p431 q431;obtain rfl:ad430=ad431:=(by injection e431)
      have hn431_0:ad430.block≠g:=Nat.ne_of_lt (Nat.lt_of_lt_of_le (by have:=World.block_lt_of_cell? _ _ hx431_0;first|rwa [add_block] at this|exact this) (IsS82.ge HI0.out));replace hx431_0:=pw_cell_below HB.out hx431_0;replace hx431_1:=pw_cell_below HB.out hx431_1;replace hx431_2:=pw_cell_below HB.out hx431_2;replace hx431_0:=(cell_far (p:=⟨g,1,none⟩) zq65 (.int .i64 (wrap64 (s0_1+1)))).trans hx431_0;replace hx431_1:=(cell_far (p:=⟨g,1,none⟩) zq65 (.int .i64 (wrap64 (s0_1+1)))).trans hx431_1;replace hx431_2:=(cell_far (p:=⟨g,1,none⟩) zq65 (.int .i64 (wrap64 (s0_1+1)))).trans hx431_2;(try have hy431_0:=fun (n_:Nat)=>(show (((w.drewN n_).setCell ⟨g,1,none⟩ (.int .i64 (wrap64 (s0_1+1))))).cell? _=some _ from hx431_0))
      (try have hy431_1:=fun (n_:Nat)=>(show (((w.drewN n_).setCell ⟨g,1,none⟩ (.int .i64 (wrap64 (s0_1+1))))).cell? _=some _ from hx431_1))
      (try have hy431_2:=fun (n_:Nat)=>(show (((w.drewN n_).setCell ⟨g,1,none⟩ (.int .i64 (wrap64 (s0_1+1))))).cell? _=some _ from hx431_2))
      clear hn431_0;replace p431:=eq_true p431;replace q431:=eq_true q431;go_enter Tryz.func127,Tryz.ntmps127
      go_wp2
      repeat (go_quiet (fail);try go_wp2)
      go_ret
      exact ⟨by first|rfl|(simp [errW_none,errW_some] <;> rfl)|(simp only [← hji11];first|rfl|(simp [errW_none,errW_some] <;> rfl))|(simp [*,errW_none,errW_some] <;> rfl),zq31,zq32,zq33⟩
     exact absurd H (by simp)
    exact absurd H (by simp)
   obtain ⟨c10b0,c10b1⟩:=neI c10;replace H:=ifI H;rcases H with ⟨c15,H⟩|⟨c15,H⟩
   ·obtain ⟨c15b0,c15b1⟩:=eqI c15;clear c15;obtain ⟨ji16,hji16⟩:∃ j_:Int,(wrap64 ((wrap64 (s0_1+1)) - 1))=j_:=⟨_,rfl⟩
    replace H:(if 0≤(ji16) then (if (ji16) < (s0_0.length:Int) then (some ((rd_T73 s0_0 (ji16)).f1,wrap64 (s0_1+1),false)) else (none)) else (none))=some (r1,r2,r3):=by first|(rw [hji16] at H;exact H)|(simp only [hji16] at H ⊢;exact H)
    have hji16w:(IntKind.i64.wrap ((wrap64 (s0_1+1)) - 1))=ji16:=(i64_w _).trans hji16;replace H:=ifI H;rcases H with ⟨c17,H⟩|⟨c17,H⟩
    ·have c17b0:decide (0≤(ji16))=true:=decide_eq_true c17;clear c17;replace H:=ifI H;rcases H with ⟨c18,H⟩|⟨c18,H⟩
     ·have c18b0:decide ((ji16) < (s0_0.length:Int))=true:=decide_eq_true c18;clear c18;simp only [Option.some.injEq,Prod.mk.injEq] at H
      obtain ⟨rfl,rfl,rfl⟩:=H;obtain ⟨ASz19_0,cSz19_0,HGz19,hgz19,HSz19_0⟩:=HI0.out;have hcz19_0:=cellS82_0 HGz19;have hcz19_1:=cellS82_1 HGz19;have hcz19_2:=cellS82_2 HGz19;have hfz19_1:=blk_frozen HGz19 1;have hfz19_2:=blk_frozen HGz19 2;clear HGz19 hgz19;have p430:0≤(s0_1:Int):=od;have q430:s0_1 < (s0_0.length:Int):=od;obtain ⟨ad430,e430,hx430_0,hx430_1,hx430_2⟩:=at_T73 HSz19_0 s0_1 p430 q430
      cases e430
      replace hx430_0:=pw_cell_below HB.out hx430_0;replace hx430_1:=pw_cell_below HB.out hx430_1;replace hx430_2:=pw_cell_below HB.out hx430_2;replace p430:=eq_true p430;replace q430:=eq_true q430;have p432:0≤(s0_1:Int):=od;have q432:s0_1 < (s0_0.length:Int):=od;obtain ⟨ad432,e432,hx432_0,hx432_1,hx432_2⟩:=at_T73 HSz19_0 s0_1 p432 q432;obtain rfl:ad430=ad432:=(by injection e432)
      replace hx432_0:=pw_cell_below HB.out hx432_0;replace hx432_1:=pw_cell_below HB.out hx432_1;replace hx432_2:=pw_cell_below HB.out hx432_2;replace p432:=eq_true p432;replace q432:=eq_true q432;have p433:0≤((ji16):Int):=od;have q433:(ji16) < (s0_0.length:Int):=od;obtain ⟨ad433,e433,hx433_0,hx433_1,hx433_2⟩:=at_T73 HSz19_0 (ji16) p433 q433;obtain rfl:ad430=ad433:=(by injection e433)
      have hn433_0:ad430.block≠g:=Nat.ne_of_lt (Nat.lt_of_lt_of_le (by have:=World.block_lt_of_cell? _ _ hx433_0;first|rwa [add_block] at this|exact this) (IsS82.ge HI0.out));replace hx433_0:=pw_cell_below HB.out hx433_0;replace hx433_1:=pw_cell_below HB.out hx433_1;replace hx433_2:=pw_cell_below HB.out hx433_2;replace hx433_0:=(cell_far (p:=⟨g,1,none⟩) zq66 (.int .i64 (wrap64 (s0_1+1)))).trans hx433_0;replace hx433_1:=(cell_far (p:=⟨g,1,none⟩) zq66 (.int .i64 (wrap64 (s0_1+1)))).trans hx433_1;replace hx433_2:=(cell_far (p:=⟨g,1,none⟩) zq66 (.int .i64 (wrap64 (s0_1+1)))).trans hx433_2;(try have hy433_0:=fun (n_:Nat)=>(show (((w.drewN n_).setCell ⟨g,1,none⟩ (.int .i64 (wrap64 (s0_1+1))))).cell? _=some _ from hx433_0))
      (try have hy433_1:=fun (n_:Nat)=>(show (((w.drewN n_).setCell ⟨g,1,none⟩ (.int .i64 (wrap64 (s0_1+1))))).cell? _=some _ from hx433_1))
      (try have hy433_2:=fun (n_:Nat)=>(show (((w.drewN n_).setCell ⟨g,1,none⟩ (.int .i64 (wrap64 (s0_1+1))))).cell? _=some _ from hx433_2))
      clear hn433_0;replace p433:=eq_true p433;replace q433:=eq_true q433;go_enter Tryz.func127,Tryz.ntmps127
      go_wp2
      repeat (go_quiet (fail);try go_wp2)
      go_ret
      exact ⟨by first|rfl|(simp [errW_none,errW_some] <;> rfl)|(simp only [← hji16];first|rfl|(simp [errW_none,errW_some] <;> rfl))|(simp [*,errW_none,errW_some] <;> rfl),zq31,zq32,zq33⟩
     exact absurd H (by simp)
    exact absurd H (by simp)
   obtain ⟨c15b0,c15b1⟩:=neI c15;simp only [Option.some.injEq,Prod.mk.injEq] at H
   obtain ⟨rfl,rfl,rfl⟩:=H;obtain ⟨ASz20_0,cSz20_0,HGz20,hgz20,HSz20_0⟩:=HI0.out;have hcz20_0:=cellS82_0 HGz20;have hcz20_1:=cellS82_1 HGz20;have hcz20_2:=cellS82_2 HGz20;have hfz20_1:=blk_frozen HGz20 1;have hfz20_2:=blk_frozen HGz20 2;clear HGz20 hgz20;have p430:0≤(s0_1:Int):=od;have q430:s0_1 < (s0_0.length:Int):=od;obtain ⟨ad430,e430,hx430_0,hx430_1,hx430_2⟩:=at_T73 HSz20_0 s0_1 p430 q430
   cases e430
   replace hx430_0:=pw_cell_below HB.out hx430_0;replace hx430_1:=pw_cell_below HB.out hx430_1;replace hx430_2:=pw_cell_below HB.out hx430_2;replace p430:=eq_true p430;replace q430:=eq_true q430;have p432:0≤(s0_1:Int):=od;have q432:s0_1 < (s0_0.length:Int):=od;obtain ⟨ad432,e432,hx432_0,hx432_1,hx432_2⟩:=at_T73 HSz20_0 s0_1 p432 q432;obtain rfl:ad430=ad432:=(by injection e432)
   replace hx432_0:=pw_cell_below HB.out hx432_0;replace hx432_1:=pw_cell_below HB.out hx432_1;replace hx432_2:=pw_cell_below HB.out hx432_2;replace p432:=eq_true p432;replace q432:=eq_true q432;go_enter Tryz.func127,Tryz.ntmps127
   go_wp2
   repeat (go_quiet (fail);try go_wp2)
   go_ret
   exact ⟨zq4,zq31,zq32,zq33⟩
  exact absurd H (by simp)
 exact absurd H (by simp)
end A

end Go.Proofs.YtkbgkekegjfkfaaGreatDoor