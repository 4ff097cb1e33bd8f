-- By pack.py, a program of this session's.
import Derived.Test.YtmlcdpfcafmmcaaDoorX0
import Derived.Test.YtmlcdpfcafmmcaaDoorX1
set_option linter.unusedVariables false
set_option linter.unusedSimpArgs false
namespace Go.Proofs.YtmlcdpfcafmmcaaDoor.WW
open Go.RowKit
theorem ReadsInt.below {w w1:World} {k:IntKind} {A:Option Addr} {n:Nat} {xs:List Int} (h:ReadsInt w k A n xs) (hb:Below w.heap.size w w1):ReadsInt w1 k A n xs :=
  ⟨h.1,h.2.1,fun hn=>by
    obtain ⟨ad,e,hc⟩:=h.2.2 hn;exact ⟨ad,e,fun j hj=>pw_cell_below hb (hc j hj)⟩⟩
theorem Ev.bind {α β:Type} {g:Nat→Option α} {f:Nat→α→Option β} {a:α} {r:β} (h:Ev g a) (k:Ev (fun n=>f n a) r):Ev (fun n=>(g n).bind (f n)) r:=by
  obtain ⟨K,h⟩:=h;obtain ⟨K',k⟩:=k;refine ⟨max K K',fun n hn=>?_⟩;have h1:=h n (by omega);have h2:=k n (by omega);simp only [h1,Option.bind_some]
  exact h2
theorem Ev.step {α:Type} {g f:Nat→Option α} {r:α} (h:∀ k,g (k+1)=f k) (k:Ev f r):Ev g r:=by
  obtain ⟨K,k⟩:=k;refine ⟨K+1,fun n hn=>?_⟩;obtain ⟨m,rfl⟩:∃ m,n=m+1:=⟨n - 1,by omega⟩
  rw [h];exact k m (by omega)
theorem blk_alloc {w:World} {g:Nat} {o:Obj} (h:w.heap[g]?=some o) (o':Obj):(w.alloc o').heap[g]?=some o:=(Below.heap_alloc w o' g (blk_lt h)).trans h
end Go.Proofs.YtmlcdpfcafmmcaaDoor.WW
namespace Go.Proofs.YtmlcdpfcafmmcaaDoor.A
open Go.RowKit B WW WL WM
theorem zq13 {P:Prop} (h:P:=by repeat (first | (with_reducible first | exact HB.out | exact Below.refl _ _ | apply below_alloc | apply pw_below_drewN | apply below_drew1) | exact HB.out)):P:=h
theorem zq60 {P:Prop} (h:P:=by rw [← hq_];exact (by (with_reducible repeat (first | refine blk_drewN ?_ _ | refine blk_drew ?_ | refine blk_alloc ?_ _));exact BK104.out)):P:=h
theorem zq61 {P:Prop} (h:P:=by rw [← hq_];exact (by repeat (first | (with_reducible first | exact HB.out | apply below_alloc | apply pw_below_drewN | apply below_drew1 | refine below_set ?_ GE104.out) | exact HB.out))):P:=h
theorem zq62 {P:Prop} (h:P:=by repeat (first | (with_reducible first | exact HB.out | apply below_alloc | apply pw_below_drewN | apply below_drew1 | refine below_set ?_ GE104.out) | exact HB.out)):P:=h
theorem zq63 {P:Prop} (h:P:=by (with_reducible repeat (first | refine blk_drewN ?_ _ | refine blk_drew ?_ | refine blk_alloc ?_ _));exact BK104.out):P:=h
theorem zq119 {P:Prop} (h:P:=by (with_reducible repeat (first | refine blk_drewN ?_ _ | refine blk_drew ?_ | refine blk_alloc ?_ _));exact BK174.out):P:=h
end Go.Proofs.YtmlcdpfcafmmcaaDoor.A
namespace Go.Proofs.YtmlcdpfcafmmcaaDoor.WW
open Go.RowKit
namespace Kd
def H {α:Type} (d:Kd α) (e:Nat) (w:World) (base:Nat) (ok:Nat→Prop) (v:Value) (xs:List α) (i:Int) (oki:Nat→Prop) (c:List Value):Prop :=
  (∀ k,oki k→ok k)∧∃ f,(gap f d i.toNat c).R e w base (fun k=>ok k∧¬ oki k) v xs.zipIdx
theorem Heap.C {α:Type} {d:Kd α} (hd:Heap d) {w w1:World} {A:Option Addr} {n:Nat} {xs:List α} (hb:∀ k,k < w.heap.size→w1.heap[k]?=w.heap[k]?) (h:d.C w A n xs):d.C w1 A n xs :=
  ⟨h.1,h.2.1,fun hn=>by
    obtain ⟨ad,e,hc⟩:=h.2.2 hn;refine ⟨ad,e,fun j p hj=>?_⟩;obtain ⟨c,hs,hr,hcell⟩:=hc j p hj;exact ⟨c,hs,hd.K hb hr,fun i u hu=>cell_heap hb (hcell i u hu)⟩⟩
def F {α:Type} (d:Kd α) (W:World) (ok:Nat→Prop) (A:Option Addr) (n:Nat) (xs:List α):Prop:=Foot (fun W=>d.C W A n xs) W ok
def FK {α:Type} (d:Kd α) (W:World) (ok:Nat→Prop) (x:α) (c:List Value):Prop:=Foot (fun W=>d.K W x c) W ok
def V {α:Type} (d:Kd α) (_e:Nat) (W:World) (_base:Nat) (ok:Nat→Prop) (v:Value) (xs:List α):Prop:=∃ A c,v=.slice A xs.length c∧xs.length≤c∧F d W ok A xs.length xs
end Kd
end Go.Proofs.YtmlcdpfcafmmcaaDoor.WW
namespace Go.Proofs.YtmlcdpfcafmmcaaDoor.B
open Go.RowKit WW WL WM
section
variable {P:Program} {ops:Array Oper} {rest:List Oper} {o:Oper} {Q:Exit→Act→World→Prop} {a:Act} {w V W w1:World} {g g':Nat}
theorem bk2 {w:World} {g t:Nat} {v0 v1:Value} (B:Aside0 (w.heap[g]?=some (.cells #[v0,v1] t (0,0)))):w.cell? ⟨g,0,none⟩=some v0∧w.cell? ⟨g,1,none⟩=some v1∧w.frozen? ⟨g,0,none⟩=false∧w.frozen? ⟨g,1,none⟩=false:=⟨(blk_cell B.out 0).trans rfl,(blk_cell B.out 1).trans rfl,blk_frozen B.out 0,blk_frozen B.out 1⟩
theorem bk3 {w:World} {g t:Nat} {v0 v1 v2:Value} (B:Aside0 (w.heap[g]?=some (.cells #[v0,v1,v2] t (0,0)))):w.cell? ⟨g,0,none⟩=some v0∧w.cell? ⟨g,1,none⟩=some v1∧w.cell? ⟨g,2,none⟩=some v2∧w.frozen? ⟨g,0,none⟩=false∧w.frozen? ⟨g,1,none⟩=false∧w.frozen? ⟨g,2,none⟩=false:=⟨(blk_cell B.out 0).trans rfl,(blk_cell B.out 1).trans rfl,(blk_cell B.out 2).trans rfl,blk_frozen B.out 0,blk_frozen B.out 1,blk_frozen B.out 2⟩
theorem bk4 {w:World} {g t:Nat} {v0 v1 v2 v3:Value} (B:Aside0 (w.heap[g]?=some (.cells #[v0,v1,v2,v3] t (0,0)))):w.cell? ⟨g,0,none⟩=some v0∧w.cell? ⟨g,1,none⟩=some v1∧w.cell? ⟨g,2,none⟩=some v2∧w.cell? ⟨g,3,none⟩=some v3∧w.frozen? ⟨g,0,none⟩=false∧w.frozen? ⟨g,1,none⟩=false∧w.frozen? ⟨g,2,none⟩=false∧w.frozen? ⟨g,3,none⟩=false:=⟨(blk_cell B.out 0).trans rfl,(blk_cell B.out 1).trans rfl,(blk_cell B.out 2).trans rfl,(blk_cell B.out 3).trans rfl,blk_frozen B.out 0,blk_frozen B.out 1,blk_frozen B.out 2,blk_frozen B.out 3⟩
theorem hbm (H:Aside0 (Below w.heap.size w V)) (hb:Below W.heap.size W w1) (hs:Below w.heap.size w V→Below w.heap.size w W:=by (intro h;repeat (first | (with_reducible first | exact h | apply below_alloc | apply pw_below_drewN | apply below_drew1 | refine below_set ?_ (Aside0.out ‹_›)) | exact h))):Aside0 (Below w.heap.size w w1):=⟨below_step (hs H.out) hb⟩
theorem gem (hg:g=W.heap.size) (H:Aside0 (Below w.heap.size w V)) (hs:Below w.heap.size w V→Below w.heap.size w W:=by (intro h;repeat (first | (with_reducible first | exact h | apply below_alloc | apply pw_below_drewN | apply below_drew1 | refine below_set ?_ (Aside0.out ‹_›)) | exact h))):Aside0 (w.heap.size≤g):=⟨by rw [hg];exact below_size (hs H.out)⟩
theorem nlm {ob:Obj} (hg:g'=W.heap.size) (B:Aside0 (V.heap[g]?=some ob)) (hs:V.heap[g]?=some ob→W.heap[g]?=some ob:=by (intro h;(with_reducible repeat (first | refine blk_drewN ?_ _ | refine blk_drew ?_ | refine blk_alloc ?_ _));exact h)):Aside0 (g≠g'):=⟨by rw [hg];exact Nat.ne_of_lt (blk_lt (hs B.out))⟩
theorem ngm {ob:Obj} (hg:g'=W.heap.size) (B:Aside0 (V.heap[g]?=some ob)) (hs:V.heap[g]?=some ob→W.heap[g]?=some ob:=by (intro h;(with_reducible repeat (first | refine blk_drewN ?_ _ | refine blk_drew ?_ | refine blk_alloc ?_ _));exact h)):Aside0 (g'≠g):=⟨by rw [hg];exact Nat.ne_of_gt (blk_lt (hs B.out))⟩
end
end Go.Proofs.YtmlcdpfcafmmcaaDoor.B
namespace Go.Proofs.YtmlcdpfcafmmcaaDoor.WW
open Go.RowKit
namespace Kd
section
variable {α β:Type} {d:Kd α} {e base n n' cc g N:Nat} {ok ok' okp S:Nat→Prop} {w w0 w1 W W1:World} {A A':Option Addr} {u v v1:Value} {xs:List α} {xs':List β} {d':Kd β} {x:α} {c:List Value}
theorem F_nil (d:Kd α) (W:World) (ok:Nat→Prop):F d W ok none ([]:List α).length []:=fun W' _=>C_nil d W'
theorem FK_of_M (h:d.M W base ok x c):FK d W ok x c:=fun _ hW=>d.K_of_M (M_step h hW)
end
end Kd
end Go.Proofs.YtmlcdpfcafmmcaaDoor.WW
namespace Go.Proofs.YtmlcdpfcafmmcaaDoor.WW
open Go.RowKit
namespace Foot
variable {P Q:World→Prop} {W W1:World} {ok ok':Nat→Prop}
theorem mono (h:Foot P W ok) (hok:∀ k,ok k→ok' k):Foot P W ok':=fun W' hW=>h W' (fun k hk hlt=>hW k (hok k hk) hlt)
theorem step (h:Foot P W ok) (hm:∀ k,ok k→k < W.heap.size→W1.heap[k]?=W.heap[k]?):Foot P W1 ok:=fun W' hW=>h W' (fun k hk hlt=>(hW k hk (heap_lt (hm k hk hlt) hlt)).trans (hm k hk hlt))
end Foot
end Go.Proofs.YtmlcdpfcafmmcaaDoor.WW
namespace Go.Proofs.YtmlcdpfcafmmcaaDoor.WM
open Go.RowKit WW
theorem max2_int (k k':IntKind) (x y:Int):Builtin.max2 (.int k x) (.int k' y)=pure (.int k (if x < y then y else x)):=by simp only [Builtin.max2,gt_iff_lt]
theorem min2_int (k k':IntKind) (x y:Int):Builtin.min2 (.int k x) (.int k' y)=pure (.int k (if y < x then y else x)):=by simp only [Builtin.min2]
end Go.Proofs.YtmlcdpfcafmmcaaDoor.WM
namespace Go.Proofs.YtmlcdpfcafmmcaaDoor.A
open Go.RowKit B WW WL WM
attribute [local go_sem] max2_int min2_int max_two min_two max_three min_three max_four min_four
set_option maxHeartbeats 8000000
set_option maxRecDepth 100000
def words_printable.f (a0:Int):Option (Bool):=if a0 ≥ 32 then (some (decide (a0≤126))) else (some false)
def isPrn (c:UInt8):Bool:=decide (32≤c.toNat) && decide (c.toNat≤126)
theorem all_bad {p:UInt8→Bool} {l:List UInt8} {i:Nat} (h:i < l.length) (hu:p l[i]=false):l.all p=false:=by
 rw [Bool.eq_false_iff];intro hh;have:=List.all_eq_true.mp hh l[i] (List.getElem_mem h);rw [hu] at this;cases this
theorem print_wd:∀ n:Nat,n < 256→words_printable.f (n:Int)=some (decide (32≤n) && decide (n≤126)):=by decide +kernel
def plainW (l:List UInt8):Bool:=decide (l.length≤60) && l.all isPrn
def money_Code.f (a0:ByteArray):Option (Bool):=if a0.size≤140737488351232 then some (codeL a0.data.toList) else none
def stmt_within.f (a0:Int) (a1:Int):Option (Bool):=if a0 ≥ (wrap64 (-a1)) then (some (decide (a0≤a1))) else (some false)
def days_is.f (a0:Int):Option (Bool):=if a0 ≥ 0 then (some (decide (a0≤109572))) else (some false)
def days_before.f (a0:Int):Option (Int):=some (wrap64 ((wrap64 (365 * (wrap64 (a0 - 1900))))+(wrap64 ((wrap64 ((wrap64 ((wrap64 ((wrap64 ((wrap64 (Int.tdiv (wrap64 (a0 - 1)) 4)) - (wrap64 (Int.tdiv (wrap64 (a0 - 1)) 100))))+(wrap64 (Int.tdiv (wrap64 (a0 - 1)) 400)))) - 474))+18)) - 4))))
def days_Leap.f (a0:Int):Option (Bool):=if (Int.tmod a0 4)=0 then (if (Int.tmod a0 100)=0 then (some ((Int.tmod a0 400) == 0)) else (some true)) else (some ((Int.tmod a0 400) == 0))
def days_Length.f (a0 a1:Int):Option Int:=if a1 < 1∨12 < a1 then some 0 else if a1=2 then (days_Leap.f a0).bind fun b=>some (if b=true then 29 else 28) else some (monLen (a1 - 1).toNat)
mutual
def days_Date.j1:Nat→Int→Int→Int→Int→Option (Int×Int×Int×Int)
 | 0,_,_,_,_=>none
 | k+1,x0,x105000,x105001,x105002=>(days_before.f x105000).bind fun t107=>(days_Date.l1 k (wrap64 (x0 - t107)) x105000 1 x105002)
def days_Date.l1:Nat→Int→Int→Int→Int→Option (Int×Int×Int×Int)
 | 0,_,_,_,_=>none
 | k+1,x0,x105000,x105001,x105002=>(days_Length.f x105000 x105001).bind fun t108=>(if x0 ≥ t108 then ((days_Length.f x105000 x105001).bind fun t109=>(days_Date.l1 k (wrap64 (x0 - t109)) x105000 (wrap64 (x105001+1)) x105002)) else (some (x105000,x105001,wrap64 (x0+1),0)))
def days_Date.l0:Nat→Int→Int→Int→Int→Option (Int×Int×Int×Int)
 | 0,_,_,_,_=>none
 | k+1,x0,x105000,x105001,x105002=>if x105000 < 2199 then ((days_before.f (wrap64 (x105000+1))).bind fun t106=>(if t106≤x0 then (days_Date.l0 k x0 (wrap64 (x105000+1)) x105001 x105002) else (days_Date.j1 k x0 x105000 x105001 x105002))) else (days_Date.j1 k x0 x105000 x105001 x105002)
end
def days_Date.f (k:Nat) (a0:Int):Option (Int×Int×Int×Int):=(days_is.f a0).bind fun t105=>(if t105=true then (days_Date.l0 k a0 (wrap64 (1900+(wrap64 (Int.tdiv a0 366)))) 0 0) else (some (0,0,0,11)))
def words_Plain.f (a0:ByteArray):Option (Bool):=if a0.size≤140737488351232 then some (plainW a0.data.toList) else none
def stmt_one.f (k:Nat) (a0_0:Int) (a0_1:Int) (a0_2:ByteArray) (a0_3:ByteArray) (a1:Int):Option (Int):=(days_Date.f k a0_0).bind fun bt111=>(if bt111.2.2.2=0 then (if a0_0 < a1 then (some 17) else (if a0_1=0 then (some 2) else ((stmt_within.f a0_1 1000000000000).bind fun t116=>(if t116=true then ((words_Plain.f a0_2).bind fun t117=>(if t117=true then ((words_Plain.f a0_3).bind fun t118=>(if t118=true then (some 0) else (some 5))) else (some 5))) else (some 4))))) else (some bt111.2.2.2))
def money_fits.f (a0:Int):Option (Bool):=if a0 ≥ 0 then (some (decide (a0≤4))) else (some false)
def money_Right.T6:Bool×List (List Nat×List Nat):=(true,[([],[]),([0],[0]),([1],[1]),([2],[2]),([3,2],[3]),([4],[4]),([5,4],[4,5]),([6,4,4],[4,6]),([7,4],[4,7]),([4,8],[4,8]),([9,7],[9]),([10],[10]),([11,10],[10,11]),([12,10,10],[10,12]),([13],[13]),([13],[13]),([15,13],[13,15]),([14,16,13],[13,14,16]),([17,13],[13,17]),([18,13],[13,18]),([13],[13]),([20,13],[13,20]),([19,21,13],[13,19,21]),([13,22,10],[10,13,22]),([10,23],[10,23])])
def money_Right.B6:List Nat:=[0,1,3,7,15,31,63,127,255,511,1023,2047,4095,8191,16383,16383,49151,131071,262143,524287,16383,1064959,4194303,8388607,16777215]
def words_quoted.l0:Nat→ByteArray→Int→List Int→Int→Int→Int→Option (ByteArray×Int×Int×Int)
 | 0,_,_,_,_,_,_=>none
 | k+1,x0,x1,x7,x8,x175000,x175001=>if x8 < (x0.size:Int) then (if 0≤x8 then (if (bt x0 x8)=34 then (some (strOfNums x7,wrap64 (x8+1),x175000,x175001)) else (if (bt x0 x8)=92 then (if (wrap64 (x8+1)) ≥ (x0.size:Int) then (some ((⟨#[]⟩:ByteArray),0,wrap64 ((wrap64 (x8+1)) - 1),5)) else (if 0≤(wrap64 (x8+1)) then (if (wrap64 (x8+1)) < (x0.size:Int) then (if (bt x0 (wrap64 (x8+1)))=34 then (if x7.length < 140737488355328 then (words_quoted.l0 k x0 x1 (x7++[bt x0 (wrap64 (x8+1))]) (wrap64 ((wrap64 (x8+1))+1)) x175000 x175001) else (none)) else (if (bt x0 (wrap64 (x8+1)))=92 then (if x7.length < 140737488355328 then (words_quoted.l0 k x0 x1 (x7++[bt x0 (wrap64 (x8+1))]) (wrap64 ((wrap64 (x8+1))+1)) x175000 x175001) else (none)) else (some ((⟨#[]⟩:ByteArray),0,wrap64 ((wrap64 (x8+1)) - 1),5)))) else (none)) else (none))) else ((words_printable.f (bt x0 x8)).bind fun t181=>(if t181=true then (if x7.length < 140737488355328 then (words_quoted.l0 k x0 x1 (x7++[bt x0 x8]) (wrap64 (x8+1)) x175000 x175001) else (none)) else (some ((⟨#[]⟩:ByteArray),0,x8,5)))))) else (none)) else (some ((⟨#[]⟩:ByteArray),0,x1,6))
def words_quoted.f (k:Nat) (a0:ByteArray) (a1:Int):Option (ByteArray×Int×Int×Int):=words_quoted.l0 k a0 a1 ([]:List Int) (wrap64 (a1+1)) 0 0
def words_quoted.T8:Bool×List (List Nat×List Nat):=(true,[([],[]),([0],[0]),([],[]),([2],[2]),([],[]),([1,0,1],[1]),([3,5,0,1,2,3,5],[3]),([4,6,0,1,2,3,4,5,6],[4])])
def words_quoted.B8:List Nat:=[0,1,0,4,0,3,47,127]
def words_signEnd.j0:Nat→ByteArray→Int→Option (Int)
 | 0,_,_=>none
 | k+1,x0,x1=>if 0≤x1 then (if x1 < (x0.size:Int) then (if (bt x0 x1)=40 then (some (wrap64 (x1+1))) else (if (bt x0 x1)=41 then (some (wrap64 (x1+1))) else (if (bt x0 x1)=123 then (some (wrap64 (x1+1))) else (if (bt x0 x1)=125 then (some (wrap64 (x1+1))) else (if (bt x0 x1)=91 then (some (wrap64 (x1+1))) else (if (bt x0 x1)=93 then (some (wrap64 (x1+1))) else (if (bt x0 x1)=44 then (some (wrap64 (x1+1))) else (if (bt x0 x1)=59 then (some (wrap64 (x1+1))) else (if (bt x0 x1)=58 then (some (wrap64 (x1+1))) else (if (bt x0 x1)=61 then (some (wrap64 (x1+1))) else (if (bt x0 x1)=43 then (some (wrap64 (x1+1))) else (if (bt x0 x1)=45 then (some (wrap64 (x1+1))) else (if (bt x0 x1)=42 then (some (wrap64 (x1+1))) else (if (bt x0 x1)=47 then (some (wrap64 (x1+1))) else (if (bt x0 x1)=60 then (some (wrap64 (x1+1))) else (if (bt x0 x1)=62 then (some (wrap64 (x1+1))) else (if (bt x0 x1)=124 then (some (wrap64 (x1+1))) else (if (bt x0 x1)=38 then (some (wrap64 (x1+1))) else (if (bt x0 x1)=33 then (some (wrap64 (x1+1))) else (if (bt x0 x1)=64 then (some (wrap64 (x1+1))) else (if (bt x0 x1)=37 then (some (wrap64 (x1+1))) else (some x1)))))))))))))))))))))) else (none)) else (none)
def words_signEnd.f (k:Nat) (a0:ByteArray) (a1:Int):Option (Int):=if (wrap64 (a1+2))≤(a0.size:Int) then (if 0≤a1 then (if a1≤(wrap64 (a1+2)) then (if (a0.extract (a1:Int).toNat ((wrap64 (a1+2)):Int).toNat).toList=([60,61]:List UInt8) then (some (wrap64 (a1+2))) else (if (a0.extract (a1:Int).toNat ((wrap64 (a1+2)):Int).toNat).toList=([62,61]:List UInt8) then (some (wrap64 (a1+2))) else (if (a0.extract (a1:Int).toNat ((wrap64 (a1+2)):Int).toNat).toList=([33,61]:List UInt8) then (some (wrap64 (a1+2))) else (if (a0.extract (a1:Int).toNat ((wrap64 (a1+2)):Int).toNat).toList=([46,46]:List UInt8) then (some (wrap64 (a1+2))) else (words_signEnd.j0 k a0 a1))))) else (none)) else (none)) else (words_signEnd.j0 k a0 a1)
mutual
def num_formed.j0:Nat→ByteArray→Bool→Option (Bool)
 | 0,_,_=>none
 | k+1,x0,x3=>if x3=true then (if 1≤(x0.size:Int) then (num_formed.j1 k (x0.extract 1 x0.size) x3) else (none)) else (num_formed.j1 k x0 x3)
def num_formed.j1:Nat→ByteArray→Bool→Option (Bool)
 | 0,_,_=>none
 | k+1,x0,x3=>if x0.toList=([]:List UInt8) then (num_formed.j2 k x0 true) else (if 0 < (x0.size:Int) then (if (bt x0 0)=48 then (if x3=true then (num_formed.j2 k x0 true) else (num_formed.j2 k x0 (decide ((x0.size:Int) > 1)))) else (num_formed.j2 k x0 false)) else (none))
def num_formed.j2:Nat→ByteArray→Bool→Option (Bool)
 | 0,_,_=>none
 | k+1,x0,x30=>if x30=true then (some false) else (num_formed.l0 k x0 (x0.size:Int) 0)
def num_formed.l0:Nat→ByteArray→Int→Int→Option (Bool)
 | 0,_,_,_=>none
 | k+1,x0,x32,x33=>if x33 < x32 then (if 0≤x33 then (if x33 < (x0.size:Int) then (if (bt x0 x33) < 48 then (some false) else (if (bt x0 x33) > 57 then (some false) else (num_formed.l0 k x0 x32 (wrap64 (x33+1))))) else (none)) else (none)) else (some true)
end
def num_formed.f (k:Nat) (a0:ByteArray):Option (Bool):=if (a0.size:Int) > 0 then (if 0 < (a0.size:Int) then (num_formed.j0 k a0 ((bt a0 0) == 45)) else (none)) else (num_formed.j0 k a0 false)
end Go.Proofs.YtmlcdpfcafmmcaaDoor.A
namespace Go.Proofs.YtmlcdpfcafmmcaaDoor.A
open Go.RowKit B WW WL WM
attribute [local go_sem] max2_int min2_int max_two min_two max_three min_three max_four min_four
def errW:Option Int→Value
  | none=>.nilIface
  | some c=>.iface 0 (.int .i64 c)
theorem errW_none:errW none=.nilIface:=rfl
theorem errW_some (c:Int):errW (some c)=.iface 0 (.int .i64 c):=rfl
theorem info5:(Tryd.prog.info? 5).map (fun i=>(i.zero,i.size,i.bytes))=some (some (.int .u8 0),1,1):=by kernel_rfl
structure S77 where
  f0:ByteArray
  f1:Int
def z77:S77:=⟨(⟨#[]⟩:ByteArray),(0:Int)⟩
def rd_T77 (xs:List S77) (i:Int):S77:=xs.getD i.toNat z77
end Go.Proofs.YtmlcdpfcafmmcaaDoor.A
namespace Go.Proofs.YtmlcdpfcafmmcaaDoor.A
open Go.RowKit B WW WL WM
theorem zq2 {P:Prop} (h:P:=by repeat (first | exact Drawn0.refl _ | apply Drawn0.step)):P:=h
theorem zq10 {P:Prop} (h:P:=by first | rfl | (simp [errW_none,errW_some] <;> rfl) | (simp [*,errW_none,errW_some] <;> rfl)):P:=h
theorem zq115 {P:Prop} (h:P:=by (with_reducible repeat (first | refine blk_drewN ?_ _ | refine blk_drew ?_ | refine blk_alloc ?_ _));refine blk_put (cs:=#[.string ((rd_T77 l0 x10_1).f0),.int .i64 0]) ?_ 1 _ rfl;(with_reducible repeat (first | refine blk_drewN ?_ _ | refine blk_drew ?_ | refine blk_alloc ?_ _));refine blk_put (cs:=#[.string (⟨#[]⟩:ByteArray),.int .i64 0]) ?_ 0 _ rfl;(with_reducible repeat (first | refine blk_drewN ?_ _ | refine blk_drew ?_ | refine blk_alloc ?_ _));exact BK132.out):P:=h
end Go.Proofs.YtmlcdpfcafmmcaaDoor.A
namespace Go.Proofs.YtmlcdpfcafmmcaaDoor.WL
section
variable {P:Program} {ops:Array Oper} {Q:Exit→Act→World→Prop} {md:Region.Mode} {S:World→Prop} {ds:List Nat}
theorem i64_w (n:Int):IntKind.i64.wrap n=Go.RowKit.wrap64 n:=by unfold Go.RowKit.wrap64;exact IntKind.wrap_i64 n
theorem i32_w (n:Int):IntKind.i32.wrap n=Go.RowKit.wrap32 n:=by unfold Go.RowKit.wrap32;exact IntKind.wrap_i32 n
end
end Go.Proofs.YtmlcdpfcafmmcaaDoor.WL
namespace Go.Proofs.YtmlcdpfcafmmcaaDoor.WW
open Go.RowKit
section
variable {α:Type} {enc:α→Value} {d:α}
theorem ReadsOf.below {w w1:World} {A:Option Addr} {n:Nat} {xs:List α} (h:ReadsOf enc d w A n xs) (hb:Below w.heap.size w w1):ReadsOf enc d w1 A n xs :=
  ⟨h.1,h.2.1,fun hn=>by
    obtain ⟨ad,e,hc⟩:=h.2.2 hn;exact ⟨ad,e,fun j hj=>pw_cell_below hb (hc j hj)⟩⟩
end
end Go.Proofs.YtmlcdpfcafmmcaaDoor.WW
namespace Go.Proofs.YtmlcdpfcafmmcaaDoor.WW
open Go.RowKit
section
variable {α:Type} {R R':α→List Value→Prop} {e:TypeId} {size:Nat} {w w1:World} {base:Nat} {v:Value} {ps:List α}
theorem OwnRow.below (h:OwnRow R e size w base v ps) (hb:Below w.heap.size w w1):OwnRow R e size w1 base v ps:=by
  obtain ⟨inner,ho,hr⟩:=h;exact ⟨inner,pw_own_below ho hb,hr⟩
end
end Go.Proofs.YtmlcdpfcafmmcaaDoor.WW
namespace Go.Proofs.YtmlcdpfcafmmcaaDoor.WW
open Go.RowKit
section
variable {w W W2:World} {S S2 S':Nat→Prop}
theorem Kept.below (h:Kept w W S) (hb:Below W.heap.size W W2):Kept w W2 S:=h.then_ (Kept.of_below hb (fun _=>False)) (fun _ hk=>hk.elim)
theorem Kept.alloc (h:Kept w W S) (o:Obj):Kept w (W.alloc o) S:=h.below (below_alloc (Below.refl _ _) o)
theorem Kept.drewN (h:Kept w W S) (m:Nat):Kept w (W.drewN m) S:=h
end
end Go.Proofs.YtmlcdpfcafmmcaaDoor.WW
namespace Go.Proofs.YtmlcdpfcafmmcaaDoor.WW
open Go.RowKit
section
variable {P:Program} {ops:Array Oper} {rest:List Oper} {o:Oper} {a:Act} {Q:Exit→Act→World→Prop}
theorem box_event {W:World} (hgd:o.guard=none) {N:Tmp} (_hd:o.dst=some N) {cs:Array Value} {t:TypeId}
    (hrun:(execOp a.eval o).run P W=.ok (.value (.pointer (some ⟨W.heap.size,0,none⟩))) (W.alloc (.cells cs t (0,0))))
    (h:∀ g,g=W.heap.size→∀ w1,w1.heap[g]?=some (.cells cs t (0,0))→Below W.heap.size W w1→wpList P ops Q rest (a.put o.dst (.pointer (some ⟨g,0,none⟩))) w1):wpList P ops Q (o :: rest) a W :=
  Kd.event_run hgd hrun (h _ rfl _ (blk_new W _) (below_alloc (Below.refl _ _) _))
end
end Go.Proofs.YtmlcdpfcafmmcaaDoor.WW
namespace Go.Proofs.YtmlcdpfcafmmcaaDoor.WW
open Go.RowKit
namespace Kd
theorem R_appended {α:Type} {d:Kd α} {e base:Nat} {ok okp:Nat→Prop} {W w1:World} {v v1:Value} {xs:List α} {p:α} {inner cs:List Value} (h0:∀ k,v.ownBlock=some k→ok k) (hr:Reps (d.M W base (fun k=>ok k∧some k≠v.ownBlock)) d.sz xs inner) (hp:d.M W base okp p cs) (hokp:∀ k,okp k→ok k∧some k≠v.ownBlock) (hfresh:∀ k,W.heap.size≤k→ok k)
    (hown:w1.ownsRow base e d.sz v1 (xs.length+1) (inner++cs)) (hg:W.grownBy w1 v.ownBlock) (hat:v1.ownBlock=v.ownBlock∨∃ b,v1.ownBlock=some b∧W.heap.size≤b):d.R e w1 base ok v1 (xs++[p]):=by
  have hne:∀ k,some k≠v.ownBlock→k < W.heap.size→some k≠v1.ownBlock:=by
    intro k hk hlt;rcases hat with hat | ⟨b,hb,hle⟩
    · rw [hat];exact hk
    · rw [hb]
      intro he;injection he with he
      omega
  have step:∀ {q:α} {c:List Value} {o:Nat→Prop},d.M W base o q c→(∀ k,o k→ok k∧some k≠v.ownBlock)→d.M w1 base (fun k=>ok k∧some k≠v1.ownBlock) q c:=by
    intro q c o hq ho;have h1:=d.M_move (w1:=w1) (fun k hk=>hg.block k hk.2.2.1 (ho k hk.1).2) (d.M_bound hq);exact d.M_mono (fun k hk=>⟨(ho k hk.1).1,hne k (ho k hk.1).2 hk.2.2.1⟩) h1
  refine ⟨fun k hk=>?_,inner++cs,by rw [List.length_append,List.length_singleton];exact hown,?_⟩
  · rcases hat with hat | ⟨b,hb,hle⟩
    · exact h0 k (hat ▸ hk)
    · rw [hb] at hk
      injection hk with hk
      exact hfresh k (by omega)
  · exact (hr.imp_ (fun _ _ hq=>step hq (fun _ hk=>hk))).snoc (step hp hokp) (d.K_len (d.K_of_M hp))
end Kd
end Go.Proofs.YtmlcdpfcafmmcaaDoor.WW
namespace Go.Proofs.YtmlcdpfcafmmcaaDoor.WW
open Go.RowKit
namespace Kd
section
variable {P:Program} {ops:Array Oper} {rest:List Oper} {o:Oper} {a:Act} {Q:Exit→Act→World→Prop} {α:Type}
theorem R_append (d:Kd α) {w0 W:World} (base:Nat) (hgd:o.guard=none) (s x:Operand) (t e:TypeId) (z:Value) (bytes:Nat)
    (ho:o.op=.call { callee:=.builtin .append,args:=#[s,x],argTypes:=#[t,t] })
    (ht:P.underlying t=some (.slice e)) (hinfo:(P.info? e).map (fun i=>(i.zero,i.size,i.bytes))=some (some z,d.sz,bytes)) (hz:z.cells.size=d.sz) (hs0:0 < d.sz) (hb0:0 < bytes)
    (v:Value) (xs:List α) (p:α) (cs:List Value) (ok okp:Nat→Prop) (hs:a.eval s=v) (hx:a.eval x=.slice (some ⟨W.heap.size,0,none⟩) 1 1) (hp:d.M W base okp p cs) (hokp:∀ k,okp k→ok k∧some k≠v.ownBlock) (hfresh:∀ k,W.heap.size≤k→ok k)
    (HO:d.R e W base ok v xs) (HB:Below base w0 W) (hbase:base≤W.heap.size) (hl:(xs.length+1) * bytes≤140737488355328)
    (h:∀ v1 w1,d.R e w1 base ok v1 (xs++[p])→Below base w0 w1→W.grownBy w1 v.ownBlock→(v1.ownBlock=v.ownBlock∨∃ b,v1.ownBlock=some b∧W.heap.size≤b)→wpList P ops Q rest (a.put o.dst v1) w1) :
    wpList P ops Q (o :: rest) a (W.alloc (.cells cs.toArray e)):=by
  obtain ⟨h0,inner,hown,hr⟩:=HO;refine print_append_cells base hgd s x t e z d.sz bytes ho ht hinfo hz hs0 hb0 v xs.length inner cs hs hx (d.K_len (d.K_of_M hp)) (d.K_one (d.K_of_M hp)) hown HB hbase hl ?_;intro v1 w1 hown1 hb1 hg1 hat1;exact h v1 w1 (R_appended h0 hr hp hokp hfresh hown1 hg1 hat1) hb1 hg1 hat1
end
end Kd
end Go.Proofs.YtmlcdpfcafmmcaaDoor.WW
namespace Go.Proofs.YtmlcdpfcafmmcaaDoor.B
open Go.RowKit WW WL WM
theorem bdI {α β:Type} {x:Option α} {f:α→Option β} {r:β} (h:x.bind f=some r):∃ a,Aside0 (x=some a)∧f a=some r:=by
  obtain ⟨a,h1,h2⟩:=Option.bind_eq_some_iff.mp h;exact ⟨a,⟨h1⟩,h2⟩
end Go.Proofs.YtmlcdpfcafmmcaaDoor.B
namespace Go.Proofs.YtmlcdpfcafmmcaaDoor.WW
open Go.RowKit
namespace Kd
section
variable {α β:Type} {d:Kd α} {e base base' n m c g N' lo hi:Nat} {ok ok' S:Nat→Prop} {w W w1:World} {A:Option Addr} {ad:Addr} {u v v1:Value} {xs:List α}
theorem V_nil (d:Kd α) (e:Nat) (W:World) (base:Nat) (ok:Nat→Prop):V d e W base ok (.slice none 0 0) []:=⟨none,0,rfl,Nat.le_refl _,F_nil d W ok⟩
end
end Kd
end Go.Proofs.YtmlcdpfcafmmcaaDoor.WW
namespace Go.Proofs.YtmlcdpfcafmmcaaDoor.WW
open Go.RowKit
namespace Kd
section
variable {α:Type} {d:Kd α} {e base n cc g:Nat} {ok ok' okp S:Nat→Prop} {w w1 W W1:World} {A:Option Addr} {u v v1:Value} {xs:List α} {x:α} {c:List Value}
def N {α:Type} (d:Kd α) (e:Nat) (w:World) (base:Nat) (ok:Nat→Prop) (v:Value) (xs:List α):Prop :=
  (∀ k,v.ownBlock=some k→ok k)∧∃ rows:List (List Value),rows.length=xs.length∧(raw d.sz).R e w base (fun k=>some k=v.ownBlock) v rows∧∀ (j:Nat) (x:α) (c:List Value),xs[j]?=some x→rows[j]?=some c→FK d w (fun k=>ok k∧some k≠v.ownBlock) x c
theorem R_N (h:d.R e w base ok v xs):N d e w base ok v xs:=by
  obtain ⟨h0,inner,ho,hr⟩:=h;refine ⟨h0,chunks d.sz xs.length inner,chunks_length _ _ _,⟨fun k hk=>hk.symm,inner,by rw [chunks_length];exact ho,reps_raw hr (fun x c hp=>⟨d.K_len (d.K_of_M hp),d.K_one (d.K_of_M hp)⟩)⟩,fun j x c hx hc=>?_⟩;rw [chunks_get hc];exact FK_of_M (hr.2 j x hx)
end
end Kd
end Go.Proofs.YtmlcdpfcafmmcaaDoor.WW
namespace Go.Proofs.YtmlcdpfcafmmcaaDoor.B
open Go.RowKit WW WL WM
section
variable {P:Program} {ops:Array Oper} {rest:List Oper} {o:Oper} {Q:Exit→Act→World→Prop} {a:Act} {w V W w1:World} {g g':Nat}
theorem bxA (N:Tmp) (cs:Array Value) (t:TypeId)
    (h:∀ g,g=W.heap.size→∀ w1,w1.heap[g]?=some (.cells cs t (0,0))→Below W.heap.size W w1→wpList P ops Q rest (a.put o.dst (.pointer (some ⟨g,0,none⟩))) w1)
    (hgd:o.guard=none:=by rfl) (hd:o.dst=some N:=by rfl) (hrun:(execOp a.eval o).run P W=.ok (.value (.pointer (some ⟨W.heap.size,0,none⟩))) (W.alloc (.cells cs t (0,0))):=by first | (go_simp;done) | (go_simp;rfl)):wpList P ops Q (o :: rest) a W :=
  box_event hgd hd hrun h
theorem gL (N:Tmp) {f:FuncId} {fn:Func} (hf:P.funcs[f]?=some fn) (args:Array Value) {as_:Array Operand} {ts:Array TypeId}
    (h:Calls P f args w fun e w'=>∃ v,e=.returned v∧wpList P ops Q rest (a.put (some N) v) w')
    (hd : o.dst = some N := by rfl) (hg : o.guard = none := by rfl) (hname : (fn.name == "runtime.NumGoroutine") = false := by kernel_rfl) (hb : fn.body.isSome = true := by rfl)
    (hop:o.op=.call { callee:=.value (.func f),args:=as_,argTypes:=ts }:=by rfl)
    (hargs:as_.map a.eval=args:=by (try simp only [List.map_toArray,List.map_cons,List.map_nil]);first | done | rfl | (simp only [List.length_drop,List.length_take];rfl)):wpList P ops Q (o :: rest) a w :=
  goesL_ (some N) hd hg hf hname hb args hop hargs h
end
end Go.Proofs.YtmlcdpfcafmmcaaDoor.B
namespace Go.Proofs.YtmlcdpfcafmmcaaDoor.WW
open Go.RowKit
theorem drewN_self (w:World) (n:Nat):w.drewN n=w.drewN n:=rfl
end Go.Proofs.YtmlcdpfcafmmcaaDoor.WW
namespace Go.Proofs.YtmlcdpfcafmmcaaDoor.B
open Go.RowKit
structure WordW (W:World) (g:Nat) (kind:Int) (S:ByteArray) (i pa pe:Int):Prop where
  k0:W.cell? ⟨g,0,none⟩=some (.int .i64 kind)
  k1:W.cell? ⟨g,1,none⟩=some (.string S)
  k2:W.cell? ⟨g,2,none⟩=some (.int .i64 i)
  k3:W.cell? ⟨g+1,0,none⟩=some (.int .i64 pa)
  k4:W.cell? ⟨g+1,1,none⟩=some (.int .i64 pe)
  f0:W.frozen? ⟨g,0,none⟩=false
  f1:W.frozen? ⟨g,1,none⟩=false
  f2:W.frozen? ⟨g,2,none⟩=false
  f3:W.frozen? ⟨g+1,0,none⟩=false
  f4:W.frozen? ⟨g+1,1,none⟩=false
theorem WordW.s {W:World} {g:Nat} {kind:Int} {S:ByteArray} {i pa pe:Int} (h:WordW W g kind S i pa pe) (S':ByteArray):WordW (W.setCell ⟨g,1,none⟩ (.string S')) g kind S' i pa pe :=
  ⟨has_other (by simp) h.k0,has_same ⟨_,h.k1⟩,has_other (by simp) h.k2,has_other (by simp) h.k3,has_other (by simp) h.k4,by rw [World.frozen?_setCell];exact h.f0,by rw [World.frozen?_setCell];exact h.f1,by rw [World.frozen?_setCell];exact h.f2,by rw [World.frozen?_setCell];exact h.f3,by rw [World.frozen?_setCell];exact h.f4⟩
theorem WordW.e {W:World} {g:Nat} {kind:Int} {S:ByteArray} {i pa pe:Int} (h:WordW W g kind S i pa pe) (x:Int):WordW (W.setCell ⟨g+1,1,none⟩ (.int .i64 x)) g kind S i pa x :=
  ⟨has_other (by simp) h.k0,has_other (by simp) h.k1,has_other (by simp) h.k2,has_other (by simp) h.k3,has_same ⟨_,h.k4⟩,by rw [World.frozen?_setCell];exact h.f0,by rw [World.frozen?_setCell];exact h.f1,by rw [World.frozen?_setCell];exact h.f2,by rw [World.frozen?_setCell];exact h.f3,by rw [World.frozen?_setCell];exact h.f4⟩
end Go.Proofs.YtmlcdpfcafmmcaaDoor.B
namespace Go.Proofs.YtmlcdpfcafmmcaaDoor.A
open Go.RowKit B WW WL WM
attribute [local go_sem] max2_int min2_int max_two min_two max_three min_three max_four min_four
set_option maxHeartbeats 8000000
set_option maxRecDepth 100000
theorem words_printable.calls (a0:Int) (r:Bool) (w:World) (h:words_printable.f a0=some r) :
  Calls Tryd.prog 79 #[.int .u8 a0] w fun e w'=>e=.returned (.bool r)∧Drawn0 w w':=by
 have H:=h;clear h;unfold words_printable.f at H;replace H:=ifI H;rcases H with ⟨c2,H⟩ | ⟨c2,H⟩
 ·have c2b0:decide (32≤a0)=true:=decide_eq_true c2;clear c2;obtain rfl:=Option.some.inj H;go_enter Tryd.func79,Tryd.ntmps79
  go_wp2
  go_ret
  exact ⟨zq1,zq2⟩
 have c2b0:decide (32≤a0)=false:=decide_eq_false c2;clear c2;obtain rfl:=Option.some.inj H;go_enter Tryd.func79,Tryd.ntmps79
 go_wp2
 go_ret
 exact ⟨zq1,zq2⟩
theorem every_print (hF:∀ (c:UInt8) (w:World),Calls Tryd.prog 79 #[.int .u8 (c.toNat:Int)] w fun e w'=>e=.returned (.bool (isPrn c))∧Drawn0 w w') (s:ByteArray) (hs:s.size≤140737488351232) (w:World) :
  Calls Tryd.prog 50 #[.string s,.func (.func 79) #[] #[]] w fun e w'=>e=.returned (.bool (s.data.toList.all isPrn))∧Drawn0 w w':=by
 have HSZ:=sd (size_eq' s);have HF:=sd hF;clear hF;generalize hP:(fun e w'=>e=Ending.returned (.bool (s.data.toList.all isPrn))∧Drawn0 w w')=Post;have HP:=sd hP;clear hP;go_enter Tryd.func50,Tryd.ntmps50
 go_wp2_with fail
 go_loopw [8] (fun n_ wr=>∃ (i:Nat),i≤s.size∧n_=.int .i64 (i:Int)∧Aside0 (∀ j,(h:j < i)→(h':j < s.size)→isPrn s[j]=true)∧Drawn0 w wr) (fun n_ _=>(s.size - (RowKit.intOf n_).toNat))
 case atStart=>exact ⟨0,by omega,rfl,⟨fun j h=>by omega⟩,Drawn0.refl _⟩
 case round =>
  obtain ⟨i,hi,rfl,HU,HDr⟩:=hrel;rename World=>wr
  by_cases hlt:i < s.size
  ·have hlt':(i:Int) < (s.size:Int):=by omega
   go_wp2_with fail
   have HC:=HF.out s[i] wr
   cases hp:isPrn s[i]
   ·rw [hp] at HC;have HB:=sd (show s.data.toList.all isPrn=false from all_bad (by rw [← HSZ.out];exact hlt) (by rw [list_at s i hlt];exact hp));refine HC.mono ?_;rintro e w1 ⟨rfl,hd1⟩;obtain ⟨⟨n1,rfl⟩⟩:=hd1;clear HC;go_wp2_with fail
    rw [← HP.out];exact ⟨by rw [HB.out];(try rfl),HDr.step _⟩
   ·rw [hp] at HC
    have HU2:=sd (show ∀ j,(h:j < i+1)→(h':j < s.size)→isPrn s[j]=true from fun j h h'=>by
     rcases Nat.lt_or_ge j i with h1 | h1
     ·exact HU.out j h1 h'
     ·obtain rfl:j=i:=by omega
      exact hp)
    refine HC.mono ?_;rintro e w1 ⟨rfl,hd1⟩;obtain ⟨⟨n1,rfl⟩⟩:=hd1;clear HC HU;go_wp2_with fail
    go_roundw
    case rel=>exact ⟨i+1,by omega,by go_num,HU2,HDr.step _⟩
    case measure=>simp [RowKit.intOf];omega
  have hlt':¬ (i:Int) < (s.size:Int):=by omega
  obtain rfl:i=s.size:=by omega
  have hall:s.data.toList.all isPrn=true:=by
   rw [List.all_eq_true];intro x hx;obtain ⟨j,hj,rfl⟩:=List.getElem_of_mem hx;have hj2:j < s.size:=by rw [HSZ.out];exact hj
   rw [list_at s j hj2];exact HU.out j hj2 hj2
  have HL:=sd hall;clear hall;go_wp2_with fail
  rw [← HP.out];exact ⟨by rw [HL.out];(try rfl),HDr⟩
theorem plain_w (s:ByteArray) (hs:s.size≤140737488351232) (w:World):Calls Tryd.prog 55 #[.string s] w fun e w'=>e=.returned (.bool (plainW s.data.toList))∧Drawn0 w w':=by
 have HE:=sd (fun w=>every_print (fun c w=>words_printable.calls _ (isPrn c) w (print_wd c.toNat c.toNat_lt)) s hs w);have hsz:=size_eq' s;generalize hP:(fun e w'=>e=Ending.returned (.bool (plainW s.data.toList))∧Drawn0 w w')=Post;have HP:=sd hP;clear hP;by_cases h1:s.size≤60
 ·have h1':(s.size:Int)≤60:=by omega
  have hB:plainW s.data.toList=s.data.toList.all isPrn:=by unfold plainW;rw [decide_eq_true (by omega),Bool.true_and]
  have HB:=sd hB;clear hB hsz;generalize s.data.toList.all isPrn=ab at HE HB;go_enter Tryd.func55,Tryd.ntmps55
  go_wp2_with fail
  refine (HE.out _).mono ?_;rintro e w1 ⟨rfl,hd1⟩;obtain ⟨⟨n1,rfl⟩⟩:=hd1;go_wp2_with fail
  rw [← HP.out];exact ⟨by rw [HB.out];(try rfl),⟨⟨_,rfl⟩⟩⟩
 have h1':¬ (s.size:Int)≤60:=by omega
 have hB:plainW s.data.toList=false:=by unfold plainW;rw [decide_eq_false (by omega),Bool.false_and]
 have HB:=sd hB;clear hB hsz;go_enter Tryd.func55,Tryd.ntmps55
 go_wp2_with fail
 rw [← HP.out];exact ⟨by rw [HB.out];(try rfl),Drawn0.refl _⟩
theorem stmt_within.calls (a0 a1:Int) (r:Bool) (w:World) (h:stmt_within.f a0 a1=some r) :
  Calls Tryd.prog 24 #[.int .i64 a0,.int .i64 a1] w fun e w'=>e=.returned (.bool r)∧Drawn0 w w':=by
 have H:=h;clear h;unfold stmt_within.f at H;replace H:=ifI H;rcases H with ⟨c3,H⟩ | ⟨c3,H⟩
 ·have c3b0:decide ((wrap64 (-a1))≤a0)=true:=decide_eq_true c3;clear c3;obtain rfl:=Option.some.inj H;go_enter Tryd.func24,Tryd.ntmps24
  go_wp2
  go_ret
  exact ⟨zq1,zq2⟩
 have c3b0:decide ((wrap64 (-a1))≤a0)=false:=decide_eq_false c3;clear c3;obtain rfl:=Option.some.inj H;go_enter Tryd.func24,Tryd.ntmps24
 go_wp2
 go_ret
 exact ⟨zq1,zq2⟩
theorem days_is.calls (a0:Int) (r:Bool) (w:World) (h:days_is.f a0=some r) :
  Calls Tryd.prog 76 #[.int .i64 a0] w fun e w'=>e=.returned (.bool r)∧Drawn0 w w':=by
 have H:=h;clear h;unfold days_is.f at H;replace H:=ifI H;rcases H with ⟨c2,H⟩ | ⟨c2,H⟩
 ·have c2b0:decide (0≤a0)=true:=decide_eq_true c2;clear c2;obtain rfl:=Option.some.inj H;go_enter Tryd.func76,Tryd.ntmps76
  go_wp2
  go_ret
  exact ⟨zq1,zq2⟩
 have c2b0:decide (0≤a0)=false:=decide_eq_false c2;clear c2;obtain rfl:=Option.some.inj H;go_enter Tryd.func76,Tryd.ntmps76
 go_wp2
 go_ret
 exact ⟨zq1,zq2⟩
theorem days_before.calls (a0 r:Int) (w:World) (h:days_before.f a0=some r) :
  Calls Tryd.prog 77 #[.int .i64 a0] w fun e w'=>e=.returned (.int .i64 r)∧Drawn0 w w':=by
 have H:=h;clear h;unfold days_before.f at H;obtain rfl:=Option.some.inj H;go_enter Tryd.func77,Tryd.ntmps77
 go_wp2
 go_ret
 exact ⟨zq1,zq2⟩
theorem days_Leap.calls (a0:Int) (r:Bool) (w:World) (h:days_Leap.f a0=some r) :
  Calls Tryd.prog 99 #[.int .i64 a0] w fun e w'=>e=.returned (.bool r)∧Drawn0 w w':=by
 have H:=h;clear h;unfold days_Leap.f at H;replace H:=ifI H;rcases H with ⟨c2,H⟩ | ⟨c2,H⟩
 ·obtain ⟨c2b0,c2b1⟩:=eqI c2;clear c2;replace H:=ifI H;rcases H with ⟨c3,H⟩ | ⟨c3,H⟩
  ·obtain ⟨c3b0,c3b1⟩:=eqI c3;clear c3;obtain rfl:=Option.some.inj H;go_enter Tryd.func99,Tryd.ntmps99
   go_wp2
   go_ret
   exact ⟨zq1,zq2⟩
  obtain ⟨c3b0,c3b1⟩:=neI c3;obtain rfl:=Option.some.inj H;go_enter Tryd.func99,Tryd.ntmps99
  go_wp2
  go_ret
  exact ⟨zq1,zq2⟩
 obtain ⟨c2b0,c2b1⟩:=neI c2;obtain rfl:=Option.some.inj H;go_enter Tryd.func99,Tryd.ntmps99
 go_wp2
 go_ret
 exact ⟨zq1,zq2⟩
theorem words_Plain.calls (a0:ByteArray) (r:Bool) (w:World) (h:words_Plain.f a0=some r) :
  Calls Tryd.prog 55 #[.string a0] w fun e w'=>e=.returned (.bool r)∧Drawn0 w w':=by
 unfold words_Plain.f at h;split at h
 ·rename_i hs
  obtain rfl:=Option.some.inj h;exact plain_w a0 hs w
 ·cases h
theorem money_fits.calls (a0:Int) (r:Bool) (w:World) (h:money_fits.f a0=some r) :
  Calls Tryd.prog 59 #[.int .i64 a0] w fun e w'=>e=.returned (.bool r)∧Drawn0 w w':=by
 have H:=h;clear h;unfold money_fits.f at H;replace H:=ifI H;rcases H with ⟨c2,H⟩ | ⟨c2,H⟩
 ·have c2b0:decide (0≤a0)=true:=decide_eq_true c2;clear c2;obtain rfl:=Option.some.inj H;go_enter Tryd.func59,Tryd.ntmps59
  go_wp2
  go_ret
  exact ⟨zq1,zq2⟩
 have c2b0:decide (0≤a0)=false:=decide_eq_false c2;clear c2;obtain rfl:=Option.some.inj H;go_enter Tryd.func59,Tryd.ntmps59
 go_wp2
 go_ret
 exact ⟨zq1,zq2⟩
def money_Right.l0:Nat→List (S77)→List (S77)→Int→Int→Option (Bool)
 | 0,_,_,_,_=>none
 | k+1,x0,x8,x9,x10=>if x10 < x9 then (if 0≤x10 then (if x10 < (x8.length:Int) then ((money_Code.f ((rd_T77 x8 x10).f0)).bind fun t133=>(if t133=true then ((money_fits.f ((rd_T77 x8 x10).f1)).bind fun t134=>(if t134=true then (if x10 > 0 then (if 0≤(wrap64 (x10 - 1)) then (if (wrap64 (x10 - 1)) < (x0.length:Int) then (if ((Op.bytesLess (((rd_T77 x0 (wrap64 (x10 - 1))).f0).toList) (((rd_T77 x8 x10).f0).toList))=true) then (money_Right.l0 k x0 x8 x9 (wrap64 (x10+1))) else (some false)) else (none)) else (none)) else (money_Right.l0 k x0 x8 x9 (wrap64 (x10+1)))) else (some false))) else (some false))) else (none)) else (none)) else (some true)
def money_Right.f (k:Nat) (l0:List (S77)):Option (Bool):=if (l0.length:Int) > 40 then (some false) else (money_Right.l0 k l0 l0 (l0.length:Int) 0)
end Go.Proofs.YtmlcdpfcafmmcaaDoor.A
namespace Go.Proofs.YtmlcdpfcafmmcaaDoor.B
open Go.Lib Go.RowKit WW
def TabAt (g:Nat) (l:List Int) (w:World):Prop:=g < w.heap.size∧∀ i (h:i < l.length),w.cell? ⟨g,i,none⟩=some (.int .i64 l[i])
theorem TabAt.below {g:Nat} {l:List Int} {w w':World} (h:TabAt g l w) (hb:Below w.heap.size w w'):TabAt g l w':=by
  refine ⟨Nat.lt_of_lt_of_le h.1 hb.size,fun i hi=>?_⟩;rw [← h.2 i hi];exact hb.cell (p:=⟨g,i,none⟩) h.1
def Gl (w:World):Prop:=TabAt 1 monthLens w∧TabAt 0 [1,10,100,1000,10000] w
theorem gl_below {w w':World} (h:Gl w) (hb:Below w.heap.size w w'):Gl w':=⟨TabAt.below h.1 hb,TabAt.below h.2 hb⟩
theorem Gl.mon {w:World} (h:Gl w) (k:Nat) (hk:k < 12):w.cell? ⟨1,k,none⟩=some (.int .i64 (monLen k)):=by
  rw [h.1.2 k hk];unfold monLen;rw [List.getD_eq_getElem?_getD,List.getElem?_eq_getElem (show k < monthLens.length from hk)];rfl
end Go.Proofs.YtmlcdpfcafmmcaaDoor.B
namespace Go.Proofs.YtmlcdpfcafmmcaaDoor.A
open Go.RowKit B WW WL WM
attribute [local go_sem] max2_int min2_int max_two min_two max_three min_three max_four min_four
set_option maxHeartbeats 8000000
set_option maxRecDepth 100000
theorem days_Length.calls (a0 a1 r:Int) (w:World) (h:days_Length.f a0 a1=some r) (hG:Gl w) :
  Calls Tryd.prog 78 #[.int .i64 a0,.int .i64 a1] w fun e w'=>e=.returned (.int .i64 r)∧Drawn0 w w':=by
 have HPost:∀ W,Drawn0 w W→(fun (e:Ending) (w':World)=>e=.returned (.int .i64 r)∧Drawn0 w w') (.returned (.int .i64 r)) W:=fun W hW=>⟨rfl,hW⟩
 generalize (fun (e:Ending) (w':World)=>e=.returned (.int .i64 r)∧Drawn0 w w')=Post at HPost ⊢;have HP:=sd HPost;have HG:=sd hG;clear HPost hG;unfold days_Length.f at h;by_cases h1:a1 < 1
 ·rw [if_pos (.inl h1)] at h;obtain rfl:=Option.some.inj h;go_enter Tryd.func78,Tryd.ntmps78
  go_wp2_with fail
  (try go_ret)
  exact HP.out _ (Drawn0.refl _)
 by_cases h2:12 < a1
 ·rw [if_pos (.inr h2)] at h;obtain rfl:=Option.some.inj h;go_enter Tryd.func78,Tryd.ntmps78
  go_wp2_with fail
  (try go_ret)
  exact HP.out _ (Drawn0.refl _)
 rw [if_neg (by omega)] at h;have h1b:decide (a1 < 1)=false:=decide_eq_false h1;have h2b:decide (12 < a1)=false:=decide_eq_false h2;by_cases h3:a1=2
 ·subst h3;rw [if_pos rfl] at h;replace h:=Option.bind_eq_some_iff.mp h;obtain ⟨b,hb,h⟩:=h;have HL:=sd (fun W=>days_Leap.calls a0 b W hb);clear hb h1 h2 h1b h2b
  cases b
  ·rw [if_neg (by decide)] at h;obtain rfl:=Option.some.inj h;have hc:=HG.out.mon 1 (by decide);rw [show monLen 1=28 from rfl] at hc;go_enter Tryd.func78,Tryd.ntmps78
   go_wp2_with (first | (go_at_call 99;(with_reducible refine (HL.out _).mono ?_);rintro e w' ⟨rfl,nd,rfl⟩))
   (try go_ret)
   exact HP.out _ zq2
  ·rw [if_pos rfl] at h;obtain rfl:=Option.some.inj h;go_enter Tryd.func78,Tryd.ntmps78
   go_wp2_with (first | (go_at_call 99;(with_reducible refine (HL.out _).mono ?_);rintro e w' ⟨rfl,nd,rfl⟩))
   (try go_ret)
   exact HP.out _ zq2
 rw [if_neg h3] at h;have h3b:(a1 == 2)=false:=beq_eq_false_iff_ne.mpr h3;obtain ⟨k,rfl⟩:∃ k:Nat,a1=(k:Int)+1:=⟨(a1 - 1).toNat,by omega⟩
 rw [show ((k:Int)+1 - 1).toNat=k by omega] at h;obtain rfl:=Option.some.inj h;have hk:k < 12:=by omega
 have hc:=HG.out.mon k hk;have e1:(k:Int)+1 - 1=(k:Int):=by omega
 have i0:(0:Int)≤(k:Int):=by omega
 have i1:(k:Int) < 12:=by omega
 clear h1 h2 h3 HG;go_enter Tryd.func78,Tryd.ntmps78
 go_wp2_with fail
 (try go_ret)
 exact HP.out _ (Drawn0.refl _)
theorem days_Date.calls (k:Nat) (a0 r1 r2 r3 r4:Int) (w:World) (h:days_Date.f k a0=some (r1,r2,r3,r4)) (hG:Gl w) :
  Calls Tryd.prog 54 #[.int .i64 a0] w fun e w'=>e=.returned (.tuple #[.agg #[.int .i64 r1,.int .i64 r2,.int .i64 r3],.int .i64 r4])∧Below w.heap.size w w':=by
 have HG:=sd hG;clear hG;have hu81:=Tryd.underlying81;have HB:=sd (Below.refl w.heap.size w);have H:=h;clear h;unfold days_Date.f at H;replace H:=bdI H;obtain ⟨t105,A2,H⟩:=H;(try dsimp only at H)
 by_cases c3:t105=true
 ·subst c3;rw [if_pos rfl] at H;have HC4:=sd H;clear H;go_enter Tryd.func54,Tryd.ntmps54
  go_upto_block 0 with (first | ((with_reducible refine gate_dst (N:=2) rfl ?_);refine bxA 2 #[.int .i64 0,.int .i64 0,.int .i64 0] 81 ?_;intro gb104 hg w5 hbox hb;have BK104:=sd (hbox);have GW104:=gem hg HB;have GE104:=GW104;replace HB:=hbm HB hb;clear hb hbox hg) | ((with_reducible refine gate_callee (f:=76) rfl ?_);refine gL 5 Tryd.func76 #[.int .i64 a0] ?_;(with_reducible refine (days_is.calls a0 true _ A2.out).mono ?_);rintro e w' ⟨rfl,⟨nd,rfl⟩⟩;refine ⟨_,rfl,?_⟩;(try (rw [drewN_self w5];generalize hq_:World.drewN w5 _=w5;have n0_:Aside0 (w5.heap[gb104]?=some (.cells #[.int .i64 0,.int .i64 0,.int .i64 0] 81 (0,0))):=⟨zq60⟩;have n1_:Aside0 (Below w.heap.size w w5):=⟨zq61⟩;clear BK104 HB hq_;have BK104:=n0_;have HB:=n1_;clear n0_ n1_;(try (have hdBK104_0:=(blk_cell BK104.out 0).trans rfl;have heBK104_0:=blk_frozen BK104.out 0;have hdBK104_1:=(blk_cell BK104.out 1).trans rfl;have heBK104_1:=blk_frozen BK104.out 1;have hdBK104_2:=(blk_cell BK104.out 2).trans rfl;have heBK104_2:=blk_frozen BK104.out 2))));obtain ⟨_,_,_,_,_,_⟩:=bk3 BK104))
  (try simp only [Act.put,List.setIfInBounds_toArray,List.set_cons_zero,List.set_cons_succ])
  go_cut [] (fun wc=>∃ (kq:Nat) (x105000_3:Int),Aside0 (days_Date.j1 kq a0 x105000_3 0 0=some (r1,r2,r3,r4))∧Aside0 (kq≤k)∧Aside0 (wc.heap[gb104]?=some (.cells #[.int .i64 x105000_3,.int .i64 0,.int .i64 0] 81 (0,0)))∧Aside0 (Below w.heap.size w wc))
  case first =>
   have H:=HC4.out;clear HC4;have H':=sd H;clear H;go_wp2
   go_loopg [] k (fun kq w'=>∃ (x105000_1:Int),Aside0 (days_Date.l0 kq a0 x105000_1 0 0=some (r1,r2,r3,r4))∧Aside0 (kq≤k)∧Aside0 (w'.heap[gb104]?=some (.cells #[.int .i64 x105000_1,.int .i64 0,.int .i64 0] 81 (0,0)))∧Aside0 (Below w.heap.size w w'))
   case atStart=>exact ⟨(wrap64 (1900+(wrap64 (Int.tdiv a0 366)))),H',⟨Nat.le_refl _⟩,⟨by (with_reducible repeat (first | refine blk_drewN ?_ _ | refine blk_drew ?_ | refine blk_alloc ?_ _));refine blk_put (cs:=#[.int .i64 0,.int .i64 0,.int .i64 0]) ?_ 0 _ rfl;(with_reducible repeat (first | refine blk_drewN ?_ _ | refine blk_drew ?_ | refine blk_alloc ?_ _));exact BK104.out⟩,⟨zq62⟩⟩
   case round =>
    clear H';try clear p2
    try clear c3
    try clear c5
    try clear p6
    try clear hcz6_0
    try clear hcz6_1
    try clear hcz6_2
    try clear hfz6_0
    try clear hfz6_1
    try clear hfz6_2
    obtain ⟨x105000_1,HA,HK1,BK104,HB⟩:=hrel
    cases gk with
    | zero=>exact absurd HA.out (by simp [days_Date.l0])
    | succ k1 =>
     have H:=HA.out;clear HA;simp only [days_Date.l0] at H
     replace H:=ifI H;rcases H with ⟨c7,H⟩ | ⟨c7,H⟩
     ·have c7b0:decide (x105000_1 < 2199)=true:=decide_eq_true c7;clear c7;(first | rw [c7b0] | (simp only [i64_w,i32_w];rw [c7b0]) | skip)
      replace H:=bdI H;obtain ⟨t106,A8,H⟩:=H;(try dsimp only at H)
      replace H:=ifI H;rcases H with ⟨c9,H⟩ | ⟨c9,H⟩
      ·have c9b0:decide (t106≤a0)=true:=decide_eq_true c9;clear c9;have H':=sd H;clear H;obtain ⟨_,_,_,_,_,_⟩:=bk3 BK104;go_wp2_with (first | (go_at_call 77;(with_reducible refine (days_before.calls (wrap64 (x105000_1+1)) t106 _ A8.out).mono ?_);rintro e w' ⟨rfl,⟨nd,rfl⟩⟩;(try (rw [drewN_self wr];generalize hq_:World.drewN wr _=wr;have n0_:Aside0 (wr.heap[gb104]?=some (.cells #[.int .i64 x105000_1,.int .i64 0,.int .i64 0] 81 (0,0))):=⟨zq60⟩;have n1_:Aside0 (Below w.heap.size w wr):=⟨zq61⟩;clear BK104 HB hq_;have BK104:=n0_;have HB:=n1_;clear n0_ n1_;(try (have hdBK104_0:=(blk_cell BK104.out 0).trans rfl;have heBK104_0:=blk_frozen BK104.out 0;have hdBK104_1:=(blk_cell BK104.out 1).trans rfl;have heBK104_1:=blk_frozen BK104.out 1;have hdBK104_2:=(blk_cell BK104.out 2).trans rfl;have heBK104_2:=blk_frozen BK104.out 2))))))
       go_roundg k1
       case measure=>have:=HK1.out;omega
       case rel=>exact ⟨(wrap64 (x105000_1+1)),H',⟨by have:=HK1.out;omega⟩,⟨by (with_reducible repeat (first | refine blk_drewN ?_ _ | refine blk_drew ?_ | refine blk_alloc ?_ _));refine blk_put (cs:=#[.int .i64 x105000_1,.int .i64 0,.int .i64 0]) ?_ 0 _ rfl;(with_reducible repeat (first | refine blk_drewN ?_ _ | refine blk_drew ?_ | refine blk_alloc ?_ _));exact BK104.out⟩,⟨zq62⟩⟩
      have c9b0:decide (t106≤a0)=false:=decide_eq_false c9;clear c9;have H':=sd H;clear H;obtain ⟨_,_,_,_,_,_⟩:=bk3 BK104;go_wp2_with (first | (go_at_call 77;(with_reducible refine (days_before.calls (wrap64 (x105000_1+1)) t106 _ A8.out).mono ?_);rintro e w' ⟨rfl,⟨nd,rfl⟩⟩))
      go_meet
      case rel=>exact ⟨_,(x105000_1),H',⟨zq43⟩,⟨zq63⟩,⟨zq62⟩⟩
     have c7b0:decide (x105000_1 < 2199)=false:=decide_eq_false c7;clear c7;(first | rw [c7b0] | (simp only [i64_w,i32_w];rw [c7b0]) | skip)
     have H':=sd H;clear H;obtain ⟨_,_,_,_,_,_⟩:=bk3 BK104;go_wp2
     go_meet
     case rel=>exact ⟨_,(x105000_1),H',⟨zq43⟩,⟨zq63⟩,⟨zq62⟩⟩
  case rest =>
   clear HC4;try clear p2
   try clear c3
   try clear c5
   try clear p6
   try clear c7
   try clear c7b0
   try clear c9
   try clear c9b0
   try clear hcz10_0
   try clear hcz10_1
   try clear hcz10_2
   try clear hcz11_0
   try clear hcz11_1
   try clear hcz11_2
   try clear hcz12_0
   try clear hcz12_1
   try clear hcz12_2
   try clear hcz6_0
   try clear hcz6_1
   try clear hcz6_2
   try clear hfz10_0
   try clear hfz10_1
   try clear hfz10_2
   try clear hfz11_0
   try clear hfz11_1
   try clear hfz11_2
   try clear hfz12_0
   try clear hfz12_1
   try clear hfz12_2
   try clear hfz6_0
   try clear hfz6_1
   try clear hfz6_2
   try clear p2
   try clear p6
   obtain ⟨kq,x105000_3,HA,HJ3,BK104,HB⟩:=hcut
   cases kq with
   | zero=>exact absurd HA.out (by simp [days_Date.j1])
   | succ kj3 =>
    have H:=HA.out;clear HA;simp only [days_Date.j1] at H
    replace H:=bdI H;obtain ⟨t107,A13,H⟩:=H;(try dsimp only at H)
    have H':=sd H;clear H;obtain ⟨_,_,_,_,_,_⟩:=bk3 BK104;go_wp2_with (first | ((with_reducible refine gate_callee (f:=77) rfl ?_);refine gL 30 Tryd.func77 #[.int .i64 x105000_3] ?_;(with_reducible refine (days_before.calls x105000_3 t107 _ A13.out).mono ?_);rintro e w' ⟨rfl,⟨nd,rfl⟩⟩;refine ⟨_,rfl,?_⟩;(try (rw [drewN_self wc];generalize hq_:World.drewN wc _=wc;have n0_:Aside0 (wc.heap[gb104]?=some (.cells #[.int .i64 x105000_3,.int .i64 0,.int .i64 0] 81 (0,0))):=⟨zq60⟩;have n1_:Aside0 (Below w.heap.size w wc):=⟨zq61⟩;clear BK104 HB hq_;have BK104:=n0_;have HB:=n1_;clear n0_ n1_;(try (have hdBK104_0:=(blk_cell BK104.out 0).trans rfl;have heBK104_0:=blk_frozen BK104.out 0;have hdBK104_1:=(blk_cell BK104.out 1).trans rfl;have heBK104_1:=blk_frozen BK104.out 1;have hdBK104_2:=(blk_cell BK104.out 2).trans rfl;have heBK104_2:=blk_frozen BK104.out 2))))))
    go_loopg [0] kj3 (fun kq v0 w'=>∃ (x0_2:Int) (x105001_2:Int),v0=.int .i64 x0_2∧Aside0 (days_Date.l1 kq x0_2 x105000_3 x105001_2 0=some (r1,r2,r3,r4))∧Aside0 (kq≤kj3)∧Aside0 (w'.heap[gb104]?=some (.cells #[.int .i64 x105000_3,.int .i64 x105001_2,.int .i64 0] 81 (0,0)))∧Aside0 (Below w.heap.size w w'))
    case atStart=>exact ⟨(wrap64 (a0 - t107)),(1),zq1,H',⟨Nat.le_refl _⟩,⟨by (with_reducible repeat (first | refine blk_drewN ?_ _ | refine blk_drew ?_ | refine blk_alloc ?_ _));refine blk_put (cs:=#[.int .i64 x105000_3,.int .i64 0,.int .i64 0]) ?_ 1 _ rfl;(with_reducible repeat (first | refine blk_drewN ?_ _ | refine blk_drew ?_ | refine blk_alloc ?_ _));exact BK104.out⟩,⟨zq62⟩⟩
    case round =>
     clear H';try clear p2
     try clear c3
     try clear c5
     try clear p6
     try clear c7
     try clear c7b0
     try clear c9
     try clear c9b0
     try clear hcz10_0
     try clear hcz10_1
     try clear hcz10_2
     try clear hcz11_0
     try clear hcz11_1
     try clear hcz11_2
     try clear hcz12_0
     try clear hcz12_1
     try clear hcz12_2
     try clear hcz14_0
     try clear hcz14_1
     try clear hcz14_2
     try clear hcz6_0
     try clear hcz6_1
     try clear hcz6_2
     try clear hfz10_0
     try clear hfz10_1
     try clear hfz10_2
     try clear hfz11_0
     try clear hfz11_1
     try clear hfz11_2
     try clear hfz12_0
     try clear hfz12_1
     try clear hfz12_2
     try clear hfz14_0
     try clear hfz14_1
     try clear hfz14_2
     try clear hfz6_0
     try clear hfz6_1
     try clear hfz6_2
     try clear p2
     try clear p6
     obtain ⟨x0_2,x105001_2,rfl,HA,HK2,BK104,HB⟩:=hrel
     cases gk with
     | zero=>exact absurd HA.out (by simp [days_Date.l1])
     | succ k2 =>
      have H:=HA.out;clear HA;simp only [days_Date.l1] at H
      replace H:=bdI H;obtain ⟨t108,A15,H⟩:=H;(try dsimp only at H)
      replace H:=ifI H;rcases H with ⟨c16,H⟩ | ⟨c16,H⟩
      ·have c16b0:decide (t108≤x0_2)=true:=decide_eq_true c16;clear c16;replace H:=bdI H;obtain ⟨t109,A17,H⟩:=H;(try dsimp only at H)
       have H':=sd H;clear H;obtain ⟨_,_,_,_,_,_⟩:=bk3 BK104;go_wp2_with (first | ((with_reducible refine gate_callee (f:=78) rfl ?_);refine gL 38 Tryd.func78 #[.int .i64 x105000_3,.int .i64 x105001_2] ?_;(with_reducible refine (days_Length.calls x105000_3 x105001_2 t108 _ A15.out (gl_below HG.out zq13)).mono ?_);rintro e w' ⟨rfl,⟨nd,rfl⟩⟩;refine ⟨_,rfl,?_⟩;(try (rw [drewN_self wr];generalize hq_:World.drewN wr _=wr;have n0_:Aside0 (wr.heap[gb104]?=some (.cells #[.int .i64 x105000_3,.int .i64 x105001_2,.int .i64 0] 81 (0,0))):=⟨zq60⟩;have n1_:Aside0 (Below w.heap.size w wr):=⟨zq61⟩;clear BK104 HB hq_;have BK104:=n0_;have HB:=n1_;clear n0_ n1_;(try (have hdBK104_0:=(blk_cell BK104.out 0).trans rfl;have heBK104_0:=blk_frozen BK104.out 0;have hdBK104_1:=(blk_cell BK104.out 1).trans rfl;have heBK104_1:=blk_frozen BK104.out 1;have hdBK104_2:=(blk_cell BK104.out 2).trans rfl;have heBK104_2:=blk_frozen BK104.out 2))))) | ((with_reducible refine gate_callee (f:=78) rfl ?_);refine gL 45 Tryd.func78 #[.int .i64 x105000_3,.int .i64 x105001_2] ?_;(with_reducible refine (days_Length.calls x105000_3 x105001_2 t109 _ A17.out (gl_below HG.out zq13)).mono ?_);rintro e w' ⟨rfl,⟨nd,rfl⟩⟩;refine ⟨_,rfl,?_⟩;(try (rw [drewN_self wr];generalize hq_:World.drewN wr _=wr;have n0_:Aside0 (wr.heap[gb104]?=some (.cells #[.int .i64 x105000_3,.int .i64 x105001_2,.int .i64 0] 81 (0,0))):=⟨zq60⟩;have n1_:Aside0 (Below w.heap.size w wr):=⟨zq61⟩;clear BK104 HB hq_;have BK104:=n0_;have HB:=n1_;clear n0_ n1_;(try (have hdBK104_0:=(blk_cell BK104.out 0).trans rfl;have heBK104_0:=blk_frozen BK104.out 0;have hdBK104_1:=(blk_cell BK104.out 1).trans rfl;have heBK104_1:=blk_frozen BK104.out 1;have hdBK104_2:=(blk_cell BK104.out 2).trans rfl;have heBK104_2:=blk_frozen BK104.out 2))))))
       go_roundg k2
       case measure=>have:=HJ3.out;have:=HK2.out;omega
       case rel=>exact ⟨(wrap64 (x0_2 - t109)),(wrap64 (x105001_2+1)),zq1,H',⟨zq54⟩,⟨by (with_reducible repeat (first | refine blk_drewN ?_ _ | refine blk_drew ?_ | refine blk_alloc ?_ _));refine blk_put (cs:=#[.int .i64 x105000_3,.int .i64 x105001_2,.int .i64 0]) ?_ 1 _ rfl;(with_reducible repeat (first | refine blk_drewN ?_ _ | refine blk_drew ?_ | refine blk_alloc ?_ _));exact BK104.out⟩,⟨zq62⟩⟩
      have c16b0:decide (t108≤x0_2)=false:=decide_eq_false c16;clear c16;simp only [Option.some.injEq,Prod.mk.injEq] at H
      obtain ⟨rfl,rfl,rfl,rfl⟩:=H;obtain ⟨_,_,_,_,_,_⟩:=bk3 BK104;go_wp2_with (first | ((with_reducible refine gate_callee (f:=78) rfl ?_);refine gL 38 Tryd.func78 #[.int .i64 x105000_3,.int .i64 x105001_2] ?_;(with_reducible refine (days_Length.calls x105000_3 x105001_2 t108 _ A15.out (gl_below HG.out zq13)).mono ?_);rintro e w' ⟨rfl,⟨nd,rfl⟩⟩;refine ⟨_,rfl,?_⟩;(try (rw [drewN_self wr];generalize hq_:World.drewN wr _=wr;have n0_:Aside0 (wr.heap[gb104]?=some (.cells #[.int .i64 x105000_3,.int .i64 x105001_2,.int .i64 0] 81 (0,0))):=⟨zq60⟩;have n1_:Aside0 (Below w.heap.size w wr):=⟨zq61⟩;clear BK104 HB hq_;have BK104:=n0_;have HB:=n1_;clear n0_ n1_;(try (have hdBK104_0:=(blk_cell BK104.out 0).trans rfl;have heBK104_0:=blk_frozen BK104.out 0;have hdBK104_1:=(blk_cell BK104.out 1).trans rfl;have heBK104_1:=blk_frozen BK104.out 1;have hdBK104_2:=(blk_cell BK104.out 2).trans rfl;have heBK104_2:=blk_frozen BK104.out 2))))))
      refine bodyPost_ret (results_ct rfl _ _ gb104 81 #[.int .i64 x105000_3,.int .i64 x105001_2,.int .i64 (wrap64 (x0_2+1))] (0,0) _ rfl (by (with_reducible repeat (first | refine blk_drewN ?_ _ | refine blk_drew ?_ | refine blk_alloc ?_ _));refine blk_put (cs:=#[.int .i64 x105000_3,.int .i64 x105001_2,.int .i64 (wrap64 (x0_2+1))]) ?_ 2 _ rfl;(with_reducible repeat (first | refine blk_drewN ?_ _ | refine blk_drew ?_ | refine blk_alloc ?_ _));refine blk_put (cs:=#[.int .i64 x105000_3,.int .i64 x105001_2,.int .i64 (wrap64 (x0_2+1))]) ?_ 1 _ rfl;(with_reducible repeat (first | refine blk_drewN ?_ _ | refine blk_drew ?_ | refine blk_alloc ?_ _));refine blk_put (cs:=#[.int .i64 x105000_3,.int .i64 x105001_2,.int .i64 (wrap64 (x0_2+1))]) ?_ 0 _ rfl;(with_reducible repeat (first | refine blk_drewN ?_ _ | refine blk_drew ?_ | refine blk_alloc ?_ _));refine blk_put (cs:=#[.int .i64 x105000_3,.int .i64 x105001_2,.int .i64 0]) ?_ 2 _ rfl;(with_reducible repeat (first | refine blk_drewN ?_ _ | refine blk_drew ?_ | refine blk_alloc ?_ _));exact BK104.out) Tryd.underlying81 rfl (by kernel_rfl)) rfl ?_;exact ⟨zq10,zq62⟩
 replace c3:=Bool.eq_false_iff.mpr c3;subst c3;rw [if_neg Bool.false_ne_true] at H;simp only [Option.some.injEq,Prod.mk.injEq] at H
 obtain ⟨rfl,rfl,rfl,rfl⟩:=H;go_enter Tryd.func54,Tryd.ntmps54
 go_wp2_with (first | ((with_reducible refine gate_dst (N:=2) rfl ?_);refine bxA 2 #[.int .i64 0,.int .i64 0,.int .i64 0] 81 ?_;intro gb104 hg w20 hbox hb;have BK104:=sd (hbox);have GW104:=gem hg HB;have GE104:=GW104;replace HB:=hbm HB hb;clear hb hbox hg) | ((with_reducible refine gate_callee (f:=76) rfl ?_);refine gL 5 Tryd.func76 #[.int .i64 a0] ?_;(with_reducible refine (days_is.calls a0 false _ A2.out).mono ?_);rintro e w' ⟨rfl,⟨nd,rfl⟩⟩;refine ⟨_,rfl,?_⟩;(try (rw [drewN_self w20];generalize hq_:World.drewN w20 _=w20;have n0_:Aside0 (w20.heap[gb104]?=some (.cells #[.int .i64 0,.int .i64 0,.int .i64 0] 81 (0,0))):=⟨zq60⟩;have n1_:Aside0 (Below w.heap.size w w20):=⟨zq61⟩;clear BK104 HB hq_;have BK104:=n0_;have HB:=n1_;clear n0_ n1_;(try (have hdBK104_0:=(blk_cell BK104.out 0).trans rfl;have heBK104_0:=blk_frozen BK104.out 0;have hdBK104_1:=(blk_cell BK104.out 1).trans rfl;have heBK104_1:=blk_frozen BK104.out 1;have hdBK104_2:=(blk_cell BK104.out 2).trans rfl;have heBK104_2:=blk_frozen BK104.out 2))));obtain ⟨_,_,_,_,_,_⟩:=bk3 BK104))
 refine bodyPost_ret (results_ct rfl _ _ gb104 81 #[.int .i64 0,.int .i64 0,.int .i64 0] (0,0) _ rfl (by (with_reducible repeat (first | refine blk_drewN ?_ _ | refine blk_drew ?_ | refine blk_alloc ?_ _));refine blk_put (cs:=#[.int .i64 0,.int .i64 0,.int .i64 0]) ?_ 2 _ rfl;(with_reducible repeat (first | refine blk_drewN ?_ _ | refine blk_drew ?_ | refine blk_alloc ?_ _));refine blk_put (cs:=#[.int .i64 0,.int .i64 0,.int .i64 0]) ?_ 1 _ rfl;(with_reducible repeat (first | refine blk_drewN ?_ _ | refine blk_drew ?_ | refine blk_alloc ?_ _));refine blk_put (cs:=#[.int .i64 0,.int .i64 0,.int .i64 0]) ?_ 0 _ rfl;(with_reducible repeat (first | refine blk_drewN ?_ _ | refine blk_drew ?_ | refine blk_alloc ?_ _));exact BK104.out) Tryd.underlying81 rfl (by kernel_rfl)) rfl ?_;exact ⟨zq10,zq62⟩
end Go.Proofs.YtmlcdpfcafmmcaaDoor.A
