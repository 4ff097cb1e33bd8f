-- By pack.py, a program of this session's.
import Derived.Test.YtlblkojjpagbkaaDoorZ0
import Derived.Test.YtlblkojjpagbkaaDoorZ1
set_option linter.unusedVariables false
set_option linter.unusedSimpArgs false
namespace Go.Proofs.YtlblkojjpagbkaaDoor
namespace WL
section
variable {P:Program} {ops:Array Oper} {Q:Exit→Act→World→Prop} {md:Region.Mode} {S:World→Prop} {ds:List Nat}
theorem wpAnyLast_all {rs:List Nat} {fuel:Nat} {listed:Array Bool} {a:Act} {w:World} (hr:Region.ready md ops listed=rs) (hne:rs≠[])
    (h:∀ i∈rs,wpOp P ops Q i (fun a' w'=>(i ∉ ds→S w→S w')∧wpAnyLast P md ops Q S ds fuel (listed.setIfInBounds i true) a' w') a w):wpAnyLast P md ops Q S ds (fuel+1) listed a w :=
  ⟨fun h0=>absurd (hr ▸ h0) hne,hr ▸ h⟩
theorem AllReadyL.cons_last {fuel:Nat} {listed:Array Bool} {a:Act} {w:World} {i:Nat} {o:Oper} {rs:List Nat} (ho:ops[i]?=some o) (hd:i∈ds)
    (h:∀ K':Act→World→Prop,Shut (∀ a w,wpAnyLast P md ops Q S ds fuel (listed.setIfInBounds i true) a w→K' a w)→if Region.wanted o (yielded ops a.tmps)=true then Oper.wp P o a w K' Q else K' (a.put o.dst undef) w)
    (hs:AllReadyL P md ops Q S ds fuel listed a w rs):AllReadyL P md ops Q S ds fuel listed a w (i :: rs):=fun j hj=>by
  rcases List.mem_cons.1 hj with rfl|hj
  · exact wpOp_step ho (fun K' hK=>h K' (fun a w hW=>hK a w ⟨fun hn=>absurd hd hn,hW⟩))
  · exact hs j hj
theorem wpAnyLast_ready {rs:List Nat} {fuel:Nat} {listed:Array Bool} {a:Act} {w:World} (hr:Region.ready md ops listed=rs) (hne:rs≠[])
    (h:AllReadyL P md ops Q S ds fuel listed a w rs):wpAnyLast P md ops Q S ds (fuel+1) listed a w:=wpAnyLast_all hr hne h
def takeB (md:Region.Mode) (ops:Array Oper) (ds:List Nat) (l l':Array Bool) (i:Nat):Bool :=
  Region.noSelect ops && Region.free md ops l i && (Region.ready md ops l).contains i && Region.closedB md ops l && Region.lastB md ops l ds i && (l.setIfInBounds i true == l')
theorem take_ {i:Nat} {N:Option Tmp} {oi:Oper} {v:Value} {fuel:Nat} {l:Array Bool} {a:Act} {w:World} (l':Array Bool) (hi:ops[i]?=some oi) (hN:oi.dst=N) (hc:takeB md ops ds l l' i=true)
    (hQ:∀ c a w,Q (.panic c) (a.put oi.dst v) w→Q (.panic c) a w) (hy:YieldsIf P ops S oi v a) (hS:S w) {a':Act} (ha:a.put N v=a')
    (h:wpAnyLast P md ops Q S ds fuel l' a' w):wpAnyLast P md ops Q S ds (fuel+1) l a w:=by
  subst ha;subst hN;simp only [takeB,Bool.and_eq_true,beq_iff_eq] at hc
  obtain ⟨⟨⟨⟨⟨h1,h2⟩,h3⟩,h4⟩,h5⟩,h6⟩:=hc;subst h6;exact wpAnyLast_take hi h1 h2 h3 h4 h5 hQ hy hS h
def anyB (md:Region.Mode) (ops:Array Oper) (l l':Array Bool) (i:Nat):Bool :=
  Region.noSelect ops && Region.free md ops l i && (Region.ready md ops l).contains i && (l.setIfInBounds i true == l')
theorem pure_ {i:Nat} {N:Option Tmp} {oi:Oper} {v:Value} {fuel:Nat} {l:Array Bool} {a:Act} {w:World} (l':Array Bool) (hi:ops[i]?=some oi) (hN:oi.dst=N) (hc:anyB md ops l l' i=true)
    (hQ:∀ c a w,Q (.panic c) (a.put oi.dst v) w→Q (.panic c) a w) (hy:Yields P ops oi v a) {a':Act} (ha:a.put N v=a')
    (h:wpAnyLast P md ops Q S ds fuel l' a' w):wpAnyLast P md ops Q S ds (fuel+1) l a w:=by
  subst ha;subst hN;simp only [anyB,Bool.and_eq_true,beq_iff_eq] at hc
  obtain ⟨⟨⟨h1,h2⟩,h3⟩,h6⟩:=hc;subst h6;exact wpAnyLast_any hi (Region.noSelect_spec h1) hQ fuel l a w (Region.free_spec hi h2) (by simpa using h3) hy h
theorem enters_ {f : FuncId} {fn : Func} (hf : P.funcs[f]? = some fn) (hname : (fn.name == "runtime.NumGoroutine") = false) (hb : fn.body.isSome = true) (args : Array Value) (w : World) : (callFunc f args).run P w = .ok (.enter f args) w := by
  have h1 : fn.name ≠ "runtime.NumGoroutine" := by simpa using hname
  obtain ⟨c,hc⟩:=Option.isSome_iff_exists.1 hb;simp [callFunc,hf,h1,hc]
theorem goesL_ {rest : List Oper} {oi : Oper} {a : Act} {w : World} (N : Option Tmp) (hd : oi.dst = N) (hg : oi.guard = none) {f : FuncId} {fn : Func} {as_ : Array Operand} {ts : Array TypeId} (hf : P.funcs[f]? = some fn) (hname : (fn.name == "runtime.NumGoroutine") = false) (hb : fn.body.isSome = true) (args : Array Value)
    (hop:oi.op=.call { callee:=.value (.func f),args:=as_,argTypes:=ts }) (hargs:as_.map a.eval=args)
    (h:Calls P f args w fun e w'=>∃ v,e=.returned v∧wpList P ops Q rest (a.put N v) w'):wpList P ops Q (oi :: rest) a w:=by
  refine wpList_plain hg fun K hK=>?_
  have he:=enters_ hf hname hb args w
  have hrun:(execOp a.eval oi).run P w=.ok (.enter f args) w:=by
    unfold execOp;simp [hop,resolve,Deferred.ofValue,invoke,Act.eval,hargs,he]
  unfold Oper.wp;rw [hrun,Oper.upon_enter];refine h.mono fun e w'' hh=>?_
  obtain ⟨v,rfl,hk⟩:=hh;subst hd;exact hK _ _ hk
theorem i64_w (n:Int):IntKind.i64.wrap n=Go.RowKit.wrap64 n:=by unfold Go.RowKit.wrap64;exact IntKind.wrap_i64 n
theorem i32_w (n:Int):IntKind.i32.wrap n=Go.RowKit.wrap32 n:=by unfold Go.RowKit.wrap32;exact IntKind.wrap_i32 n
end
end WL
namespace WL
open WW (Aside0)
def needsOf (md:Region.Mode) (o:Oper):List Nat:=(o.after.toList.filter (fun e=>Region.binds md e)).map (fun e=>e.on)
def clashOf (md:Region.Mode) (ops:Array Oper) (i:Nat) (oi:Oper):List Nat:=(List.range ops.size).filter fun j=>!(j == i) && match ops[j]? with
 |some oj=>!(oj.after.any (fun e=>Region.binds md e && e.on == i) || oi.apart ops oj)
 |none=>false
def rtab (md:Region.Mode) (ops:Array Oper):Bool×List (List Nat×List Nat):=(Region.noSelect ops,(List.range ops.size).map fun i=>match ops[i]? with
 |some o=>(needsOf md o,clashOf md ops i o)
 |none=>([],[]))
def readyAt (T:List (List Nat×List Nat)) (l:List Bool) (i:Nat):Bool:=!l.getD i true && match T[i]? with
 |some r=>r.1.all (fun j=>l.getD j false)
 |none=>false
def readyT (T:List (List Nat×List Nat)) (l:List Bool):List Nat:=(List.range T.length).filter (readyAt T l)
def freeT (T:List (List Nat×List Nat)) (l:List Bool) (i:Nat):Bool:=match T[i]? with
 |some r=>r.2.all (fun j=>l.getD j true)
 |none=>false
def closedT (T:List (List Nat×List Nat)) (l:List Bool):Bool:=(List.range T.length).all fun j=>!l.getD j false || match T[j]? with
 |some r=>r.1.all (fun k=>l.getD k false)
 |none=>true
def reachT (T:List (List Nat×List Nat)) (i:Nat):Nat→Nat→Bool
 |0,_=>false
 |fuel+1,d=>match T[d]? with
   |some r=>r.1.any fun j=>j == i || reachT T i fuel j
   |none=>false
def lastT (T:List (List Nat×List Nat)) (l:List Bool) (ds:List Nat) (i:Nat):Bool:=ds.all fun d=>l.getD d true || reachT T i T.length d
end WL
namespace WL
open WW (Aside0)
section
variable {md:Region.Mode} {ops:Array Oper} {T:Bool×List (List Nat×List Nat)} {l l' li lj lk:Array Bool} {ds:List Nat} {i j k:Nat}
theorem rtab_length:(rtab md ops).2.length=ops.size:=by simp [rtab]
theorem rtab_some {o:Oper} (h:ops[i]?=some o):(rtab md ops).2[i]?=some (needsOf md o,clashOf md ops i o):=by
  have hi:=(Array.getElem?_eq_some_iff.1 h).1;unfold rtab;rw [List.getElem?_map,List.getElem?_range hi,Option.map_some,h]
theorem rtab_none (h:ops[i]?=none):(rtab md ops).2[i]?=none:=by
  have hi:ops.size≤i:=Array.getElem?_eq_none_iff.1 h;exact List.getElem?_eq_none (by rw [rtab_length];exact hi)
theorem set_of (h:(l.toList.set i true == l'.toList)=true):(l.setIfInBounds i true == l')=true:=by
  rw [beq_iff_eq] at h ⊢;apply Array.ext';rw [Array.toList_setIfInBounds];exact h
def anyT (T:Bool×List (List Nat×List Nat)) (l l':List Bool) (i:Nat):Bool:=T.1 && freeT T.2 l i && readyAt T.2 l i && (l.set i true == l')
def takeT (T:Bool×List (List Nat×List Nat)) (ds:List Nat) (l l':List Bool) (i:Nat):Bool:=T.1 && freeT T.2 l i && readyAt T.2 l i && closedT T.2 l && lastT T.2 l ds i && (l.set i true == l')
def waitsOk (T:List (List Nat×List Nat)) (B:List Nat):Bool:=(List.range T.length).all fun d=>match T[d]? with
 |some r=>(B.getD d 0 ||| upM B d r.1) == upM B d r.1
 |none=>false
theorem reach_bit {T:List (List Nat×List Nat)} {B:List Nat} (hB:waitsOk T B=true):∀ (fuel d:Nat),d < fuel→d < T.length→(B.getD d 0).testBit i=true→reachT T i fuel d=true
 |0,d,h,_,_=>by omega
 |fuel+1,d,h,hd,hb=>by
    have h1:=List.all_eq_true.1 hB d (List.mem_range.2 hd)
    cases hr:T[d]? with
   |none=>rw [hr] at h1;simp at h1
   |some r =>
      rw [hr] at h1;simp only [beq_iff_eq] at h1
      have h2:(upM B d r.1).testBit i=true:=by rw [← h1,Nat.testBit_or,hb,Bool.true_or]
      obtain ⟨n,hn,h3⟩:=upM_bit h2;unfold reachT;rw [hr];simp only
      rw [List.any_eq_true];refine ⟨n,hn,?_⟩;rcases h3 with rfl|⟨h4,h5⟩
      · simp
      · rw [reach_bit hB fuel n (by omega) (by omega) h5,Bool.or_true]
def takeW (T:Bool×List (List Nat×List Nat)) (B:List Nat) (ds:List Nat) (l l':List Bool) (i:Nat):Bool:=T.1 && freeT T.2 l i && readyAt T.2 l i && closedT T.2 l && lastW T.2 B l ds i && (l.set i true == l')
theorem with_tabW {P:Program} {Q:Exit→Act→World→Prop} {S:World→Prop} {n:Nat} {a:Act} {w:World} {B:List Nat} (hT:rtab md ops=T) (hB:waitsOk T.2 B=true) (h:Aside0 (rtab md ops=T)→Aside0 (waitsOk T.2 B=true)→wpAnyLast P md ops Q S ds n l a w):wpAnyLast P md ops Q S ds n l a w:=h ⟨hT⟩ ⟨hB⟩
end
end WL
namespace WW
open Go.RowKit
theorem Drawn0.below {w w':World} (h:Drawn0 w w'):Below w.heap.size w w':=by
  obtain ⟨n,rfl⟩:=h;induction n with
 |zero=>exact Below.refl _ _
 |succ n ih=>rw [← World.drew_drewN];exact ih.drew
theorem ReadsInt.below {w w1:World} {k:IntKind} {A:Option Addr} {n:Nat} {xs:List Int} (h:ReadsInt w k A n xs) (hb:Below w.heap.size w w1):ReadsInt w1 k A n xs :=
  ⟨h.1,h.2.1,fun hn=>by
    obtain ⟨ad,e,hc⟩:=h.2.2 hn;exact ⟨ad,e,fun j hj=>pw_cell_below hb (hc j hj)⟩⟩
theorem Ev.bind {α β:Type} {g:Nat→Option α} {f:Nat→α→Option β} {a:α} {r:β} (h:Ev g a) (k:Ev (fun n=>f n a) r):Ev (fun n=>(g n).bind (f n)) r:=by
  obtain ⟨K,h⟩:=h;obtain ⟨K',k⟩:=k;refine ⟨max K K',fun n hn=>?_⟩;have h1:=h n (by omega);have h2:=k n (by omega);simp only [h1,Option.bind_some]
  exact h2
theorem Ev.step {α:Type} {g f:Nat→Option α} {r:α} (h:∀ k,g (k+1)=f k) (k:Ev f r):Ev g r:=by
  obtain ⟨K,k⟩:=k;refine ⟨K+1,fun n hn=>?_⟩;obtain ⟨m,rfl⟩:∃ m,n=m+1:=⟨n - 1,by omega⟩
  rw [h];exact k m (by omega)
theorem Ev.congr {α:Type} {g f:Nat→Option α} {r:α} (h:∀ k,g k=f k) (k:Ev f r):Ev g r:=by
  obtain ⟨K,k⟩:=k;exact ⟨K,fun n hn=>(h n).trans (k n hn)⟩
theorem ReadsInt.nil (W:World) (k:IntKind):ReadsInt W k none ([]:List Int).length []:=⟨rfl,by simp,fun h=>absurd h (Nat.lt_irrefl 0)⟩
theorem ReadsOf.nil {α:Type} (enc:α→Value) (d:α) (W:World):ReadsOf enc d W none ([]:List α).length []:=⟨rfl,by simp,fun h=>absurd h (Nat.lt_irrefl 0)⟩
inductive Vals (P:Program) (tmps:Array Value) (w:World):List ResultVar→List Value→Prop where
 |nil:Vals P tmps w [] []
 |tmp {u:Tmp} {rs:List ResultVar} {vs:List Value} (h:Vals P tmps w rs vs):Vals P tmps w (.tmp u :: rs) (tmps.getD u undef :: vs)
 |cell {p:Tmp} {ty:TypeId} {rs:List ResultVar} {vs:List Value} (g:Nat) (t:TypeId) (cs:Array Value) (fr:Nat×Nat) (d:TypeDesc)
      (hp:tmps.getD p undef=.pointer (some ⟨g,0,none⟩)) (hg:w.heap[g]?=some (.cells cs t fr))
      (hu:P.underlying ty=some d) (hd:(match d with|.struct _|.array _ _=>true|_=>false)=true) (hi:(P.info? ty).map (·.size)=some cs.size)
      (h:Vals P tmps w rs vs):Vals P tmps w (.cell p ty :: rs) (.agg cs :: vs)
end WW
namespace WW
open Go.RowKit
namespace Kd
def H {α:Type} (d:Kd α) (e:Nat) (w:World) (base:Nat) (ok:Nat→Prop) (v:Value) (xs:List α) (i:Int) (oki:Nat→Prop) (c:List Value):Prop :=
  (∀ k,oki k→ok k)∧∃ f,(gap f d i.toNat c).R e w base (fun k=>ok k∧¬ oki k) v xs.zipIdx
theorem Heap.C {α:Type} {d:Kd α} (hd:Heap d) {w w1:World} {A:Option Addr} {n:Nat} {xs:List α} (hb:∀ k,k < w.heap.size→w1.heap[k]?=w.heap[k]?) (h:d.C w A n xs):d.C w1 A n xs :=
  ⟨h.1,h.2.1,fun hn=>by
    obtain ⟨ad,e,hc⟩:=h.2.2 hn;refine ⟨ad,e,fun j p hj=>?_⟩;obtain ⟨c,hs,hr,hcell⟩:=hc j p hj;exact ⟨c,hs,hd.K hb hr,fun i u hu=>cell_heap hb (hcell i u hu)⟩⟩
def F {α:Type} (d:Kd α) (W:World) (ok:Nat→Prop) (A:Option Addr) (n:Nat) (xs:List α):Prop:=Foot (fun W=>d.C W A n xs) W ok
def FK {α:Type} (d:Kd α) (W:World) (ok:Nat→Prop) (x:α) (c:List Value):Prop:=Foot (fun W=>d.K W x c) W ok
def V {α:Type} (d:Kd α) (_e:Nat) (W:World) (_base:Nat) (ok:Nat→Prop) (v:Value) (xs:List α):Prop:=∃ A c,v=.slice A xs.length c∧xs.length≤c∧F d W ok A xs.length xs
end Kd
end WW
namespace B
open Go.RowKit WW WL WM
section
variable {P:Program} {ops:Array Oper} {rest:List Oper} {o:Oper} {Q:Exit→Act→World→Prop} {a:Act} {w V W w1:World} {g g':Nat}
theorem bk2 {w:World} {g t:Nat} {v0 v1:Value} (B:Aside0 (w.heap[g]?=some (.cells #[v0,v1] t (0,0)))):w.cell? ⟨g,0,none⟩=some v0∧w.cell? ⟨g,1,none⟩=some v1∧w.frozen? ⟨g,0,none⟩=false∧w.frozen? ⟨g,1,none⟩=false:=⟨(blk_cell B.out 0).trans rfl,(blk_cell B.out 1).trans rfl,blk_frozen B.out 0,blk_frozen B.out 1⟩
theorem bk4 {w:World} {g t:Nat} {v0 v1 v2 v3:Value} (B:Aside0 (w.heap[g]?=some (.cells #[v0,v1,v2,v3] t (0,0)))):w.cell? ⟨g,0,none⟩=some v0∧w.cell? ⟨g,1,none⟩=some v1∧w.cell? ⟨g,2,none⟩=some v2∧w.cell? ⟨g,3,none⟩=some v3∧w.frozen? ⟨g,0,none⟩=false∧w.frozen? ⟨g,1,none⟩=false∧w.frozen? ⟨g,2,none⟩=false∧w.frozen? ⟨g,3,none⟩=false:=⟨(blk_cell B.out 0).trans rfl,(blk_cell B.out 1).trans rfl,(blk_cell B.out 2).trans rfl,(blk_cell B.out 3).trans rfl,blk_frozen B.out 0,blk_frozen B.out 1,blk_frozen B.out 2,blk_frozen B.out 3⟩
theorem gem (hg:g=W.heap.size) (H:Aside0 (Below w.heap.size w V)) (hs:Below w.heap.size w V→Below w.heap.size w W:=by (intro h;repeat (first|(with_reducible first|exact h|apply below_alloc|apply pw_below_drewN|apply below_drew1|refine below_set ?_ (Aside0.out ‹_›))|exact h))):Aside0 (w.heap.size≤g):=⟨by rw [hg];exact below_size (hs H.out)⟩
end
end B
namespace WW
open Go.RowKit
namespace Kd
section
variable {α β:Type} {d:Kd α} {e base n n' cc g N:Nat} {ok ok' okp S:Nat→Prop} {w w0 w1 W W1:World} {A A':Option Addr} {u v v1:Value} {xs:List α} {xs':List β} {d':Kd β} {x:α} {c:List Value}
theorem F_nil (d:Kd α) (W:World) (ok:Nat→Prop):F d W ok none ([]:List α).length []:=fun W' _=>C_nil d W'
theorem FK_of_M (h:d.M W base ok x c):FK d W ok x c:=fun _ hW=>d.K_of_M (M_step h hW)
end
end Kd
end WW
namespace WM
open Go.RowKit WW
theorem max2_int (k k':IntKind) (x y:Int):Builtin.max2 (.int k x) (.int k' y)=pure (.int k (if x < y then y else x)):=by simp only [Builtin.max2,gt_iff_lt]
theorem min2_int (k k':IntKind) (x y:Int):Builtin.min2 (.int k x) (.int k' y)=pure (.int k (if y < x then y else x)):=by simp only [Builtin.min2]
end WM
namespace A
open Go.RowKit B WW WL WM
attribute [local go_sem] max2_int min2_int max_two min_two max_three min_three max_four min_four
set_option maxHeartbeats 8000000
set_option maxRecDepth 100000
def words_digit.f (a0:Int):Option (Bool):=if a0 ≥ 48 then (some (decide (a0≤57))) else (some false)
def words_letter.f (a0:Int):Option (Bool):=if a0 ≥ 97 then (if a0≤122 then (some true) else (if a0 ≥ 65 then (if a0≤90 then (some true) else (some (a0 == 95))) else (some (a0 == 95)))) else (if a0 ≥ 65 then (if a0≤90 then (some true) else (some (a0 == 95))) else (some (a0 == 95)))
def words_printable.f (a0:Int):Option (Bool):=if a0 ≥ 32 then (some (decide (a0≤126))) else (some false)
def isPrn (c:UInt8):Bool:=decide (32≤c.toNat) && decide (c.toNat≤126)
theorem all_bad {p:UInt8→Bool} {l:List UInt8} {i:Nat} (h:i < l.length) (hu:p l[i]=false):l.all p=false:=by
 rw [Bool.eq_false_iff];intro hh;have:=List.all_eq_true.mp hh l[i] (List.getElem_mem h);rw [hu] at this;cases this
theorem letter_wd:∀ n:Nat,n < 256→words_letter.f (n:Int)=some ((decide (97≤n) && decide (n≤122)) || ((decide (65≤n) && decide (n≤90)) || decide (n=95))):=by decide +kernel
theorem digit_wd:∀ n:Nat,n < 256→words_digit.f (n:Int)=some (decide (48≤n) && decide (n≤57)):=by decide +kernel
theorem print_wd:∀ n:Nat,n < 256→words_printable.f (n:Int)=some (decide (32≤n) && decide (n≤126)):=by decide +kernel
def isLetB (c:UInt8):Bool:=(decide (97≤c.toNat) && decide (c.toNat≤122)) || ((decide (65≤c.toNat) && decide (c.toNat≤90)) || decide (c.toNat=95))
def isDigB (c:UInt8):Bool:=decide (48≤c.toNat) && decide (c.toNat≤57)
def isWdB (c:UInt8):Bool:=isLetB c || isDigB c
def codeW (l:List UInt8):Bool:=!l.isEmpty && (decide (l.length≤12) && l.all isWdB)
def plainW (l:List UInt8):Bool:=decide (l.length≤60) && l.all isPrn
def words_Code.f (a0:ByteArray):Option (Bool):=if a0.size≤140737488351232 then some (codeW a0.data.toList) else none
def dims_codes.f (a0_0:ByteArray) (a0_1:ByteArray):Option (Bool):=(words_Code.f a0_0).bind fun t106=>(if t106=true then ((words_Code.f a0_1).bind fun t107=>(some t107)) else (some false))
def dims_Right.T6:Bool×List (List Nat×List Nat):=(true,[([],[]),([0],[0]),([1],[1]),([2,1],[2]),([3],[3]),([4,3],[3,4]),([5,3,3],[3,5]),([6],[6]),([6],[6]),([8,6],[6,8]),([7,9,6],[6,7,9]),([10,6],[6,10]),([11,6],[6,11]),([6],[6]),([13,6],[6,13]),([12,14,6],[6,12,14]),([6,15,3],[3,6,15]),([3,16],[3,16])])
def dims_Right.B6:List Nat:=[0,1,3,7,15,31,63,127,127,383,1023,2047,4095,127,8319,32767,65535,131071]
theorem dims_Right.bits6:waitsOk dims_Right.T6.2 dims_Right.B6=true:=by kernel_rfl
def rules_counts.f (a0:Int):Option (Bool):=if a0=1 then (some true) else (some (a0 == 4))
def rules_suits.j0:Nat→Int→Int→Bool→Option (Bool)
|0,_,_,_=>none
|k+1,x0,x1,x5=>if x5=true then (some false) else (if x1=1 then (some true) else ((rules_counts.f x0).bind fun t112=>(if t112=true then (if x1=2 then (some true) else (some (x1 == 3))) else (if x1=4 then (some true) else (some (x1 == 5))))))
def rules_suits.f (k:Nat) (a0:Int) (a1:Int):Option (Bool):=if a0 < 1 then (rules_suits.j0 k a0 a1 true) else (rules_suits.j0 k a0 a1 (decide (a0 > 4)))
def words_Plain.f (a0:ByteArray):Option (Bool):=if a0.size≤140737488351232 then some (plainW a0.data.toList) else none
def rules_cond.j0:Nat→Bool→Bool→Option (Int)
|0,_,_=>none
|k+1,x3,x4=>if x3=true then (if x4=true then (some 0) else (some 5)) else (some 3)
def rules_cond.f (k:Nat) (a0_0:Int) (a0_1:Int) (a0_2:ByteArray) (a0_3:Int):Option (Int):=(rules_suits.f k a0_0 a0_1).bind fun t114=>(if t114=true then (if a0_0=1 then (if a0_3≤1000000000000 then (rules_cond.j0 k (decide (a0_3 ≥ (-1000000000000))) (a0_2.toList == ([]:List UInt8))) else (rules_cond.j0 k false (a0_2.toList == ([]:List UInt8)))) else (if a0_0=4 then (if a0_3 ≥ 0 then (rules_cond.j0 k (decide (a0_3≤109572)) (a0_2.toList == ([]:List UInt8))) else (rules_cond.j0 k false (a0_2.toList == ([]:List UInt8)))) else (if a0_0=2 then ((words_Plain.f a0_2).bind fun t115=>(rules_cond.j0 k (a0_3 == 0) t115)) else (if a0_0=3 then ((words_Plain.f a0_2).bind fun t116=>(rules_cond.j0 k (a0_3 == 0) t116)) else (rules_cond.j0 k (a0_3 == 0) (a0_2.toList == ([]:List UInt8))))))) else (some 10))
def words_nameEnd.l0:Nat→ByteArray→Int→Option (Int)
|0,_,_=>none
|k+1,x0,x1=>if x1 < (x0.size:Int) then (if 0≤x1 then ((words_letter.f (bt x0 x1)).bind fun t180=>(if t180=true then (words_nameEnd.l0 k x0 (wrap64 (x1+1))) else ((words_digit.f (bt x0 x1)).bind fun t181=>(if t181=true then (words_nameEnd.l0 k x0 (wrap64 (x1+1))) else (some x1))))) else (none)) else (some x1)
def words_nameEnd.f (k:Nat) (a0:ByteArray) (a1:Int):Option (Int):=words_nameEnd.l0 k a0 a1
def words_digitAt.f (a0:ByteArray) (a1:Int):Option (Bool):=if a1 < (a0.size:Int) then (if 0≤a1 then ((words_digit.f (bt a0 a1)).bind fun t182=>(some t182)) else (none)) else (some false)
def words_quoted.l0:Nat→ByteArray→Int→List Int→Int→Int→Int→Option (ByteArray×Int×Int×Int)
|0,_,_,_,_,_,_=>none
|k+1,x0,x1,x7,x8,x184000,x184001=>if x8 < (x0.size:Int) then (if 0≤x8 then (if (bt x0 x8)=34 then (some (strOfNums x7,wrap64 (x8+1),x184000,x184001)) else (if (bt x0 x8)=92 then (if (wrap64 (x8+1)) ≥ (x0.size:Int) then (some ((⟨#[]⟩:ByteArray),0,wrap64 ((wrap64 (x8+1)) - 1),5)) else (if 0≤(wrap64 (x8+1)) then (if (wrap64 (x8+1)) < (x0.size:Int) then (if (bt x0 (wrap64 (x8+1)))=34 then (if x7.length < 140737488355328 then (words_quoted.l0 k x0 x1 (x7++[bt x0 (wrap64 (x8+1))]) (wrap64 ((wrap64 (x8+1))+1)) x184000 x184001) else (none)) else (if (bt x0 (wrap64 (x8+1)))=92 then (if x7.length < 140737488355328 then (words_quoted.l0 k x0 x1 (x7++[bt x0 (wrap64 (x8+1))]) (wrap64 ((wrap64 (x8+1))+1)) x184000 x184001) else (none)) else (some ((⟨#[]⟩:ByteArray),0,wrap64 ((wrap64 (x8+1)) - 1),5)))) else (none)) else (none))) else ((words_printable.f (bt x0 x8)).bind fun t190=>(if t190=true then (if x7.length < 140737488355328 then (words_quoted.l0 k x0 x1 (x7++[bt x0 x8]) (wrap64 (x8+1)) x184000 x184001) else (none)) else (some ((⟨#[]⟩:ByteArray),0,x8,5)))))) else (none)) else (some ((⟨#[]⟩:ByteArray),0,x1,6))
def words_quoted.f (k:Nat) (a0:ByteArray) (a1:Int):Option (ByteArray×Int×Int×Int):=words_quoted.l0 k a0 a1 ([]:List Int) (wrap64 (a1+1)) 0 0
def words_quoted.T8:Bool×List (List Nat×List Nat):=(true,[([],[]),([0],[0]),([],[]),([2],[2]),([],[]),([1,0,1],[1]),([3,5,0,1,2,3,5],[3]),([4,6,0,1,2,3,4,5,6],[4])])
def words_quoted.B8:List Nat:=[0,1,0,4,0,3,47,127]
theorem words_quoted.bits8:waitsOk words_quoted.T8.2 words_quoted.B8=true:=by kernel_rfl
def words_signEnd.j0:Nat→ByteArray→Int→Option (Int)
|0,_,_=>none
|k+1,x0,x1=>if 0≤x1 then (if x1 < (x0.size:Int) then (if (bt x0 x1)=40 then (some (wrap64 (x1+1))) else (if (bt x0 x1)=41 then (some (wrap64 (x1+1))) else (if (bt x0 x1)=123 then (some (wrap64 (x1+1))) else (if (bt x0 x1)=125 then (some (wrap64 (x1+1))) else (if (bt x0 x1)=91 then (some (wrap64 (x1+1))) else (if (bt x0 x1)=93 then (some (wrap64 (x1+1))) else (if (bt x0 x1)=44 then (some (wrap64 (x1+1))) else (if (bt x0 x1)=59 then (some (wrap64 (x1+1))) else (if (bt x0 x1)=58 then (some (wrap64 (x1+1))) else (if (bt x0 x1)=61 then (some (wrap64 (x1+1))) else (if (bt x0 x1)=43 then (some (wrap64 (x1+1))) else (if (bt x0 x1)=45 then (some (wrap64 (x1+1))) else (if (bt x0 x1)=42 then (some (wrap64 (x1+1))) else (if (bt x0 x1)=47 then (some (wrap64 (x1+1))) else (if (bt x0 x1)=60 then (some (wrap64 (x1+1))) else (if (bt x0 x1)=62 then (some (wrap64 (x1+1))) else (if (bt x0 x1)=124 then (some (wrap64 (x1+1))) else (if (bt x0 x1)=38 then (some (wrap64 (x1+1))) else (if (bt x0 x1)=33 then (some (wrap64 (x1+1))) else (if (bt x0 x1)=64 then (some (wrap64 (x1+1))) else (if (bt x0 x1)=37 then (some (wrap64 (x1+1))) else (some x1)))))))))))))))))))))) else (none)) else (none)
def words_signEnd.f (k:Nat) (a0:ByteArray) (a1:Int):Option (Int):=if (wrap64 (a1+2))≤(a0.size:Int) then (if 0≤a1 then (if a1≤(wrap64 (a1+2)) then (if (a0.extract (a1:Int).toNat ((wrap64 (a1+2)):Int).toNat).toList=([60,61]:List UInt8) then (some (wrap64 (a1+2))) else (if (a0.extract (a1:Int).toNat ((wrap64 (a1+2)):Int).toNat).toList=([62,61]:List UInt8) then (some (wrap64 (a1+2))) else (if (a0.extract (a1:Int).toNat ((wrap64 (a1+2)):Int).toNat).toList=([33,61]:List UInt8) then (some (wrap64 (a1+2))) else (if (a0.extract (a1:Int).toNat ((wrap64 (a1+2)):Int).toNat).toList=([46,46]:List UInt8) then (some (wrap64 (a1+2))) else (words_signEnd.j0 k a0 a1))))) else (none)) else (none)) else (words_signEnd.j0 k a0 a1)
end A
namespace A
open Go.RowKit B WW WL WM
attribute [local go_sem] max2_int min2_int max_two min_two max_three min_three max_four min_four
def errW:Option Int→Value
 |none=>.nilIface
 |some c=>.iface 0 (.int .i64 c)
theorem errW_none:errW none=.nilIface:=rfl
theorem errW_some (c:Int):errW (some c)=.iface 0 (.int .i64 c):=rfl
theorem info5:(Tryd.prog.info? 5).map (fun i=>(i.zero,i.size,i.bytes))=some (some (.int .u8 0),1,1):=by kernel_rfl
structure S35 where
  f0:ByteArray
  f1:ByteArray
def z35:S35:=⟨(⟨#[]⟩:ByteArray),(⟨#[]⟩:ByteArray)⟩
def k35:Kd S35:=Kd.iso (Kd.pair Kd.string Kd.string) (fun x:S35=>(x.f0,x.f1))
theorem k35_open {w:World} {x:S35} {cs:List Value} (h:k35.K w x cs):cs=[.string x.f0,.string x.f1]:=by
  obtain ⟨_,_,rfl,rfl,rfl⟩:=h;exact rfl
def rd_T35 (xs:List S35) (i:Int):S35:=xs.getD i.toNat z35
end A
namespace WW
open Go.RowKit
section
variable {α:Type} {enc:α→Value} {d:α}
theorem ReadsOf.below {w w1:World} {A:Option Addr} {n:Nat} {xs:List α} (h:ReadsOf enc d w A n xs) (hb:Below w.heap.size w w1):ReadsOf enc d w1 A n xs :=
  ⟨h.1,h.2.1,fun hn=>by
    obtain ⟨ad,e,hc⟩:=h.2.2 hn;exact ⟨ad,e,fun j hj=>pw_cell_below hb (hc j hj)⟩⟩
end
end WW
namespace WW
open Go.RowKit
section
variable {α:Type} {R R':α→List Value→Prop} {e:TypeId} {size:Nat} {w w1:World} {base:Nat} {v:Value} {ps:List α}
theorem OwnRow.below (h:OwnRow R e size w base v ps) (hb:Below w.heap.size w w1):OwnRow R e size w1 base v ps:=by
  obtain ⟨inner,ho,hr⟩:=h;exact ⟨inner,pw_own_below ho hb,hr⟩
end
end WW
namespace WW
open Go.RowKit
section
variable {P:Program} {tmps:Array Value} {w:World}
theorem vals_run {rs:List ResultVar} {vs:List Value} (hv:Vals P tmps w rs vs) (f:ResultVar→Sem Value) (hf:∀ u,f (.tmp u)=pure (tmps.getD u undef)) (hc:∀ a t,f (.cell a t)=(do loadVar t (← asAddr (tmps.getD a undef)))) :
    (rs.mapM f).run P w=.ok vs w:=by
  induction hv with
 |nil=>simp
 |tmp h ih=>simp [List.mapM_cons,hf,ih]
 |cell g t cs fr d hp hg hu hd hi h ih =>
    rw [List.mapM_cons,hc,hp];simp [asAddr,run_loadVar_row w g t _ cs fr d hg hu hd hi,ih]
theorem results_list {fn:Func} {rs:List ResultVar} {vs:List Value} (h:fn.results=rs.toArray) (hl:vs.length≠1) (hv:Vals P tmps w rs vs):(results fn tmps).run P w=.ok (.tuple vs.toArray) w:=by
  unfold results;rw [h,List.mapM_toArray];simp only [Sem.run_bind,Sem.run_map]
  rw [vals_run hv]
  · simp [hl]
  · intro u
    rfl
  · intro a t
    rfl
end
end WW
namespace WW
open Go.RowKit
section
variable {P:Program} {ops:Array Oper} {rest:List Oper} {o:Oper} {a:Act} {Q:Exit→Act→World→Prop}
theorem box_event {W:World} (hgd:o.guard=none) {N:Tmp} (_hd:o.dst=some N) {cs:Array Value} {t:TypeId}
    (hrun:(execOp a.eval o).run P W=.ok (.value (.pointer (some ⟨W.heap.size,0,none⟩))) (W.alloc (.cells cs t (0,0))))
    (h:∀ g,g=W.heap.size→∀ w1,w1.heap[g]?=some (.cells cs t (0,0))→Below W.heap.size W w1→wpList P ops Q rest (a.put o.dst (.pointer (some ⟨g,0,none⟩))) w1):wpList P ops Q (o :: rest) a W :=
  Kd.event_run hgd hrun (h _ rfl _ (blk_new W _) (below_alloc (Below.refl _ _) _))
end
end WW
namespace WW
open Go.RowKit
namespace Kd
theorem R_appended {α:Type} {d:Kd α} {e base:Nat} {ok okp:Nat→Prop} {W w1:World} {v v1:Value} {xs:List α} {p:α} {inner cs:List Value} (h0:∀ k,v.ownBlock=some k→ok k) (hr:Reps (d.M W base (fun k=>ok k∧some k≠v.ownBlock)) d.sz xs inner) (hp:d.M W base okp p cs) (hokp:∀ k,okp k→ok k∧some k≠v.ownBlock) (hfresh:∀ k,W.heap.size≤k→ok k)
    (hown:w1.ownsRow base e d.sz v1 (xs.length+1) (inner++cs)) (hg:W.grownBy w1 v.ownBlock) (hat:v1.ownBlock=v.ownBlock∨∃ b,v1.ownBlock=some b∧W.heap.size≤b):d.R e w1 base ok v1 (xs++[p]):=by
  have hne:∀ k,some k≠v.ownBlock→k < W.heap.size→some k≠v1.ownBlock:=by
    intro k hk hlt;rcases hat with hat|⟨b,hb,hle⟩
    · rw [hat];exact hk
    · rw [hb]
      intro he;injection he with he
      omega
  have step:∀ {q:α} {c:List Value} {o:Nat→Prop},d.M W base o q c→(∀ k,o k→ok k∧some k≠v.ownBlock)→d.M w1 base (fun k=>ok k∧some k≠v1.ownBlock) q c:=by
    intro q c o hq ho;have h1:=d.M_move (w1:=w1) (fun k hk=>hg.block k hk.2.2.1 (ho k hk.1).2) (d.M_bound hq);exact d.M_mono (fun k hk=>⟨(ho k hk.1).1,hne k (ho k hk.1).2 hk.2.2.1⟩) h1
  refine ⟨fun k hk=>?_,inner++cs,by rw [List.length_append,List.length_singleton];exact hown,?_⟩
  · rcases hat with hat|⟨b,hb,hle⟩
    · exact h0 k (hat ▸ hk)
    · rw [hb] at hk
      injection hk with hk
      exact hfresh k (by omega)
  · exact (hr.imp_ (fun _ _ hq=>step hq (fun _ hk=>hk))).snoc (step hp hokp) (d.K_len (d.K_of_M hp))
end Kd
end WW
namespace WW
open Go.RowKit
namespace Kd
section
variable {P:Program} {ops:Array Oper} {rest:List Oper} {o:Oper} {a:Act} {Q:Exit→Act→World→Prop} {α:Type}
theorem R_append (d:Kd α) {w0 W:World} (base:Nat) (hgd:o.guard=none) (s x:Operand) (t e:TypeId) (z:Value) (bytes:Nat)
    (ho:o.op=.call { callee:=.builtin .append,args:=#[s,x],argTypes:=#[t,t] })
    (ht:P.underlying t=some (.slice e)) (hinfo:(P.info? e).map (fun i=>(i.zero,i.size,i.bytes))=some (some z,d.sz,bytes)) (hz:z.cells.size=d.sz) (hs0:0 < d.sz) (hb0:0 < bytes)
    (v:Value) (xs:List α) (p:α) (cs:List Value) (ok okp:Nat→Prop) (hs:a.eval s=v) (hx:a.eval x=.slice (some ⟨W.heap.size,0,none⟩) 1 1) (hp:d.M W base okp p cs) (hokp:∀ k,okp k→ok k∧some k≠v.ownBlock) (hfresh:∀ k,W.heap.size≤k→ok k)
    (HO:d.R e W base ok v xs) (HB:Below base w0 W) (hbase:base≤W.heap.size) (hl:(xs.length+1) * bytes≤140737488355328)
    (h:∀ v1 w1,d.R e w1 base ok v1 (xs++[p])→Below base w0 w1→W.grownBy w1 v.ownBlock→(v1.ownBlock=v.ownBlock∨∃ b,v1.ownBlock=some b∧W.heap.size≤b)→wpList P ops Q rest (a.put o.dst v1) w1) :
    wpList P ops Q (o :: rest) a (W.alloc (.cells cs.toArray e)):=by
  obtain ⟨h0,inner,hown,hr⟩:=HO;refine print_append_cells base hgd s x t e z d.sz bytes ho ht hinfo hz hs0 hb0 v xs.length inner cs hs hx (d.K_len (d.K_of_M hp)) (d.K_one (d.K_of_M hp)) hown HB hbase hl ?_;intro v1 w1 hown1 hb1 hg1 hat1;exact h v1 w1 (R_appended h0 hr hp hokp hfresh hown1 hg1 hat1) hb1 hg1 hat1
end
end Kd
end WW
namespace B
open Go.RowKit WW WL WM
theorem bdI {α β:Type} {x:Option α} {f:α→Option β} {r:β} (h:x.bind f=some r):∃ a,Aside0 (x=some a)∧f a=some r:=by
  obtain ⟨a,h1,h2⟩:=Option.bind_eq_some_iff.mp h;exact ⟨a,⟨h1⟩,h2⟩
end B
namespace WW
open Go.RowKit
section
variable {w W W2:World} {S S2 S':Nat→Prop}
theorem Kept.below (h:Kept w W S) (hb:Below W.heap.size W W2):Kept w W2 S:=h.then_ (Kept.of_below hb (fun _=>False)) (fun _ hk=>hk.elim)
end
end WW
namespace WW
open Go.RowKit
namespace Kd
section
variable {α β:Type} {d:Kd α} {e base base' n m c g N' lo hi:Nat} {ok ok' S:Nat→Prop} {w W w1:World} {A:Option Addr} {ad:Addr} {u v v1:Value} {xs:List α}
theorem V_nil (d:Kd α) (e:Nat) (W:World) (base:Nat) (ok:Nat→Prop):V d e W base ok (.slice none 0 0) []:=⟨none,0,rfl,Nat.le_refl _,F_nil d W ok⟩
end
end Kd
end WW
namespace WW
open Go.RowKit
namespace Kd
section
variable {α:Type} {d:Kd α} {e base n cc g:Nat} {ok ok' okp S:Nat→Prop} {w w1 W W1:World} {A:Option Addr} {u v v1:Value} {xs:List α} {x:α} {c:List Value}
def N {α:Type} (d:Kd α) (e:Nat) (w:World) (base:Nat) (ok:Nat→Prop) (v:Value) (xs:List α):Prop :=
  (∀ k,v.ownBlock=some k→ok k)∧∃ rows:List (List Value),rows.length=xs.length∧(raw d.sz).R e w base (fun k=>some k=v.ownBlock) v rows∧∀ (j:Nat) (x:α) (c:List Value),xs[j]?=some x→rows[j]?=some c→FK d w (fun k=>ok k∧some k≠v.ownBlock) x c
theorem R_N (h:d.R e w base ok v xs):N d e w base ok v xs:=by
  obtain ⟨h0,inner,ho,hr⟩:=h;refine ⟨h0,chunks d.sz xs.length inner,chunks_length _ _ _,⟨fun k hk=>hk.symm,inner,by rw [chunks_length];exact ho,reps_raw hr (fun x c hp=>⟨d.K_len (d.K_of_M hp),d.K_one (d.K_of_M hp)⟩)⟩,fun j x c hx hc=>?_⟩;rw [chunks_get hc];exact FK_of_M (hr.2 j x hx)
end
end Kd
end WW
namespace WW
open Go.RowKit
namespace Foot
variable {P Q:World→Prop} {W W1:World} {ok ok':Nat→Prop}
theorem step (h:Foot P W ok) (hm:∀ k,ok k→k < W.heap.size→W1.heap[k]?=W.heap[k]?):Foot P W1 ok:=fun W' hW=>h W' (fun k hk hlt=>(hW k hk (heap_lt (hm k hk hlt) hlt)).trans (hm k hk hlt))
end Foot
end WW
namespace A
open Go.RowKit B WW WL WM
theorem zq4 {P:Prop} (h:P:=by first|rfl|(simp [errW_none,errW_some] <;> rfl)|(simp [*,errW_none,errW_some] <;> rfl)):P:=h
theorem zq81 {P:Prop} (h:P:=by repeat (first|exact HD.out|apply Drawn0.step)):P:=h
end A
namespace WL
open WW (Aside0)
section
variable {md:Region.Mode} {ops:Array Oper} {T:Bool×List (List Nat×List Nat)} {l l' li lj lk:Array Bool} {ds:List Nat} {i j k:Nat}
theorem free_eq:Region.free md ops l i=freeT (rtab md ops).2 l.toList i:=by
  unfold Region.free freeT
  cases h:ops[i]? with
 |none=>rw [rtab_none h]
 |some oi =>
    rw [rtab_some h];simp only [clashOf]
    rw [List.all_filter];congr 1
    funext j
    rw [gd]
    cases hj:ops[j]? with
   |none=>cases (j == i) <;> cases (l.toList.getD j true) <;> simp
   |some oj =>
      cases (j == i) <;> cases (l.toList.getD j true) <;> cases (oj.after.any (fun e=>Region.binds md e && e.on == i) || oi.apart ops oj) <;> simp_all
end
end WL
namespace WL
section
variable {P:Program} {ops:Array Oper} {Q:Exit→Act→World→Prop} {md:Region.Mode} {S:World→Prop} {ds:List Nat}
theorem AllReadyL.nil {fuel:Nat} {listed:Array Bool} {a:Act} {w:World}:AllReadyL P md ops Q S ds fuel listed a w []:=fun _ h=>by cases h
end
end WL
namespace WL
open WW (Aside0)
section
variable {md:Region.Mode} {ops:Array Oper} {T:Bool×List (List Nat×List Nat)} {l l' li lj lk:Array Bool} {ds:List Nat} {i j k:Nat}
theorem needs_all (o:Oper) (p:Nat→Bool):o.after.all (fun e=>!Region.binds md e || p e.on)=(needsOf md o).all p:=by
  unfold needsOf;rw [← Array.all_toList];induction o.after.toList with
 |nil=>rfl
 |cons e r ih =>
    rw [List.all_cons,ih,List.filter_cons]
    cases h:Region.binds md e <;> simp
theorem needs_any (o:Oper) (p:Nat→Bool):o.after.any (fun e=>Region.binds md e && p e.on)=(needsOf md o).any p:=by
  unfold needsOf;rw [← Array.any_toList];induction o.after.toList with
 |nil=>rfl
 |cons e r ih =>
    rw [List.any_cons,ih,List.filter_cons]
    cases h:Region.binds md e <;> simp
theorem readyAt_eq:readyAt (rtab md ops).2 l.toList i=(!l.getD i true && ((ops[i]?).map (·.after.all fun e=>!Region.binds md e || l.getD e.on false)).getD false):=by
  unfold readyAt;rw [gd]
  cases h:ops[i]? with
 |none=>rw [rtab_none h];rfl
 |some o =>
    rw [rtab_some h];simp only [Option.map_some,Option.getD_some]
    rw [← needs_all];simp only [gd]
theorem ready_eq:Region.ready md ops l=readyT (rtab md ops).2 l.toList:=by
  unfold Region.ready readyT;rw [rtab_length];refine List.filter_congr (fun i _=>?_);rw [readyAt_eq]
theorem closed_eq:Region.closedB md ops l=closedT (rtab md ops).2 l.toList:=by
  unfold Region.closedB closedT;rw [rtab_length];congr 1
  funext j
  rw [gd]
  cases h:ops[j]? with
 |none=>rw [rtab_none h]
 |some o =>
    rw [rtab_some h];simp only
    rw [← needs_all];simp only [gd]
theorem reach_eq:∀ (fuel d:Nat),Region.reachB md ops i fuel d=reachT (rtab md ops).2 i fuel d
 |0,_=>rfl
 |fuel+1,d=>by
    unfold Region.reachB reachT
    cases h:ops[d]? with
   |none=>rw [rtab_none h]
   |some o =>
      rw [rtab_some h];simp only
      rw [← needs_any];congr 1
      funext e
      rw [reach_eq fuel]
theorem last_eq:Region.lastB md ops l ds i=lastT (rtab md ops).2 l.toList ds i:=by
  unfold Region.lastB lastT;rw [rtab_length];congr 1
  funext d
  rw [gd,reach_eq]
theorem readyAt_mem (h:readyAt T.2 l.toList i=true) (hT:rtab md ops=T):(Region.ready md ops l).contains i=true:=by
  subst hT;rw [ready_eq];unfold readyT;rw [List.contains_iff_mem,List.mem_filter,List.mem_range];refine ⟨?_,h⟩;unfold readyAt at h;rw [Bool.and_eq_true] at h
  cases hq:(rtab md ops).2[i]? with
 |none=>rw [hq] at h;simp at h
 |some r=>exact (List.getElem?_eq_some_iff.1 hq).1
theorem any_of (hT:rtab md ops=T) (h:anyT T l.toList l'.toList i=true):anyB md ops l l' i=true:=by
  simp only [anyT,Bool.and_eq_true] at h
  obtain ⟨⟨⟨h1,h2⟩,h3⟩,h4⟩:=h;have h5:=readyAt_mem h3 hT;have h6:=set_of h4;subst hT;simp only [anyB,Bool.and_eq_true]
  exact ⟨⟨⟨h1,by rw [free_eq];exact h2⟩,h5⟩,h6⟩
theorem take_of (hT:rtab md ops=T) (h:takeT T ds l.toList l'.toList i=true):takeB md ops ds l l' i=true:=by
  simp only [takeT,Bool.and_eq_true] at h
  obtain ⟨⟨⟨⟨⟨h1,h2⟩,h3⟩,h4⟩,h5⟩,h6⟩:=h;have h7:=readyAt_mem h3 hT;have h8:=set_of h6;subst hT;simp only [takeB,Bool.and_eq_true]
  exact ⟨⟨⟨⟨⟨h1,by rw [free_eq];exact h2⟩,h7⟩,by rw [closed_eq];exact h4⟩,by rw [last_eq];exact h5⟩,h8⟩
theorem done_of (hT:rtab md ops=T) (h:(readyT T.2 l.toList == [])=true):(Region.ready md ops l == [])=true:=by
  subst hT;rw [ready_eq];exact h
theorem take_ofW {B:List Nat} (hT:rtab md ops=T) (hB:waitsOk T.2 B=true) (h:takeW T B ds l.toList l'.toList i=true):takeB md ops ds l l' i=true:=by
  refine take_of hT ?_;simp only [takeW,takeT,Bool.and_eq_true] at h ⊢
  obtain ⟨⟨⟨⟨⟨h1,h2⟩,h3⟩,h4⟩,h5⟩,h6⟩:=h;refine ⟨⟨⟨⟨⟨h1,h2⟩,h3⟩,h4⟩,?_⟩,h6⟩;unfold lastW at h5;unfold lastT;rw [List.all_eq_true] at h5 ⊢;intro d hd;have h7:=h5 d hd;rw [Bool.or_eq_true,Bool.and_eq_true,decide_eq_true_eq] at h7;rcases h7 with h7|⟨h8,h9⟩
  · rw [h7,Bool.true_or]
  · rw [reach_bit hB _ d h8 h8 h9,Bool.or_true]
end
end WL
namespace B
open Go.RowKit WW WL WM
section
variable {P:Program} {md:Region.Mode} {ops:Array Oper} {Q:Exit→Act→World→Prop} {S:World→Prop} {ds:List Nat} {T:Bool×List (List Nat×List Nat)} {BB:List Nat} {oi:Oper} {v:Value} {fuel:Nat} {l l':Array Bool} {a a':Act} {w:World}
theorem pA (i N:Nat) (hT:rtab md ops=T) (h:wpAnyLast P md ops Q S ds fuel l' a' w)
    (hi:ops[i]?=some oi:=by rfl) (hN:oi.dst=some N:=by rfl) (hl:l.setIfInBounds i true=l':=by (simp only [List.setIfInBounds_toArray,List.set_cons_zero,List.set_cons_succ];rfl))
    (hc:anyT T l.toList l'.toList i=true:=by kernel_rfl) (hQ:∀ c a w,Q (.panic c) (a.put oi.dst v) w→Q (.panic c) a w:=by exact (fun _ _ _ h=>h)) (hg:Region.wanted oi (yielded ops a.tmps)=true:=by rfl)
    (hy:∀ w,(execOp a.eval oi).run P w=.ok (.value v) w:=by (intro w';go_simp;with_reducible rfl))
    (ha:a.put (some N) v=a':=by (simp only [Act.put,List.setIfInBounds_toArray,List.set_cons_zero,List.set_cons_succ,i64_w,i32_w];rfl)):wpAnyLast P md ops Q S ds (fuel+1) l a w :=
  pure_ l' hi hN (any_of hT hc) hQ (.inl ⟨hg,hy⟩) ha h
theorem tA (i N:Nat) (hT:rtab md ops=T) (hB:waitsOk T.2 BB=true) (hS:S w) (h:wpAnyLast P md ops Q S ds fuel l' a' w)
    (hi:ops[i]?=some oi:=by rfl) (hN:oi.dst=some N:=by rfl) (hl:l.setIfInBounds i true=l':=by (simp only [List.setIfInBounds_toArray,List.set_cons_zero,List.set_cons_succ];rfl))
    (hc:takeW T BB ds l.toList l'.toList i=true:=by kernel_rfl) (hQ:∀ c a w,Q (.panic c) (a.put oi.dst v) w→Q (.panic c) a w:=by exact (fun _ _ _ h=>h)) (hg:Region.wanted oi (yielded ops a.tmps)=true:=by rfl)
    (hy:∀ w,S w→(execOp a.eval oi).run P w=.ok (.value v) w:=by (intro w' hs_;(try dsimp only at hs_);(try go_split_ands);go_simp;with_reducible rfl))
    (ha:a.put (some N) v=a':=by (simp only [Act.put,List.setIfInBounds_toArray,List.set_cons_zero,List.set_cons_succ,i64_w,i32_w];rfl)):wpAnyLast P md ops Q S ds (fuel+1) l a w :=
  take_ l' hi hN (take_ofW hT hB hc) hQ (.inl ⟨hg,hy⟩) hS ha h
theorem oA (i N:Nat) (hT:rtab md ops=T) (h:wpAnyLast P md ops Q S ds fuel l' a' w)
    (hi:ops[i]?=some oi:=by rfl) (hN:oi.dst=some N:=by rfl) (hl:l.setIfInBounds i true=l':=by (simp only [List.setIfInBounds_toArray,List.set_cons_zero,List.set_cons_succ];rfl))
    (hc:anyT T l.toList l'.toList i=true:=by kernel_rfl) (hQ:∀ c a w,Q (.panic c) (a.put oi.dst undef) w→Q (.panic c) a w:=by exact (fun _ _ _ h=>h)) (hg:Region.wanted oi (yielded ops a.tmps)=false:=by rfl)
    (ha:a.put (some N) undef=a':=by (simp only [Act.put,List.setIfInBounds_toArray,List.set_cons_zero,List.set_cons_succ,i64_w,i32_w];rfl)):wpAnyLast P md ops Q S ds (fuel+1) l a w :=
  pure_ l' hi hN (any_of hT hc) hQ (.inr ⟨hg,rfl⟩) ha h
end
end B
namespace B
open Go.RowKit
structure WordW (W:World) (g:Nat) (kind:Int) (S:ByteArray) (i pa pe:Int):Prop where
  k0:W.cell? ⟨g,0,none⟩=some (.int .i64 kind)
  k1:W.cell? ⟨g,1,none⟩=some (.string S)
  k2:W.cell? ⟨g,2,none⟩=some (.int .i64 i)
  k3:W.cell? ⟨g+1,0,none⟩=some (.int .i64 pa)
  k4:W.cell? ⟨g+1,1,none⟩=some (.int .i64 pe)
  f0:W.frozen? ⟨g,0,none⟩=false
  f1:W.frozen? ⟨g,1,none⟩=false
  f2:W.frozen? ⟨g,2,none⟩=false
  f3:W.frozen? ⟨g+1,0,none⟩=false
  f4:W.frozen? ⟨g+1,1,none⟩=false
theorem WordW.s {W:World} {g:Nat} {kind:Int} {S:ByteArray} {i pa pe:Int} (h:WordW W g kind S i pa pe) (S':ByteArray):WordW (W.setCell ⟨g,1,none⟩ (.string S')) g kind S' i pa pe :=
  ⟨has_other (by simp) h.k0,has_same ⟨_,h.k1⟩,has_other (by simp) h.k2,has_other (by simp) h.k3,has_other (by simp) h.k4,by rw [World.frozen?_setCell];exact h.f0,by rw [World.frozen?_setCell];exact h.f1,by rw [World.frozen?_setCell];exact h.f2,by rw [World.frozen?_setCell];exact h.f3,by rw [World.frozen?_setCell];exact h.f4⟩
theorem WordW.e {W:World} {g:Nat} {kind:Int} {S:ByteArray} {i pa pe:Int} (h:WordW W g kind S i pa pe) (x:Int):WordW (W.setCell ⟨g+1,1,none⟩ (.int .i64 x)) g kind S i pa x :=
  ⟨has_other (by simp) h.k0,has_other (by simp) h.k1,has_other (by simp) h.k2,has_other (by simp) h.k3,has_same ⟨_,h.k4⟩,by rw [World.frozen?_setCell];exact h.f0,by rw [World.frozen?_setCell];exact h.f1,by rw [World.frozen?_setCell];exact h.f2,by rw [World.frozen?_setCell];exact h.f3,by rw [World.frozen?_setCell];exact h.f4⟩
end B
namespace A
open Go.RowKit B WW WL WM
attribute [local go_sem] max2_int min2_int max_two min_two max_three min_three max_four min_four
set_option maxHeartbeats 8000000
set_option maxRecDepth 100000
theorem ba_nil {s:ByteArray} (h:s.size=0):s=⟨#[]⟩:=by
 cases s with|mk d=>congr 1;exact Array.eq_empty_of_size_eq_zero h
def dims_Right.l0:Nat→List (S35)→List (S35)→Int→Int→Option (Bool)
|0,_,_,_,_=>none
|k+1,x0,x8,x9,x10=>if x10 < x9 then (if 0≤x10 then (if x10 < (x8.length:Int) then ((dims_codes.f ((rd_T35 x8 x10).f0) ((rd_T35 x8 x10).f1)).bind fun t110=>(if t110=true then (if x10 > 0 then (if 0≤(wrap64 (x10 - 1)) then (if (wrap64 (x10 - 1)) < (x0.length:Int) then (if ((Op.bytesLess (((rd_T35 x0 (wrap64 (x10 - 1))).f0).toList) (((rd_T35 x8 x10).f0).toList))=true) then (dims_Right.l0 k x0 x8 x9 (wrap64 (x10+1))) else (some false)) else (none)) else (none)) else (dims_Right.l0 k x0 x8 x9 (wrap64 (x10+1)))) else (some false))) else (none)) else (none)) else (some true)
def dims_Right.f (k:Nat) (l0:List (S35)):Option (Bool):=if (l0.length:Int) > 6 then (some false) else (dims_Right.l0 k l0 l0 (l0.length:Int) 0)
def words_numberEnd.l0:Nat→ByteArray→Int→Option Int
 |0,_,_=>none
 |k+1,s,i=>if i < (s.size:Int) then
      (if bt s i=46∨bt s i=47∨bt s i=45 then (words_digitAt.f s (i+1)).bind fun b=>if b=true then words_numberEnd.l0 k s (i+1) else some i
       else (words_letter.f (bt s i)).bind fun b=>if b=true then words_numberEnd.l0 k s (i+1) else (words_digit.f (bt s i)).bind fun d=>if d=true then words_numberEnd.l0 k s (i+1) else some i)
      else some i
def words_numberEnd.f (k:Nat) (s:ByteArray) (i:Int):Option Int:=if 0≤i∧i≤140737488351232∧s.size≤140737488351232 then words_numberEnd.l0 k s (i+1) else none
end A
namespace B
open Go.Lib Go.RowKit WW
structure DInv (c R0 W k Q r:Nat):Prop where
  le:k≤64
  eq:R0 * 2 ^ (64 - k)+W / 2 ^ k=Q * c+r
  lt:r < c
  lt0:R0 < c
  ltW:W < 18446744073709551616
theorem DInv.done {c R0 W Q r:Nat} (h:DInv c R0 W 0 Q r):Q=(R0 * 18446744073709551616+W) / c∧r=(R0 * 18446744073709551616+W) % c:=by
  have h3:=h.eq;rw [Nat.pow_zero,Nat.div_one,Nat.sub_zero] at h3;have h4:R0 * 18446744073709551616+W=Q * c+r:=h3;rw [h4];have hc:0 < c:=Nat.lt_of_le_of_lt (Nat.zero_le _) h.lt0;constructor
  · rw [Nat.add_comm,Nat.add_mul_div_right _ _ hc,Nat.div_eq_of_lt h.lt,Nat.zero_add]
  · rw [Nat.add_comm,Nat.add_mul_mod_self_right,Nat.mod_eq_of_lt h.lt]
end B
namespace A
open Go.RowKit B WW WL WM
theorem zq7 {P:Prop} (h:P:=by first|rfl|(simp;done)|(simp [*];done)|(simp;generalize ByteArray.toList _=l_;cases l_ <;> rfl)):P:=h
theorem zq66 {P:Prop} (h:P:=by (try simp only [List.map_toArray,List.map_cons,List.map_nil]);first|done|rfl|(simp only [List.length_drop,List.length_take];rfl)):P:=h
end A
namespace B
open Go.RowKit WW WL WM
section
variable {P:Program} {ops:Array Oper} {rest:List Oper} {o:Oper} {Q:Exit→Act→World→Prop} {a:Act} {w V W w1:World} {g g':Nat}
theorem gL (N:Tmp) {f:FuncId} {fn:Func} (hf:P.funcs[f]?=some fn) (args:Array Value) {as_:Array Operand} {ts:Array TypeId}
    (h:Calls P f args w fun e w'=>∃ v,e=.returned v∧wpList P ops Q rest (a.put (some N) v) w')
    (hd : o.dst = some N := by rfl) (hg : o.guard = none := by rfl) (hname : (fn.name == "runtime.NumGoroutine") = false := by kernel_rfl) (hb : fn.body.isSome = true := by rfl)
    (hop:o.op=.call { callee:=.value (.func f),args:=as_,argTypes:=ts }:=by rfl)
    (hargs:as_.map a.eval=args:=by (try simp only [List.map_toArray,List.map_cons,List.map_nil]);first|done|rfl|(simp only [List.length_drop,List.length_take];rfl)):wpList P ops Q (o :: rest) a w :=
  goesL_ (some N) hd hg hf hname hb args hop hargs h
end
end B
namespace A
open Go.RowKit B WW WL WM
attribute [local go_sem] max2_int min2_int max_two min_two max_three min_three max_four min_four
theorem at_T35 {w:World} {A:Option Addr} {n:Nat} {xs:List S35} (h:Kd.C k35 w A n xs) (i:Int) (h0:0≤i) (h1:i < n):∃ ad ,A=some ad∧w.cell? (ad.add (i.toNat * 2))=some (.string (rd_T35 xs i).f0)∧w.cell? ⟨(ad.add (i.toNat * 2)).block,(ad.add (i.toNat * 2)).off+1,none⟩=some (.string (rd_T35 xs i).f1):=by
  obtain ⟨ad,c,e,_,hK,hc0⟩:=Kd.C_get h z35 i h0 h1;have hc:∀ j u,c[j]?=some u→w.cell? (ad.add (i.toNat * 2+j))=some u:=hc0;obtain rfl:=k35_open hK;exact ⟨ad,e,hc 0 _ rfl,by rw [← add_field _ _ 1 (by omega)];exact hc 1 _ rfl⟩
end A

end Go.Proofs.YtlblkojjpagbkaaDoor