-- By pack.py, a program of this session's.
import Derived.Test.YtkbgkekegjfkfaaGreatDoorZ2
import Derived.Test.YtkbgkekegjfkfaaGreatDoorZ3
set_option linter.unusedVariables false
set_option linter.unusedSimpArgs false
namespace Go.Proofs.YtkbgkekegjfkfaaGreatDoor
namespace B
open Go.RowKit WW WL WM
section
variable {P:Program} {ops:Array Oper} {rest:List Oper} {o:Oper} {Q:Exit→Act→World→Prop} {a:Act} {w V W w1:World} {g g':Nat}
theorem bkm {ob:Obj} (B:Aside0 (V.heap[g]?=some ob)) (hb:Below W.heap.size W w1) (hs:V.heap[g]?=some ob→W.heap[g]?=some ob:=by (intro h;(with_reducible repeat (first|refine blk_drewN ?_ _|refine blk_drew ?_|refine blk_alloc ?_ _));exact h)):Aside0 (w1.heap[g]?=some ob):=⟨blk_below (hs B.out) hb⟩
theorem nlm {ob:Obj} (hg:g'=W.heap.size) (B:Aside0 (V.heap[g]?=some ob)) (hs:V.heap[g]?=some ob→W.heap[g]?=some ob:=by (intro h;(with_reducible repeat (first|refine blk_drewN ?_ _|refine blk_drew ?_|refine blk_alloc ?_ _));exact h)):Aside0 (g≠g'):=⟨by rw [hg];exact Nat.ne_of_lt (blk_lt (hs B.out))⟩
theorem ngm {ob:Obj} (hg:g'=W.heap.size) (B:Aside0 (V.heap[g]?=some ob)) (hs:V.heap[g]?=some ob→W.heap[g]?=some ob:=by (intro h;(with_reducible repeat (first|refine blk_drewN ?_ _|refine blk_drew ?_|refine blk_alloc ?_ _));exact h)):Aside0 (g'≠g):=⟨by rw [hg];exact Nat.ne_of_gt (blk_lt (hs B.out))⟩
theorem bxA (N:Tmp) (cs:Array Value) (t:TypeId)
    (h:∀ g,g=W.heap.size→∀ w1,w1.heap[g]?=some (.cells cs t (0,0))→Below W.heap.size W w1→wpList P ops Q rest (a.put o.dst (.pointer (some ⟨g,0,none⟩))) w1)
    (hgd:o.guard=none:=by rfl) (hd:o.dst=some N:=by rfl) (hrun:(execOp a.eval o).run P W=.ok (.value (.pointer (some ⟨W.heap.size,0,none⟩))) (W.alloc (.cells cs t (0,0))):=by first|(go_simp;done)|(go_simp;rfl)):wpList P ops Q (o :: rest) a W :=
  box_event hgd hd hrun h
theorem gL (N:Tmp) {f:FuncId} {fn:Func} (hf:P.funcs[f]?=some fn) (args:Array Value) {as_:Array Operand} {ts:Array TypeId}
    (h:Calls P f args w fun e w'=>∃ v,e=.returned v∧wpList P ops Q rest (a.put (some N) v) w')
    (hd : o.dst = some N := by rfl) (hg : o.guard = none := by rfl) (hname : (fn.name == "runtime.NumGoroutine") = false := by kernel_rfl) (hb : fn.body.isSome = true := by rfl)
    (hop:o.op=.call { callee:=.value (.func f),args:=as_,argTypes:=ts }:=by rfl)
    (hargs:as_.map a.eval=args:=by (try simp only [List.map_toArray,List.map_cons,List.map_nil]);first|done|rfl|(simp only [List.length_drop,List.length_take];rfl)):wpList P ops Q (o :: rest) a w :=
  goesL_ (some N) hd hg hf hname hb args hop hargs h
end
end B
namespace A
open Go.RowKit B WW WL WM
attribute [local go_sem] max2_int min2_int max_two min_two max_three min_three max_four min_four
set_option maxHeartbeats 8000000
set_option maxRecDepth 100000
structure RP (w:World) (bd g:Nat) (p:PR) (vC vT vW:Value):Prop where
  blk:w.heap[g]?=some (.cells (p.cells vC vT vW) 71 (0,0))
  rC:Kd.R k48 48 w bd (fun _=>True) vC p.cs
  rT:Kd.R k50 50 w bd (fun _=>True) vT p.tg
  rW:Kd.R k73 73 w bd (fun _=>True) vW p.ws
  hbd:bd≤g
theorem rf48_number.calls (a0:Int) (r:Bool) (w:World) (h:rf48_number.f a0=some r) :
  Calls Tryz.prog 35 #[.int .i64 a0] w fun e w'=>e=.returned (.bool r)∧Drawn0 w w':=by
 have H:=h;clear h;unfold rf48_number.f at H;replace H:=ifI H;rcases H with ⟨c2,H⟩|⟨c2,H⟩
 ·obtain ⟨c2b0,c2b1⟩:=eqI c2;clear c2;obtain rfl:=Option.some.inj H;go_enter Tryz.func35,Tryz.ntmps35
  go_wp2
  go_ret
  exact ⟨zq7,zq16⟩
 obtain ⟨c2b0,c2b1⟩:=neI c2;obtain rfl:=Option.some.inj H;go_enter Tryz.func35,Tryz.ntmps35
 go_wp2
 go_ret
 exact ⟨zq7,zq16⟩
theorem IsS82.grown {w0 W:World} {g:Nat} {f0:List (S73)} {f1:Int} {f2:Bool} {W1:World} {row:Option Nat} (h:IsS82 w0 W g f0 f1 f2) (hw:W.grownBy W1 row) (hne:some g≠row):IsS82 w0 W1 g f0 f1 f2:=by
 obtain ⟨A0,c0,hb,hg,hr0⟩:=h;exact ⟨A0,c0,blk_grown hb hw hne,hg,hr0⟩
theorem rf48_field.calls (a0:Int) (r:ByteArray) (w:World) (h:rf48_field.f a0=some r) :
  Calls Tryz.prog 37 #[.int .i64 a0] w fun e w'=>e=.returned (.string r)∧Below w.heap.size w w':=by
 have HB:=sd (Below.refl w.heap.size w);have H:=h;clear h;unfold rf48_field.f at H;obtain ⟨y333,hy333⟩:∃ y_:List ByteArray,y_=(([(⟨#[]⟩:ByteArray),(⟨#[97,109,111,117,110,116]⟩:ByteArray),(⟨#[114,101,102]⟩:ByteArray),(⟨#[116,101,120,116]⟩:ByteArray),(⟨#[100,97,121]⟩:ByteArray)]:List ByteArray)):=⟨_,rfl⟩
 replace H:(if 0≤a0 then (if a0 < (y333.length:Int) then (some (rdOf ByteArray.empty y333 a0)) else (none)) else (none))=some r:=by first|(rw [hy333];with_reducible exact H)|(have H2_:=(Option.bind_some _ _).symm.trans H;rw [hy333];with_reducible exact H2_)|(have H2_:=(Option.bind_some _ _).symm.trans H;with_reducible exact H2_)|with_reducible exact H|(rw [hy333];exact H)|exact H
 have Ny333:=sd hy333;clear hy333;replace H:=ifI H;rcases H with ⟨c2,H⟩|⟨c2,H⟩
 ·have c2b0:decide (0≤a0)=true:=decide_eq_true c2;clear c2;replace H:=ifI H;rcases H with ⟨c3,H⟩|⟨c3,H⟩
  ·have c3b0:decide (a0 < (y333.length:Int))=true:=decide_eq_true c3;clear c3;obtain rfl:=Option.some.inj H;go_enter Tryz.func37,Tryz.ntmps37
   go_wp2_with (first|((with_reducible refine gate_dst (N:=3) rfl ?_);refine Kd.R_lit Kd.string _ 9 ?hg (N:=3) ?hd (xs:=([(⟨#[]⟩:ByteArray),(⟨#[97,109,111,117,110,116]⟩:ByteArray),(⟨#[114,101,102]⟩:ByteArray),(⟨#[116,101,120,116]⟩:ByteArray),(⟨#[100,97,121]⟩:ByteArray)]:List ByteArray)) (inner:=[.string (⟨#[]⟩:ByteArray),.string (⟨#[97,109,111,117,110,116]⟩:ByteArray),.string (⟨#[114,101,102]⟩:ByteArray),.string (⟨#[116,101,120,116]⟩:ByteArray),.string (⟨#[100,97,121]⟩:ByteArray)]) (ok:=fun _=>True) (okp:=fun _=>True) ?hr ?hp (fun _ hk=>hk) trivial (Below.refl _ _) (Nat.le_refl _) (by simp) ?_;(case hd=>rfl);(case hg=>rfl);(case hr=>first|(go_simp;done)|(go_simp;rfl));(case hp=>exact (Reps.one (show Kd.M Kd.string _ _ _ (⟨#[]⟩:ByteArray) [.string (⟨#[]⟩:ByteArray)] from rfl) (Reps.one (show Kd.M Kd.string _ _ _ (⟨#[97,109,111,117,110,116]⟩:ByteArray) [.string (⟨#[97,109,111,117,110,116]⟩:ByteArray)] from rfl) (Reps.one (show Kd.M Kd.string _ _ _ (⟨#[114,101,102]⟩:ByteArray) [.string (⟨#[114,101,102]⟩:ByteArray)] from rfl) (Reps.one (show Kd.M Kd.string _ _ _ (⟨#[116,101,120,116]⟩:ByteArray) [.string (⟨#[116,101,120,116]⟩:ByteArray)] from rfl) (Reps.one (show Kd.M Kd.string _ _ _ (⟨#[100,97,121]⟩:ByteArray) [.string (⟨#[100,97,121]⟩:ByteArray)] from rfl) (Reps.none _ _)))))));intro v334 w4 ho5 hb hg_ hnew_;clear hg_ hnew_;(first|rw [← Ny333.out] at ho5|(simp only [Int.reduceToNat] at ho5;rw [← Ny333.out] at ho5));have HO335:=sd (Kd.R_lower ho5 (below_size zq6));replace HB:=hbm HB hb;clear hb ho5;obtain ⟨Ao6,co6,eo6⟩:=Kd.R_slice HO335.out;subst eo6;have p336:0≤(a0:Int):=od;have q336:a0 < (y333.length:Int):=od;obtain ⟨ad336,e336,hx336_0⟩:=Kd.at_string (Kd.R_reads' HO335.out).2.2 a0 p336 q336;cases e336;replace p336:=eq_true p336;replace q336:=eq_true q336))
   go_ret
   exact ⟨zq4,zq6⟩
  exact absurd H (by simp)
 exact absurd H (by simp)
end A
namespace B
open Go.RowKit WW WL WM
section
variable {P:Program} {md:Region.Mode} {ops:Array Oper} {Q:Exit→Act→World→Prop} {S:World→Prop} {ds:List Nat} {T:Bool×List (List Nat×List Nat)} {BB:List Nat} {oi:Oper} {v:Value} {fuel:Nat} {l l':Array Bool} {a a':Act} {w:World}
theorem tB (i N:Nat) (hS:S w) (h:wpAnyLast P md ops Q S ds fuel l' a' w)
    (hi:ops[i]?=some oi:=by rfl) (hN:oi.dst=some N:=by rfl) (hl:l.setIfInBounds i true=l':=by (simp only [List.setIfInBounds_toArray,List.set_cons_zero,List.set_cons_succ];rfl))
    (hc:takeB md ops ds l l' i=true:=by kernel_rfl) (hQ:∀ c a w,Q (.panic c) (a.put oi.dst v) w→Q (.panic c) a w:=by exact (fun _ _ _ h=>h)) (hg:Region.wanted oi (yielded ops a.tmps)=true:=by rfl)
    (hy:∀ w,S w→(execOp a.eval oi).run P w=.ok (.value v) w:=by (intro w' hs_;(try dsimp only at hs_);(try go_split_ands);go_simp;with_reducible rfl))
    (ha:a.put (some N) v=a':=by (simp only [Act.put,List.setIfInBounds_toArray,List.set_cons_zero,List.set_cons_succ,i64_w,i32_w];rfl)):wpAnyLast P md ops Q S ds (fuel+1) l a w :=
  take_ l' hi hN hc hQ (.inl ⟨hg,hy⟩) hS ha h
end
end B
namespace B
open Go.Lib Go.RowKit WW
theorem TabAt.below {g:Nat} {l:List Int} {w w':World} (h:TabAt g l w) (hb:Below w.heap.size w w'):TabAt g l w':=by
  refine ⟨Nat.lt_of_lt_of_le h.1 hb.size,fun i hi=>?_⟩;rw [← h.2 i hi];exact hb.cell (p:=⟨g,i,none⟩) h.1
theorem SpAt.below {w w':World} (h:SpAt w) (hb:Below w.heap.size w w'):SpAt w' :=
  ⟨Nat.lt_of_lt_of_le h.1 hb.size,fun c hc=>by rw [← h.2 c hc];exact hb.cell (p:=⟨0,c,none⟩) h.1⟩
theorem MxAt.below {w w':World} (h:MxAt w) (hb:Below w.heap.size w w'):MxAt w':=by
  obtain ⟨h1,m,hm⟩:=h;exact ⟨Nat.lt_of_lt_of_le h1 hb.size,m,by rw [← hm];exact hb.cell (p:=⟨2,0,none⟩) h1⟩
end B
namespace A
open Go.RowKit B WW WL WM
attribute [local go_sem] max2_int min2_int max_two min_two max_three min_three max_four min_four
set_option maxHeartbeats 8000000
set_option maxRecDepth 100000
theorem CEnv.below {w w':World} {g gn gs:Nat} {c:S48} (h:CEnv w g gn gs c) (hb:Below w.heap.size w w'):CEnv w' g gn gs c :=
 ⟨(hb.cell (p:=⟨g,0,none⟩) (lt_of_cell h.c0)).trans h.c0,(hb.cell (p:=⟨g,2,none⟩) (lt_of_cell h.c2)).trans h.c2,(hb.cell (p:=⟨g,3,none⟩) (lt_of_cell h.c3)).trans h.c3,(hb.cell (p:=⟨gn,0,none⟩) (lt_of_cell h.fn)).trans h.fn,(hb.cell (p:=⟨gs,0,none⟩) (lt_of_cell h.fs)).trans h.fs⟩
theorem RP.below {w w':World} {bd g:Nat} {p:PR} {vC vT vW:Value} (h:RP w bd g p vC vT vW) (hb:Below w.heap.size w w'):RP w' bd g p vC vT vW :=
  ⟨blk_below h.blk hb,Kd.R_below h.rC hb,Kd.R_below h.rT hb,Kd.R_below h.rW hb,h.hbd⟩
theorem FP.below {bd g:Nat} {vC vT vW:Value} {w w1 w2:World} (h:FP bd g vC vT vW w w1) (hb:Below w1.heap.size w1 w2) (hbd:bd≤w.heap.size):FP bd g vC vT vW w w2 :=
  ⟨h.b.trans ⟨hb.os,hb.tape,hb.output,hb.size,fun i hi=>hb.block i (Nat.lt_of_lt_of_le hi (Nat.le_trans hbd h.b.size))⟩,fun i h1 h2 h3 h4 h5=>(hb.block i (Nat.lt_of_lt_of_le h1 h.b.size)).trans (h.fr i h1 h2 h3 h4 h5)⟩
theorem IsS82.below {w0 W:World} {g:Nat} {f0:List (S73)} {f1:Int} {f2:Bool} {W1:World} (h:IsS82 w0 W g f0 f1 f2) (hw:Below W.heap.size W W1):IsS82 w0 W1 g f0 f1 f2:=h.grown (grown_of_below hw none) (by simp)
theorem IsS82.alloc {w0 W:World} {g:Nat} {f0:List (S73)} {f1:Int} {f2:Bool} (h:IsS82 w0 W g f0 f1 f2) (o:Obj):IsS82 w0 (W.alloc o) g f0 f1 f2:=h.below (below_alloc (Below.refl _ _) o)
end A

end Go.Proofs.YtkbgkekegjfkfaaGreatDoor