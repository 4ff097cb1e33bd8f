-- By pack.py, a program of this session's.
import Derived.Test.YtlblkojjpagbkaaDoorZ0
import Derived.Test.YtlblkojjpagbkaaDoorZ1
set_option linter.unusedVariables false
set_option linter.unusedSimpArgs false
namespace Go.Proofs.YtlblkojjpagbkaaDoor
namespace B
open Go.Lib Go.RowKit WW
theorem ret_int {k:IntKind} {a b:Int} (h:a=b):Ending.returned (.int k a)=.returned (.int k b):=by rw [h]
def trow (u a:Nat):Array Value:=Array.ofFn (n:=20) fun t=>if a≤t.val then .int .u8 ((48+u / 10 ^ (19 - t.val) % 10:Nat):Int) else .int .u8 0
theorem trow_size (u a:Nat):(trow u a).size=20:=by simp [trow]
theorem trow_at (u a i:Nat) (h:i < 20):(trow u a)[i]?=some (.int .u8 (if a≤i then ((48+u / 10 ^ (19 - i) % 10:Nat):Int) else 0)):=by
  simp only [trow,Array.getElem?_ofFn,h,dif_pos]
  split <;> rfl
theorem trow_start (u:Nat):trow u 20=Array.replicate 20 (.int .u8 0):=by
  apply Array.ext_getElem?;intro i;by_cases h:i < 20
  · rw [trow_at u 20 i h,if_neg (by omega),Array.getElem?_replicate,if_pos h]
  · rw [Array.getElem?_eq_none (by simp [trow_size];omega),Array.getElem?_eq_none (by simp;omega)]
theorem trow_set (u a k:Nat) (v:Int) (h:a+k=19) (hv:v=((48+u / 10 ^ k % 10:Nat):Int)):(trow u (a+1)).setIfInBounds a (.int .u8 v)=trow u a:=by
  apply Array.ext_getElem?;intro i;by_cases hi:i < 20
  · rw [Array.getElem?_setIfInBounds,trow_at u a i hi,trow_at u (a+1) i hi,trow_size]
    by_cases e:a=i
    · subst e;rw [if_pos rfl,if_pos hi,if_pos (Nat.le_refl _),hv,show 19 - a=k by omega]
    · rw [if_neg e]
      by_cases h2:a≤i
      · rw [if_pos h2,if_pos (by omega)]
      · rw [if_neg h2,if_neg (by omega)]
  · rw [Array.getElem?_eq_none (by simp [trow_size];omega),Array.getElem?_eq_none (by simp [trow_size];omega)]
theorem add_plain' (b j:Nat):(⟨b,0,none⟩:Addr).add j=⟨b,j,none⟩:=by
  unfold Addr.add;split
  · rename_i h;subst h;rfl
  · simp
theorem mul_ways {a0 a1:Int} {m:Int×Bool} (hm:m=fit (a0 * a1)) {x y:Int} (hx:x=((a0.natAbs * a1.natAbs:Nat):Int) / 18446744073709551616) (hy:y=((a0.natAbs * a1.natAbs:Nat):Int) % 18446744073709551616) (s:Bool)
    (hs:(decide (a0 < 0) != decide (a1 < 0))=s) :
    (m=(a0 * a1,true)∧wrap64 (a0 * a1)=a0 * a1∧x≤0∧y≤(if s=true then 9223372036854775808 else 9223372036854775807))∨(m=(0,false)∧0 < x)∨(m=(0,false)∧x≤0∧(if s=true then 9223372036854775808 else 9223372036854775807) < y):=by
  obtain ⟨p,hp⟩:∃ p:Nat,p=a0.natAbs * a1.natAbs:=⟨_,rfl⟩
  have q1:=@fit_of_mul_neg a0 a1 p hp;have q2:=@fit_of_mul_neg' a0 a1 p hp;have q3:=@fit_of_mul_pos a0 a1 p hp;have q4:=@fit_of_mul_pos' a0 a1 p hp;rw [← hp] at hx hy;rw [← hm] at q1 q2 q3 q4
  have hw:m=(a0 * a1,true)→wrap64 (a0 * a1)=a0 * a1:=fun h=>by
    have h2:=hm.symm.trans h;unfold fit at h2;split at h2
    · rename_i h3;unfold I64 at h3;unfold wrap64;omega
    · simp at h2
  cases s
  · by_cases hle:p≤9223372036854775807
    · exact .inl ⟨q3 hs hle,hw (q3 hs hle),by omega,by simp;omega⟩
    · have:=q4 hs hle
      by_cases h0:0 < x
      · exact .inr (.inl ⟨this,h0⟩)
      · exact .inr (.inr ⟨this,by omega,by simp;omega⟩)
  · by_cases hle:p≤9223372036854775808
    · exact .inl ⟨q1 hs hle,hw (q1 hs hle),by omega,by simp;omega⟩
    · have:=q2 hs hle
      by_cases h0:0 < x
      · exact .inr (.inl ⟨this,h0⟩)
      · exact .inr (.inr ⟨this,by omega,by simp;omega⟩)
theorem ret_tup {k:IntKind} {a b:Int} {c:Value} (h:a=b):Ending.returned (.tuple #[.int k a,c])=.returned (.tuple #[.int k b,c]):=by rw [h]
theorem bcell {W w1:World} (hb:Below W.heap.size W w1):(∀ b o,b < W.heap.size→w1.cell? ⟨b,o,none⟩=W.cell? ⟨b,o,none⟩)∧(∀ b o,b < W.heap.size→w1.frozen? ⟨b,o,none⟩=W.frozen? ⟨b,o,none⟩) :=
  ⟨fun b o h=>hb.cell (p:=⟨b,o,none⟩) h,fun b o h=>hb.frozen (p:=⟨b,o,none⟩) h⟩
def TabAt (g:Nat) (l:List Int) (w:World):Prop:=g < w.heap.size∧∀ i (h:i < l.length),w.cell? ⟨g,i,none⟩=some (.int .i64 l[i])
def SpAt (w:World):Prop:=0 < w.heap.size∧∀ c:Nat,c < 256→w.cell? ⟨0,c,none⟩=some (.int .u8 (if Lib.isSp (UInt8.ofNat c) then 1 else 0))
def MxAt (w:World):Prop:=1 < w.heap.size∧∃ m,w.cell? ⟨1,0,none⟩=some (.int .i64 m)
def Gl (w:World):Prop:=TabAt 3 monthLens w∧SpAt w∧MxAt w
theorem Gl.mon {w:World} (h:Gl w) (k:Nat) (hk:k < 12):w.cell? ⟨3,k,none⟩=some (.int .i64 (monLen k)):=by
  rw [h.1.2 k hk];unfold monLen;rw [List.getD_eq_getElem?_getD,List.getElem?_eq_getElem (show k < monthLens.length from hk)];rfl
theorem lt_of_cell {w:World} {a:Addr} {v:Value} (h:w.cell? a=some v):a.block < w.heap.size:=by
  unfold World.cell? at h
  cases hh:w.heap[a.block]? with
 |none=>rw [hh] at h;cases h
 |some o=>exact (Array.getElem?_eq_some_iff.1 hh).1
theorem less_cases:∀ a b:List UInt8,(Op.bytesLess a b=true∧Op.bytesLess b a=false∧(a == b)=false∧(b == a)=false)∨(Op.bytesLess a b=false∧Op.bytesLess b a=true∧(a == b)=false∧(b == a)=false)∨(a=b∧Op.bytesLess a b=false∧Op.bytesLess b a=false)
 |[],[]=>Or.inr (Or.inr ⟨rfl,rfl,rfl⟩)
 |[],_ :: _=>Or.inl ⟨rfl,rfl,rfl,rfl⟩
 |_ :: _,[]=>Or.inr (Or.inl ⟨rfl,rfl,rfl,rfl⟩)
 |x :: a,y :: b=>by
    have e1:Op.bytesLess (x :: a) (y :: b)=(decide (x < y) || (x == y && Op.bytesLess a b)):=rfl;have e2:Op.bytesLess (y :: b) (x :: a)=(decide (y < x) || (y == x && Op.bytesLess b a)):=rfl;rcases Nat.lt_trichotomy x.toNat y.toNat with h|h|h
    · have h1:x < y:=h
      have h2:¬ y < x:=fun k=>by have:y.toNat < x.toNat:=k;omega
      have h3:x≠y:=fun k=>by subst k;omega
      exact Or.inl ⟨by rw [e1,decide_eq_true h1];rfl,by rw [e2,decide_eq_false h2,beq_false_of_ne (Ne.symm h3)];rfl,beq_false_of_ne (fun k=>h3 (List.cons.inj k).1),beq_false_of_ne (fun k=>h3 (List.cons.inj k).1.symm)⟩
    · have h3:x=y:=UInt8.toNat_inj.mp h
      subst h3;have h2:¬ x < x:=fun k=>by have:x.toNat < x.toNat:=k;omega
      rw [e1,e2,decide_eq_false h2,beq_self_eq_true,Bool.false_or,Bool.true_and,Bool.false_or,Bool.true_and];rcases less_cases a b with ⟨a1,a2,a3,a4⟩|⟨a1,a2,a3,a4⟩|⟨a1,a2,a3⟩
      · exact Or.inl ⟨a1,a2,beq_false_of_ne (fun k=>by rw [(List.cons.inj k).2,beq_self_eq_true] at a3;cases a3),beq_false_of_ne (fun k=>by rw [(List.cons.inj k).2,beq_self_eq_true] at a4;cases a4)⟩
      · exact Or.inr (Or.inl ⟨a1,a2,beq_false_of_ne (fun k=>by rw [(List.cons.inj k).2,beq_self_eq_true] at a3;cases a3),beq_false_of_ne (fun k=>by rw [(List.cons.inj k).2,beq_self_eq_true] at a4;cases a4)⟩)
      · exact Or.inr (Or.inr ⟨by rw [a1],a2,a3⟩)
    · have h1:y < x:=h
      have h2:¬ x < y:=fun k=>by have:x.toNat < y.toNat:=k;omega
      have h3:x≠y:=fun k=>by subst k;omega
      exact Or.inr (Or.inl ⟨by rw [e1,decide_eq_false h2,beq_false_of_ne h3];rfl,by rw [e2,decide_eq_true h1];rfl,beq_false_of_ne (fun k=>h3 (List.cons.inj k).1),beq_false_of_ne (fun k=>h3 (List.cons.inj k).1.symm)⟩)
theorem less_le {a b:List UInt8} (h:Op.bytesLess a b=true):(Op.bytesLess b a || b == a)=false:=by
  rcases less_cases a b with ⟨a1,a2,a3,a4⟩|⟨a1,a2,a3,a4⟩|⟨a1,a2,a3⟩
  · rw [a2,a4];rfl
  · rw [a1] at h;cases h
  · rw [a2] at h;cases h
theorem less_ge {a b:List UInt8} (h:Op.bytesLess a b=false):(Op.bytesLess b a || b == a)=true:=by
  rcases less_cases a b with ⟨a1,a2,a3,a4⟩|⟨a1,a2,a3,a4⟩|⟨a1,a2,a3⟩
  · rw [a1] at h;cases h
  · rw [a2];rfl
  · rw [a1,beq_self_eq_true,Bool.or_true]
end B
namespace A
open Go.RowKit B WW WL WM
theorem zq11 {P:Prop} (h:P:=by repeat (first|(with_reducible first|exact HB.out|apply below_alloc|apply pw_below_drewN|apply below_drew1|refine below_set ?_ GE200.out|refine below_set ?_ GE201.out)|exact HB.out)):P:=h
theorem zq19 {P:Prop} (h:P:=by repeat (first|(with_reducible first|exact HB.out|apply below_alloc|apply pw_below_drewN|apply below_drew1|refine below_set ?_ GE208.out)|exact HB.out)):P:=h
theorem zq33 {P:Prop} (h:P:=by repeat (first|(with_reducible first|exact HB.out|apply below_alloc|apply pw_below_drewN|apply below_drew1|refine below_set ?_ GE217.out|refine below_set ?_ GE218.out)|exact HB.out)):P:=h
theorem zq65 {P:Prop} (h:P:=by repeat (first|(with_reducible first|exact HB.out|apply below_alloc|apply pw_below_drewN|apply below_drew1|refine below_set ?_ GE109.out)|exact HB.out)):P:=h
theorem zq68 {P:Prop} (h:P:=by repeat (first|(with_reducible first|exact HB.out|apply below_alloc|apply pw_below_drewN|apply below_drew1|refine below_set ?_ GE113.out)|exact HB.out)):P:=h
theorem zq70 {P:Prop} (h:P:=by repeat (first|(with_reducible first|exact HB.out|apply below_alloc|apply pw_below_drewN|apply below_drew1|refine below_set ?_ GE117.out)|exact HB.out)):P:=h
theorem zq73 {P:Prop} (h:P:=by rw [← hq_];exact (by repeat (first|(with_reducible first|exact HB.out|apply below_alloc|apply pw_below_drewN|apply below_drew1|refine below_set ?_ GE128.out)|exact HB.out))):P:=h
theorem zq74 {P:Prop} (h:P:=by repeat (first|(with_reducible first|exact HB.out|apply below_alloc|apply pw_below_drewN|apply below_drew1|refine below_set ?_ GE128.out)|exact HB.out)):P:=h
theorem zq76 {P:Prop} (h:P:=by repeat (first|(with_reducible first|exact HB.out|apply below_alloc|apply pw_below_drewN|apply below_drew1|refine below_set ?_ GE140.out)|exact HB.out)):P:=h
theorem zq78 {P:Prop} (h:P:=by repeat (first|(with_reducible first|exact HB.out|apply below_alloc|apply pw_below_drewN|apply below_drew1|refine below_set ?_ GE166.out)|exact HB.out)):P:=h
theorem zq83 {P:Prop} (h:P:=by repeat (first|(with_reducible first|exact HB.out|apply below_alloc|apply pw_below_drewN|apply below_drew1|refine below_set ?_ GE183.out)|exact HB.out)):P:=h
end A
namespace WW
open Go.RowKit
namespace Kd
section
variable {α β:Type} {d:Kd α} {d':Kd β} {e e':Nat} {w w1 W:World} {base b b':Nat} {ok ok' okv oku:Nat→Prop} {v u:Value} {xs:List α} {ys:List β}
theorem R_alloc (h:d.R e w base ok v xs) (o:Obj):d.R e (w.alloc o) base ok v xs:=R_below h (below_alloc (Below.refl _ _) o)
theorem R_drew (h:d.R e w base ok v xs):d.R e w.drew base ok v xs:=R_below h (below_drew (Below.refl _ _))
theorem R_drewN (h:d.R e w base ok v xs) (m:Nat):d.R e (w.drewN m) base ok v xs:=R_below h (pw_below_drewN (Below.refl _ _) m)
theorem C_alloc {A:Option Addr} {n:Nat} (h:d.C w A n xs) (o:Obj):d.C (w.alloc o) A n xs:=C_below h (below_alloc (Below.refl _ _) o)
theorem C_drew {A:Option Addr} {n:Nat} (h:d.C w A n xs):d.C w.drew A n xs:=C_below h (below_drew (Below.refl _ _))
theorem C_drewN {A:Option Addr} {n:Nat} (h:d.C w A n xs) (m:Nat):d.C (w.drewN m) A n xs:=C_below h (pw_below_drewN (Below.refl _ _) m)
theorem R_reads' {A:Option Addr} {n c:Nat} (h:d.R e w base ok (.slice A n c) xs):n=xs.length∧n≤c∧d.C w A xs.length xs:=by
  obtain ⟨A',c',he,hl,hr⟩:=R_reads h;injection he with h1 h2 h3
  subst h1;exact ⟨h2,by omega,hr⟩
theorem R_away (h:d.R e w base ok v xs) {g:Nat} (hok:∀ k,ok k→k≠g):some g≠v.ownBlock:=fun e=>hok g (h.1 g e.symm) rfl
end
end Kd
end WW
namespace WL
section
variable {P:Program} {ops:Array Oper} {Q:Exit→Act→World→Prop} {md:Region.Mode} {S:World→Prop} {ds:List Nat}
theorem wpAny_of_last:∀ (fuel:Nat) (listed:Array Bool) (a:Act) (w:World),wpAnyLast P md ops Q S ds fuel listed a w→wpAny P md ops Q fuel listed a w
 |0,_,_,_,h=>h
 |fuel+1,_,_,_,h=>⟨h.1,fun i hi=>wpOp_mono (fun a' w' h'=>wpAny_of_last fuel _ a' w' h'.2) (h.2 i hi)⟩
theorem wpAnyLast_done {listed:Array Bool} {a:Act} {w:World} (hr:Region.ready md ops listed=[]) (h:Q .normal a w) :
    ∀ fuel,wpAnyLast P md ops Q S ds fuel listed a w
 |0=>⟨hr,h⟩
 |_+1=>⟨fun _=>h,by rw [hr];simp⟩
theorem wp_region_last {id:Nat} {a:Act} {w:World} (hm:P.follows .mixedOrders=true)
    (h:wpAnyLast P .any ops Q S ds ops.size (Array.replicate ops.size false) a { w with drawn:=w.drawn+1 }):(Code.region id ops true).wp P Q a w :=
  wp_region_any hm (wpAny_of_last _ _ _ _ h)
theorem start_ {id n:Nat} {a:Act} {w:World} (l:Array Bool) (hm:P.follows .mixedOrders=true) (hn:ops.size=n) (hl:Array.replicate n false=l) (hS:S w.drew)
    (h:S w.drew→wpAnyLast P .any ops Q S ds n l a w.drew):(Code.region id ops true).wp P Q a w:=by
  subst hn;subst hl;exact wp_region_last hm (h hS)
def readyB (md:Region.Mode) (ops:Array Oper) (l l':Array Bool) (i:Nat):Bool:=(Region.ready md ops l == [i]) && (l.setIfInBounds i true == l')
theorem done_ {l:Array Bool} {a:Act} {w:World} {n:Nat} (hr:(Region.ready md ops l == [])=true) (h:Q .normal a w):wpAnyLast P md ops Q S ds n l a w:=wpAnyLast_done (by simpa using hr) h n
theorem norm_ {fuel:Nat} {l:Array Bool} {a a':Act} {w:World} (ha:a=a') (h:wpAnyLast P md ops Q S ds fuel l a' w):wpAnyLast P md ops Q S ds fuel l a w:=by
  subst ha;exact h
theorem call_ {oi:Oper} {N:Option Tmp} {a:Act} {w:World} {K:Act→World→Prop} (f:FuncId) (args:Array Value) (hw:Region.wanted oi (yielded ops a.tmps)=true) (hN:oi.dst=N) (hrun:(execOp a.eval oi).run P w=.ok (.enter f args) w)
    (h:Calls P f args w fun e w'=>∃ v,e=.returned v∧K (a.put N v) w'):if Region.wanted oi (yielded ops a.tmps)=true then Oper.wp P oi a w K Q else K (a.put N undef) w:=by
  rw [if_pos hw];subst hN;unfold Oper.wp;rw [hrun,Oper.upon_enter];refine h.mono fun e w'' hh=>?_
  obtain ⟨v,rfl,hk⟩:=hh;exact hk
theorem value_ {oi:Oper} {N:Option Tmp} {a:Act} {w w1:World} {v:Value} {K:Act→World→Prop} (hw:Region.wanted oi (yielded ops a.tmps)=true) (hN:oi.dst=N) (hrun:(execOp a.eval oi).run P w=.ok (.value v) w1)
    (h:K (a.put N v) w1):if Region.wanted oi (yielded ops a.tmps)=true then Oper.wp P oi a w K Q else K (a.put N undef) w:=by
  rw [if_pos hw];subst hN;unfold Oper.wp;rw [hrun];exact h
theorem skip_ {oi:Oper} {a:Act} {w w1:World} {K:Act→World→Prop} (hw:Region.wanted oi (yielded ops a.tmps)=true) (hN:oi.dst=none) (hrun:(execOp a.eval oi).run P w=.ok .skip w1)
    (h:K a w1):if Region.wanted oi (yielded ops a.tmps)=true then Oper.wp P oi a w K Q else K (a.put none undef) w:=by
  rw [if_pos hw];unfold Oper.wp;rw [hrun];show K (a.put oi.dst undef) w1
  rw [hN];exact h
end
end WL
namespace WW
open Go.RowKit
theorem blk_far {w:World} {g:Nat} {t:TypeId} {cs:Array Value} (h:w.heap[g]?=some (.cells cs t (0,0))) {p:Addr} (hp:g≠p.block) (u:Value):(w.setCell p u).heap[g]?=some (.cells cs t (0,0)):=(Below.heap_setCell w p u g hp).trans h
theorem blk_grown {w w1:World} {g:Nat} {o:Obj} {row:Option Nat} (h:w.heap[g]?=some o) (hg:w.grownBy w1 row) (hne:some g≠row):w1.heap[g]?=some o:=(hg.block g (blk_lt h) hne).trans h
theorem KeepBut.blk {w w1:World} {g g':Nat} {row:Option Nat} {o:Obj} (h:KeepBut w w1 g row) (hb:w.heap[g']?=some o) (hg:g'≠g) (hr:some g'≠row):w1.heap[g']?=some o:=(h.2 g' (blk_lt hb) hg hr).trans hb
theorem blk_alloc {w:World} {g:Nat} {o:Obj} (h:w.heap[g]?=some o) (o':Obj):(w.alloc o').heap[g]?=some o:=(Below.heap_alloc w o' g (blk_lt h)).trans h
theorem blk_below {w w1:World} {g:Nat} {o:Obj} (h:w.heap[g]?=some o) (hb:Below w.heap.size w w1):w1.heap[g]?=some o:=(hb.block g (blk_lt h)).trans h
theorem ReadsRow.inner_ {α:Type} {R:α→List Value→Prop} {size:Nat} {w:World} {ad:Addr} {n:Nat} {ps:List α} (h:ReadsRow R size w (some ad) n ps) :
    ∃ inner,Reps R size ps inner∧∀ j u,inner[j]?=some u→w.cell? (ad.add j)=some u:=by
  have key:∀ m,m≤ps.length→∃ inner,Reps R size (ps.take m) inner∧∀ j u,inner[j]?=some u→w.cell? (ad.add j)=some u:=by
    intro m;induction m with
   |zero=>exact fun _=>⟨[],Reps.none _ _,fun j u hu=>by simp at hu⟩
   |succ m ih =>
      intro hm;obtain ⟨inner,hr,hc⟩:=ih (by omega);obtain ⟨ad',he,hcell⟩:=h.2.2 (by have:=h.1;omega);injection he with he
      subst he;obtain ⟨c,hcl,hp,hcc⟩:=hcell m _ (List.getElem?_eq_getElem (show m < ps.length by omega));refine ⟨inner++c,?_,fun j u hu=>?_⟩
      · rw [List.take_succ_eq_append_getElem (show m < ps.length by omega)]
        exact hr.snoc hp hcl
      · have hil:inner.length=m * size:=by rw [hr.1,List.length_take,Nat.min_eq_left (by omega)]
        rcases Nat.lt_or_ge j inner.length with hj|hj
        · rw [List.getElem?_append_left hj] at hu
          exact hc j u hu
        · rw [List.getElem?_append_right hj] at hu
          have:=hcc (j - inner.length) u hu;rwa [hil,Nat.add_sub_cancel' (by omega)] at this
  obtain ⟨inner,hr,hc⟩:=key ps.length (Nat.le_refl _);rw [List.take_length] at hr;exact ⟨inner,hr,hc⟩
end WW
namespace A
open Go.RowKit B WW WL WM
theorem zq9 {P:Prop} (h:P:=by (with_reducible repeat (first|apply Kd.R_alloc|apply Kd.R_drewN|apply Kd.R_drew));exact HO_2.out):P:=h
theorem zq12 {P:Prop} (h:P:=by (with_reducible repeat (first|refine blk_drewN ?_ _|refine blk_drew ?_|refine blk_alloc ?_ _));refine blk_far ?_ NB200_201.out _;(with_reducible repeat (first|refine blk_drewN ?_ _|refine blk_drew ?_|refine blk_alloc ?_ _));refine blk_far ?_ NB200_201.out _;(with_reducible repeat (first|refine blk_drewN ?_ _|refine blk_drew ?_|refine blk_alloc ?_ _));refine blk_put (cs:=#[.int .i64 t194,.string t195,.int .i64 0]) ?_ 2 _ rfl;(with_reducible repeat (first|refine blk_drewN ?_ _|refine blk_drew ?_|refine blk_alloc ?_ _));refine blk_put (cs:=#[.int .i64 t194,.string (⟨#[]⟩:ByteArray),.int .i64 0]) ?_ 1 _ rfl;(with_reducible repeat (first|refine blk_drewN ?_ _|refine blk_drew ?_|refine blk_alloc ?_ _));refine blk_put (cs:=#[.int .i64 0,.string (⟨#[]⟩:ByteArray),.int .i64 0]) ?_ 0 _ rfl;(with_reducible repeat (first|refine blk_drewN ?_ _|refine blk_drew ?_|refine blk_alloc ?_ _));exact BK200.out):P:=h
theorem zq14 {P:Prop} (h:P:=by (with_reducible repeat (first|refine blk_drewN ?_ _|refine blk_drew ?_|refine blk_alloc ?_ _));refine blk_put (cs:=#[.int .i64 t198,.int .i64 0]) ?_ 1 _ rfl;(with_reducible repeat (first|refine blk_drewN ?_ _|refine blk_drew ?_|refine blk_alloc ?_ _));refine blk_put (cs:=#[.int .i64 0,.int .i64 0]) ?_ 0 _ rfl;(with_reducible repeat (first|refine blk_drewN ?_ _|refine blk_drew ?_|refine blk_alloc ?_ _));refine blk_far ?_ NB201_200.out _;(with_reducible repeat (first|refine blk_drewN ?_ _|refine blk_drew ?_|refine blk_alloc ?_ _));refine blk_far ?_ NB201_200.out _;(with_reducible repeat (first|refine blk_drewN ?_ _|refine blk_drew ?_|refine blk_alloc ?_ _));refine blk_far ?_ NB201_200.out _;(with_reducible repeat (first|refine blk_drewN ?_ _|refine blk_drew ?_|refine blk_alloc ?_ _));exact BK201.out):P:=h
theorem zq18 {P:Prop} (h:P:=by (with_reducible repeat (first|refine blk_drewN ?_ _|refine blk_drew ?_|refine blk_alloc ?_ _));exact BK208.out):P:=h
theorem zq29 {P:Prop} (h:P:=by repeat (first|exact (Kd.C_below HR0_4.out HB.out)|(with_reducible refine Kd.C_alloc ?_ _)|(with_reducible refine Kd.C_drewN ?_ _)|(with_reducible refine Kd.C_drew ?_))):P:=h
theorem zq30 {P:Prop} (h:P:=by repeat (first|exact (Kd.C_below HR1_4.out HB.out)|(with_reducible refine Kd.C_alloc ?_ _)|(with_reducible refine Kd.C_drewN ?_ _)|(with_reducible refine Kd.C_drew ?_))):P:=h
theorem zq31 {P:Prop} (h:P:=by (with_reducible repeat (first|refine blk_drewN ?_ _|refine blk_drew ?_|refine blk_alloc ?_ _));exact BK217.out):P:=h
theorem zq32 {P:Prop} (h:P:=by (with_reducible repeat (first|refine blk_drewN ?_ _|refine blk_drew ?_|refine blk_alloc ?_ _));exact BK218.out):P:=h
theorem zq62 {P:Prop} (h:P:=by (with_reducible repeat (first|refine blk_drewN ?_ _|refine blk_drew ?_|refine blk_alloc ?_ _));exact BK101.out):P:=h
theorem zq67 {P:Prop} (h:P:=by (with_reducible repeat (first|refine blk_drewN ?_ _|refine blk_drew ?_|refine blk_alloc ?_ _));exact BK113.out):P:=h
theorem zq69 {P:Prop} (h:P:=by (with_reducible repeat (first|refine blk_drewN ?_ _|refine blk_drew ?_|refine blk_alloc ?_ _));exact BK117.out):P:=h
theorem zq72 {P:Prop} (h:P:=by rw [← hq_];exact (by (with_reducible repeat (first|refine blk_drewN ?_ _|refine blk_drew ?_|refine blk_alloc ?_ _));exact BK128.out)):P:=h
theorem zq75 {P:Prop} (h:P:=by (with_reducible repeat (first|refine blk_drewN ?_ _|refine blk_drew ?_|refine blk_alloc ?_ _));exact BK128.out):P:=h
theorem zq77 {P:Prop} (h:P:=by (with_reducible repeat (first|apply Kd.R_alloc|apply Kd.R_drewN|apply Kd.R_drew));exact HO_4.out):P:=h
theorem zq82 {P:Prop} (h:P:=by (with_reducible repeat (first|refine blk_drewN ?_ _|refine blk_drew ?_|refine blk_alloc ?_ _));exact BK183.out):P:=h
theorem zq84 {P:Prop} (h:P:=by (with_reducible repeat (first|apply Kd.R_alloc|apply Kd.R_drewN|apply Kd.R_drew));exact HO_7.out):P:=h
end A
namespace WW
open Go.RowKit
namespace Kd
section
variable {α:Type} {d:Kd α} {e:Nat} {w w1:World} {base:Nat} {ok ok':Nat→Prop} {v:Value} {xs:List α}
theorem M_below {x:α} {cs:List Value} (h:d.M w base ok x cs) (hb:Below w.heap.size w w1):d.M w1 base ok x cs:=M_step h (fun k _ hk=>hb.block k hk)
theorem R_far (h:d.R e w base ok v xs) {p:Addr} (hok:∀ k,ok k→k≠p.block) (u:Value):d.R e (w.setCell p u) base ok v xs:=R_step h (fun k ho _=>Below.heap_setCell w p u k (hok k ho))
theorem R_types (h:d.R e w base ok v xs) {g t:Nat} {cells:Array Value} (hb:w.heap[g]?=some (.cells cells t (0,0))) (ht:∀ q,q∈e :: d.E→q≠t):d.R e w base (fun k=>ok k∧k≠g) v xs :=
  R_mono (R_bound h) (fun k hk=>⟨hk.1,by
    obtain ⟨_,_,_,q,hq,cells',hc⟩:=hk;rintro rfl;rw [hc] at hb;injection hb with hb
    injection hb with _ hb
    exact ht q hq hb⟩)
theorem R_set (h:d.R e w base ok v xs) {g t:Nat} {cells:Array Value} (hb:w.heap[g]?=some (.cells cells t (0,0))) (ht:∀ q,q∈e :: d.E→q≠t) (j:Nat) (u:Value):d.R e (w.setCell ⟨g,j,none⟩ u) base ok v xs :=
  R_mono (R_far (p:=⟨g,j,none⟩) (R_types h hb ht) (fun _ hk=>hk.2) u) (fun _ hk=>hk.1)
theorem R_slice (h:d.R e w base ok v xs):∃ A c,v=.slice A xs.length c:=by
  obtain ⟨A,c,he,_⟩:=R_reads h;exact ⟨A,c,he⟩
theorem R_own (h:d.R e w base ok v xs):∃ inner,w.ownsRow base e d.sz v xs.length inner:=by
  obtain ⟨_,inner,ho,_⟩:=h;exact ⟨inner,ho⟩
end
end Kd
end WW
namespace B
open Go.RowKit
theorem any_set {W:World} {a b:Addr} (v:Value) (h:∃ x,W.cell? a=some x):∃ x,(W.setCell b v).cell? a=some x:=by
  obtain ⟨x,hx⟩:=h;by_cases e:b=a
  · subst e;exact ⟨v,World.cell?_setCell_same _ _ _ hx⟩
  · exact ⟨x,by rw [World.cell?_setCell_other (h:=e)];exact hx⟩
theorem any_drew {W:World} {a:Addr} (h:∃ x,W.cell? a=some x):∃ x,W.drew.cell? a=some x:=h
theorem has_drew {W:World} {a:Addr} {v:Value} (h:W.cell? a=some v):W.drew.cell? a=some v:=h
theorem below_setN {b g o:Nat} {a w:World} (h:Below b a w) (hg:b≤g) (v:Value):Below b a (w.setCell ⟨g,o,none⟩ v):=Below.setCell h (p:=⟨g,o,none⟩) hg v
theorem gl_lt {w:World} (h:Gl w):GlLt w.heap.size:=⟨h.1.1,h.2.1.1,h.2.2.1⟩
end B
end Go.Proofs.YtlblkojjpagbkaaDoor
namespace Go.Proofs
open Go.Shelf
theorem Tryd.lays156:Go.Proofs.Lays.n156 Tryd.prog Tryd.lays156_ren:={
  mixed:=by kernel_rfl
  f156:=Tryd.func30.trans (congrArg some (by kernel_rfl))
  f165:=Tryd.func48.trans (congrArg some (by kernel_rfl))
  f166:=Tryd.func49.trans (congrArg some (by kernel_rfl))
  f169:=Tryd.func50.trans (congrArg some (by kernel_rfl))
  f240:=Tryd.func62.trans (congrArg some (by kernel_rfl))
  f241:=Tryd.func63.trans (congrArg some (by kernel_rfl))
  f276:=Tryd.func88.trans (congrArg some (by kernel_rfl))
  f277:=Tryd.func89.trans (congrArg some (by kernel_rfl))
  t0:=Tryd.underlying0
  a0:=Tryd.isAgg0
  z0:=Tryd.sizeOf0
  v0:=Tryd.zeroValue0
  t3:=Tryd.underlying3
  a3:=Tryd.isAgg3
  z3:=Tryd.sizeOf3
  v3:=Tryd.zeroValue3
  t4:=Tryd.underlying4
  a4:=Tryd.isAgg4
  z4:=Tryd.sizeOf4
  v4:=Tryd.zeroValue4
  t9:=Tryd.underlying9
  a9:=Tryd.isAgg9
  z9:=Tryd.sizeOf9
  v9:=Tryd.zeroValue9
  t20:=Tryd.underlying20
  a20:=Tryd.isAgg20
  z20:=Tryd.sizeOf20
  v20:=Tryd.zeroValue20
  t31:=Tryd.underlying55
  a31:=Tryd.isAgg55
  z31:=Tryd.sizeOf55
  v31:=Tryd.zeroValue55
  t37:=Tryd.underlying81
  a37:=Tryd.isAgg81
  z37:=Tryd.sizeOf81
  v37:=Tryd.zeroValue81
  t70:=Tryd.underlying80
  a70:=Tryd.isAgg80
  z70:=Tryd.sizeOf80
  v70:=Tryd.zeroValue80
  t72:=Tryd.underlying83
  a72:=Tryd.isAgg83
  z72:=Tryd.sizeOf83
  v72:=Tryd.zeroValue83
  t75:=Tryd.underlying86
  a75:=Tryd.isAgg86
  z75:=Tryd.sizeOf86
  v75:=Tryd.zeroValue86
  t76:=Tryd.underlying87
  a76:=Tryd.isAgg87
  z76:=Tryd.sizeOf87
  v76:=Tryd.zeroValue87
  t127:=Tryd.underlying108
  a127:=Tryd.isAgg108
  z127:=Tryd.sizeOf108
  v127:=Tryd.zeroValue108
  t164:=Tryd.underlying132
  a164:=Tryd.isAgg132
  z164:=Tryd.sizeOf132
  v164:=Tryd.zeroValue132 }
theorem Tryd.lays144:Go.Proofs.Lays.n144 Tryd.prog Tryd.lays144_ren:={
  mixed:=by kernel_rfl
  f143:=Tryd.func42.trans (congrArg some (by kernel_rfl))
  f144:=Tryd.func22.trans (congrArg some (by kernel_rfl))
  f217:=Tryd.func80.trans (congrArg some (by kernel_rfl))
  f219:=Tryd.func56.trans (congrArg some (by kernel_rfl))
  f224:=Tryd.func82.trans (congrArg some (by kernel_rfl))
  f225:=Tryd.func81.trans (congrArg some (by kernel_rfl))
  f266:=Tryd.func92.trans (congrArg some (by kernel_rfl))
  f267:=Tryd.func83.trans (congrArg some (by kernel_rfl))
  f314:=Tryd.func93.trans (congrArg some (by kernel_rfl))
  t3:=Tryd.underlying3
  a3:=Tryd.isAgg3
  z3:=Tryd.sizeOf3
  v3:=Tryd.zeroValue3
  t4:=Tryd.underlying4
  a4:=Tryd.isAgg4
  z4:=Tryd.sizeOf4
  v4:=Tryd.zeroValue4
  t5:=Tryd.underlying5
  a5:=Tryd.isAgg5
  z5:=Tryd.sizeOf5
  v5:=Tryd.zeroValue5
  t9:=Tryd.underlying9
  a9:=Tryd.isAgg9
  z9:=Tryd.sizeOf9
  v9:=Tryd.zeroValue9
  t46:=Tryd.underlying124
  a46:=Tryd.isAgg124
  z46:=Tryd.sizeOf124
  v46:=Tryd.zeroValue124
  t51:=Tryd.underlying128
  a51:=Tryd.isAgg128
  z51:=Tryd.sizeOf128
  v51:=Tryd.zeroValue128
  t146:=Tryd.underlying137
  a146:=Tryd.isAgg137
  z146:=Tryd.sizeOf137
  v146:=Tryd.zeroValue137
  g1:=by kernel_rfl }
theorem Tryd.lays99:Go.Proofs.Lays.n99 Tryd.prog Tryd.lays99_ren:={
  mixed:=by kernel_rfl
  f99:=Tryd.func24.trans (congrArg some (by kernel_rfl))
  f206:=Tryd.func43.trans (congrArg some (by kernel_rfl))
  t3:=Tryd.underlying3
  a3:=Tryd.isAgg3
  z3:=Tryd.sizeOf3
  v3:=Tryd.zeroValue3
  t4:=Tryd.underlying4
  a4:=Tryd.isAgg4
  z4:=Tryd.sizeOf4
  v4:=Tryd.zeroValue4
  t9:=Tryd.underlying9
  a9:=Tryd.isAgg9
  z9:=Tryd.sizeOf9
  v9:=Tryd.zeroValue9 }
theorem Tryd.lays157:Go.Proofs.Lays.n157 Tryd.prog Tryd.lays157_ren:={
  mixed:=by kernel_rfl
  f157:=Tryd.func44.trans (congrArg some (by kernel_rfl))
  f199:=Tryd.func58.trans (congrArg some (by kernel_rfl))
  f229:=Tryd.func57.trans (congrArg some (by kernel_rfl))
  f261:=Tryd.func84.trans (congrArg some (by kernel_rfl))
  f311:=Tryd.func94.trans (congrArg some (by kernel_rfl))
  f312:=Tryd.func95.trans (congrArg some (by kernel_rfl))
  t0:=Tryd.underlying0
  a0:=Tryd.isAgg0
  z0:=Tryd.sizeOf0
  v0:=Tryd.zeroValue0
  t3:=Tryd.underlying3
  a3:=Tryd.isAgg3
  z3:=Tryd.sizeOf3
  v3:=Tryd.zeroValue3
  t4:=Tryd.underlying4
  a4:=Tryd.isAgg4
  z4:=Tryd.sizeOf4
  v4:=Tryd.zeroValue4
  t5:=Tryd.underlying5
  a5:=Tryd.isAgg5
  z5:=Tryd.sizeOf5
  v5:=Tryd.zeroValue5
  t9:=Tryd.underlying9
  a9:=Tryd.isAgg9
  z9:=Tryd.sizeOf9
  v9:=Tryd.zeroValue9
  t21:=Tryd.underlying21
  a21:=Tryd.isAgg21
  z21:=Tryd.sizeOf21
  v21:=Tryd.zeroValue21
  t31:=Tryd.underlying55
  a31:=Tryd.isAgg55
  z31:=Tryd.sizeOf55
  v31:=Tryd.zeroValue55
  t40:=Tryd.underlying100
  a40:=Tryd.isAgg100
  z40:=Tryd.sizeOf100
  v40:=Tryd.zeroValue100
  t46:=Tryd.underlying124
  a46:=Tryd.isAgg124
  z46:=Tryd.sizeOf124
  v46:=Tryd.zeroValue124
  t49:=Tryd.underlying143
  a49:=Tryd.isAgg143
  z49:=Tryd.sizeOf143
  v49:=Tryd.zeroValue143
  t51:=Tryd.underlying128
  a51:=Tryd.isAgg128
  z51:=Tryd.sizeOf128
  v51:=Tryd.zeroValue128
  t119:=Tryd.underlying98
  a119:=Tryd.isAgg98
  z119:=Tryd.sizeOf98
  t141:=Tryd.underlying130
  a141:=Tryd.isAgg130
  z141:=Tryd.sizeOf130
  v141:=Tryd.zeroValue130
  t152:=Tryd.underlying125
  a152:=Tryd.isAgg125
  z152:=Tryd.sizeOf125
  v152:=Tryd.zeroValue125
  t154:=Tryd.underlying127
  a154:=Tryd.isAgg127
  z154:=Tryd.sizeOf127
  v154:=Tryd.zeroValue127
  t193:=Tryd.underlying139
  a193:=Tryd.isAgg139
  z193:=Tryd.sizeOf139
  v193:=Tryd.zeroValue139
  t194:=Tryd.underlying140
  a194:=Tryd.isAgg140
  z194:=Tryd.sizeOf140
  v194:=Tryd.zeroValue140
  t196:=Tryd.underlying142
  a196:=Tryd.isAgg142
  z196:=Tryd.sizeOf142
  v196:=Tryd.zeroValue142
  t198:=Tryd.underlying145
  a198:=Tryd.isAgg145
  z198:=Tryd.sizeOf145
  v198:=Tryd.zeroValue145
  t201:=Tryd.underlying148
  a201:=Tryd.isAgg148
  z201:=Tryd.sizeOf148
  v201:=Tryd.zeroValue148
  t226:=Tryd.underlying151
  a226:=Tryd.isAgg151
  z226:=Tryd.sizeOf151
  v226:=Tryd.zeroValue151
  t227:=Tryd.underlying152
  a227:=Tryd.isAgg152
  z227:=Tryd.sizeOf152
  v227:=Tryd.zeroValue152
  g0:=by kernel_rfl
  g6:=by kernel_rfl }
end Go.Proofs
namespace Go.Proofs.YtlblkojjpagbkaaDoor
namespace WW
open Go.RowKit
section
variable {w w1:World} {base n size:Nat} {e:TypeId} {v:Value} {xs:List Value}
theorem q_of_own (h:w.ownsRow base e size v n xs):QRow w base e size v n xs:=by
  obtain ⟨h1,h2⟩:=h;refine ⟨h1,?_⟩;rcases h2 with ⟨rfl,h0⟩|⟨g,cap,cur,rfl,hb,hh,hnc,hcm,hcs,ht⟩
  · exact .inl ⟨h0,none,rfl,fun a ha=>by cases ha⟩
  · exact .inr ⟨g,0,cap,cur,by rw [Nat.zero_mul],hb,hh,hnc,by rw [Nat.zero_add];exact hcm,by rw [Nat.zero_add];exact hcs,by rw [Nat.zero_mul,List.drop_zero];exact ht⟩
theorem setCells_far {g:Nat}:∀ (vs:List Value) (o:Nat) {w:World} (k:Nat),k≠g→(w.setCells g o vs).heap[k]?=w.heap[k]?
 |[],_,_,_,_=>rfl
 |v :: r,o,w,k,hk=>by
    rw [World.setCells,setCells_far r (o+1) k hk];exact Below.heap_setCell w ⟨g,o,none⟩ v k hk
theorem setCells_same (g:Nat):∀ (vs:List Value) (o:Nat) (w:World),(w.setCells g o vs).os=w.os∧(w.setCells g o vs).tape=w.tape∧(w.setCells g o vs).output=w.output∧(w.setCells g o vs).heap.size=w.heap.size
 |[],_,_=>⟨rfl,rfl,rfl,rfl⟩
 |v :: r,o,w=>by
    obtain ⟨h1,h2,h3,h4⟩:=setCells_same g r (o+1) (w.setCell ⟨g,o,none⟩ v);rw [World.setCells];exact ⟨h1,h2,h3,by rw [h4];simp [World.setCell]⟩
end
end WW
namespace WW
open Go.RowKit
namespace Kd
section
variable {α β:Type} {d:Kd α} {d':Kd β} {e e':Nat} {w w1 W:World} {base b b':Nat} {ok ok' okv oku:Nat→Prop} {v u:Value} {xs:List α} {ys:List β}
theorem R_lt (h:d.R e w base ok v xs):∀ k,v.ownBlock=some k→k < w.heap.size:=by
  obtain ⟨inner,ho⟩:=R_own h;exact own_lt ho
theorem R_form (h:d.R e w base ok v xs) (hp:0 < xs.length):∃ g cap,v=.slice (some ⟨g,0,none⟩) xs.length cap∧base≤g∧g < w.heap.size∧∃ cells,w.heap[g]?=some (.cells cells e (0,0)):=by
  obtain ⟨inner,ho⟩:=R_own h;obtain ⟨g,cap,he,hb,hl⟩:=ho.form hp;obtain ⟨cells,hc⟩:=own_typed ho g (by rw [he];simp [Value.ownBlock]);exact ⟨g,cap,he,hb,hl,cells,hc⟩
theorem R_over (h:d.R e W b ok u xs) (hv:d'.R e' W b' ok' v ys) (ht:∀ q,q∈e :: d.E→q≠e') (hg:W.grownBy w1 v.ownBlock):d.R e w1 b ok u xs:=by
  obtain ⟨inner,ho⟩:=R_own hv;refine R_mono (R_move (R_bound h) (fun k hk=>hg.block k hk.2.2.1 (fun he=>?_))) (fun _ hk=>hk.1);obtain ⟨_,_,_,q,hq,cells,hc⟩:=hk;obtain ⟨cells',hc'⟩:=own_typed ho k he.symm;rw [hc] at hc';injection hc' with hc'
  injection hc' with _ hc'
  exact ht q hq hc'
end
end Kd
end WW
namespace WW
open Go.RowKit
section
variable {α:Type} {R R':α→List Value→Prop} {e:TypeId} {size:Nat} {w w1:World} {base:Nat} {v:Value} {ps:List α}
theorem OwnRow.none_ (R:α→List Value→Prop) (e:TypeId) (size:Nat) (w:World) (base:Nat):OwnRow R e size w base (.slice none 0 0) []:=⟨[],own_nil _ _ _ _,Reps.none _ _⟩
theorem OwnRow.ne_block (h:OwnRow R e size w base v ps) {g:Nat} {t:TypeId} {cells:Array Value} (hb:w.heap[g]?=some (.cells cells t (0,0))) (ht:e≠t):some g≠v.ownBlock:=by
  obtain ⟨inner,ho,hr⟩:=h;exact own_ne ho hb ht
end
end WW
namespace WW
open Go.RowKit
namespace Kd
section
variable {α:Type} {d:Kd α} {e base g:Nat} {ok:Nat→Prop} {w w1:World} {v:Value} {xs:List α} {o:Obj}
theorem R_elderB (h:d.R e w base ok v xs) (a:Nat) (ha:w.heap.size≤a):d.R e w base (fun k=>ok k∧k≠a) v xs:=R_mono (R_bound h) (fun k hk=>⟨hk.1,by have:=hk.2.2.1;omega⟩)
theorem freshB (hb:w.heap[g]?=some o):∀ k,w.heap.size≤k→k≠g:=fun k hk=>by have:=blk_lt hb;omega
end
end Kd
end WW
namespace WW
open Go.RowKit
namespace Kd
section
variable {α:Type} {d:Kd α} {e:Nat} {w w1:World} {base:Nat} {ok ok':Nat→Prop} {v:Value} {xs:List α}
theorem R_nil (d:Kd α) (e:Nat) (w:World) (base:Nat) (ok:Nat→Prop):d.R e w base ok (.slice none 0 0) []:=⟨fun k hk=>by simp [Value.ownBlock] at hk,OwnRow.none_ _ _ _ _ _⟩
theorem R_ne (h:d.R e w base ok v xs) {g t:Nat} {cells:Array Value} (hb:w.heap[g]?=some (.cells cells t (0,0))) (ht:e≠t):some g≠v.ownBlock:=OwnRow.ne_block h.2 hb ht
end
end Kd
end WW
namespace WW
open Go.RowKit
namespace Kd
theorem reps_scalar {α:Type} {enc:α→Value} (xs:List α):Reps (fun (x:α) (cs:List Value)=>cs=[enc x]) 1 xs (encs enc xs):=by
  refine ⟨by simp [encs],fun j p hj=>?_⟩;obtain ⟨hl,hp⟩:=List.getElem?_eq_some_iff.1 hj;have hl':j < (encs enc xs).length:=by rw [encs_length];exact hl
  rw [Nat.mul_one,List.drop_eq_getElem_cons hl'];simp [encs,hp]
theorem R_of_own {α:Type} {enc:α→Value} {h1:∀ x,(enc x).oneCell'=true} {e:Nat} {w:World} {base:Nat} {ok:Nat→Prop} {v:Value} {xs:List α} (ho:w.ownsRow base e 1 v xs.length (encs enc xs)) (hok:∀ k,v.ownBlock=some k→ok k):(scalar enc h1).R e w base ok v xs:=⟨hok,encs enc xs,ho,reps_scalar xs⟩
theorem reps_append {α:Type} {R:α→List Value→Prop} {size:Nat} {ps qs:List α} {cs ds:List Value} (h:Reps R size ps cs) (h':Reps R size qs ds):Reps R size (ps++qs) (cs++ds):=by
  refine ⟨by rw [List.length_append,List.length_append,h.1,h'.1,Nat.add_mul],fun j p hj=>?_⟩;rcases Nat.lt_or_ge j ps.length with hlt|hge
  · rw [List.getElem?_append_left hlt] at hj
    have hle:j * size+size≤cs.length:=by rw [h.1,← Nat.succ_mul];exact Nat.mul_le_mul_right _ hlt
    rw [List.drop_append_of_le_length (by omega),List.take_append_of_le_length (by rw [List.length_drop];omega)];exact h.2 j p hj
  · rw [List.getElem?_append_right hge] at hj
    have h2:=h'.2 (j - ps.length) p hj;have hle:ps.length * size≤j * size:=Nat.mul_le_mul_right _ hge;rw [List.drop_append,List.drop_eq_nil_of_le (by rw [h.1];exact hle),List.nil_append,h.1,← Nat.sub_mul];exact h2
end Kd
end WW
namespace WW
open Go.RowKit
section
variable {w W W2:World} {S S2 S':Nat→Prop}
theorem Kept.refl (w:World) (S:Nat→Prop):Kept w w S:=⟨Nat.le_refl _,fun _ _ _=>rfl⟩
theorem Kept.drewN (h:Kept w W S) (m:Nat):Kept w (W.drewN m) S:=h
end
end WW
namespace A
open Go.RowKit B WW WL WM
theorem zq2 {P:Prop} (h:P:=by repeat (first|(with_reducible first|exact Below.refl _ _|apply below_drew|apply pw_below_drewN|apply below_alloc)|(with_reducible refine below_setN ?_ (by simp) _))):P:=h
theorem zq3 {P:Prop} (h:P:=by repeat (first|(with_reducible first|exact HB.out|apply below_drew|apply pw_below_drewN|apply below_alloc)|(with_reducible refine below_setN ?_ (by simp) _))):P:=h
theorem zq13 {P:Prop} (h:P:=by (with_reducible repeat (first|apply Kd.R_alloc|apply Kd.R_drewN|apply Kd.R_drew));exact Kd.R_mono (Kd.R_far (p:=⟨gb201,1,none⟩) (Kd.R_far (p:=⟨gb201,0,none⟩) (Kd.R_far (p:=⟨gb200,2,none⟩) (Kd.R_far (p:=⟨gb200,1,none⟩) (Kd.R_far (p:=⟨gb200,0,none⟩) (Kd.R_types (Kd.R_mono HO_2.out (fun k_ hk=>(⟨hk,hk.2⟩:_∧k_≠gb200))) BK201.out (by decide)) (fun _ hk=>hk.1.2) (.int .i64 t194)) (fun _ hk=>hk.1.2) (.string t195)) (fun _ hk=>hk.1.2) (.int .i64 t196)) (fun _ hk=>hk.2) (.int .i64 t198)) (fun _ hk=>hk.2) (.int .i64 t199)) (fun _ hk=>hk.1.1.2)):P:=h
theorem zq20 {P:Prop} (h:P:=by repeat (first|(with_reducible first|exact HB.out|exact Below.refl _ _|apply below_alloc|apply pw_below_drewN|apply below_drew1)|exact HB.out)):P:=h
end A
namespace WW
open Go.RowKit
section
variable {P:Program} {ops:Array Oper} {rest:List Oper} {o:Oper} {a:Act} {Q:Exit→Act→World→Prop} {W:World}
theorem gate_callee {f:FuncId} {as_:Array Operand} {ts:Array TypeId} (_ho:o.op=.call { callee:=.value (.func f),args:=as_,argTypes:=ts }) (h:wpList P ops Q (o :: rest) a W):wpList P ops Q (o :: rest) a W:=h
theorem gate_builtin {b:Builtin} {xs:Array Operand} {ts:Array TypeId} (_ho:o.op=.call { callee:=.builtin b,args:=xs,argTypes:=ts }) (h:wpList P ops Q (o :: rest) a W):wpList P ops Q (o :: rest) a W:=h
end
end WW
namespace B
open Go.RowKit
theorem any_drewN {W:World} {a:Addr} {n:Nat} (h:∃ x,W.cell? a=some x):∃ x,(W.drewN n).cell? a=some x:=h
theorem has_drewN {W:World} {a:Addr} {n:Nat} {v:Value} (h:W.cell? a=some v):(W.drewN n).cell? a=some v:=h
end B
namespace WW
open Go.RowKit
section
variable {P:Program} {ops:Array Oper} {rest:List Oper} {o:Oper} {a:Act} {Q:Exit→Act→World→Prop} {W:World}
theorem gate_dst {N:Tmp} (_hN:o.dst=some N) (h:wpList P ops Q (o :: rest) a W):wpList P ops Q (o :: rest) a W:=h
end
end WW
namespace WW
open Go.RowKit
section
variable {P:Program} {ops:Array Oper} {o:Oper} {a:Act} {Q:Exit→Act→World→Prop} {K:Act→World→Prop}
theorem step_append_cells {w0 W:World} (base:Nat) (hw:Region.wanted o (yielded ops a.tmps)=true) (s x:Operand) (t e:TypeId) (z:Value) (size bytes:Nat)
    (ho:o.op=.call { callee:=.builtin .append,args:=#[s,x],argTypes:=#[t,t] })
    (ht:P.underlying t=some (.slice e)) (hinfo:(P.info? e).map (fun i=>(i.zero,i.size,i.bytes))=some (some z,size,bytes)) (hz:z.cells.size=size) (hs0:0 < size) (hb0:0 < bytes)
    (v:Value) (n:Nat) (xs ys:List Value) (hs:a.eval s=v) (hx:a.eval x=.slice (some ⟨W.heap.size,0,none⟩) 1 1) (hys:ys.length=size) (h1:∀ u∈ys,u.oneCell'=true)
    (HO:W.ownsRow base e size v n xs) (HB:Below base w0 W) (hbase:base≤W.heap.size) (hl:(n+1) * bytes≤140737488355328)
    (h:∀ v1 w1,w1.ownsRow base e size v1 (n+1) (xs++ys)→Below base w0 w1→W.grownBy w1 v.ownBlock→(v1.ownBlock=v.ownBlock∨∃ b,v1.ownBlock=some b∧W.heap.size≤b)→K (a.put o.dst v1) w1) :
    if Region.wanted o (yielded ops a.tmps)=true then Oper.wp P o a (W.alloc (.cells ys.toArray e)) K Q else K (a.put o.dst undef) (W.alloc (.cells ys.toArray e)):=by
  obtain ⟨i0,hi,hzz⟩:=Option.map_eq_some_iff.1 hinfo;simp only [Prod.mk.injEq] at hzz
  obtain ⟨hz0,hz1,hz2⟩:=hzz;have hlen:n+1≤140737488355328:=Nat.le_trans (Nat.le_mul_of_pos_right _ hb0) hl;rw [if_pos hw]
  obtain ⟨v1,w1,hr,hown,hg,_,hat⟩:=run_append_own_at (P:=P) (W.alloc (.cells ys.toArray e)) base t o.type e i0 z size bytes ht hi hz0 hz1 hz2 hz hs0 v n xs (HO.alloc _) ⟨W.heap.size,0,none⟩ 1 1 ys (by rw [hys];simp)
    (by simpa using World.news_of_block (cs:=ys.toArray) (t:=e) (fr:=(0,0)) (heap_alloc_new W (.cells ys.toArray e))) h1 (by simp only [maxLen];omega) hl (by simp;omega)
  unfold Oper.wp execOp;simp only [ho,resolve,invoke,builtin,Sem.run_bind,Sem.run_pure,Result.andThen_ok,List.map_toArray,List.map_cons,List.map_nil,hs,hx,hr]
  refine h v1 w1 hown ((HB.alloc hbase _).grown hg (by simp;omega) (own_base HO)) (World.grownBy.trans (World.grownBy_alloc W _ _) hg) ?_;rcases hat with hat|hat
  · exact .inl hat
  · exact .inr ⟨_,hat,by simp⟩
end
end WW
namespace WW
open Go.RowKit
section
variable {P:Program}
theorem results_ct {fn:Func} {p u:Tmp} {ty:TypeId} (h:fn.results=#[.cell p ty,.tmp u]) (tmps:Array Value) (w:World) (g:Nat) (t:TypeId) (cs:Array Value) (fr:Nat×Nat) (d:TypeDesc)
    (hp:tmps.getD p undef=.pointer (some ⟨g,0,none⟩)) (hg:w.heap[g]?=some (.cells cs t fr))
    (hu:P.underlying ty=some d) (hd:(match d with|.struct _|.array _ _=>true|_=>false)=true) (hi:(P.info? ty).map (·.size)=some cs.size) :
    (results fn tmps).run P w=.ok (.tuple #[.agg cs,tmps.getD u undef]) w:=by
  have hp':tmps[p]?.getD undef=.pointer (some ⟨g,0,none⟩):=by simpa using hp
  simp [results,h,hp',asAddr,run_loadVar_row w g t ty cs fr d hg hu hd hi]
end
end WW
namespace WW
open Go.RowKit
namespace Kd
section
variable {α:Type} {d:Kd α} {e base g n cap:Nat} {ok okp:Nat→Prop} {W:World} {xs:List α}
theorem R_elem (h:d.R e W base ok (.slice (some ⟨g,0,none⟩) n cap) xs) (z:α) (i:Int) (h0:0≤i) (h1:i < n) :
    ∃ c,c.length=d.sz∧d.M W base (fun k=>ok k∧k≠g) (xs.getD i.toNat z) c∧(∀ j u,c[j]?=some u→W.cell? ⟨g,i.toNat * d.sz+j,none⟩=some u)∧∀ j,W.frozen? ⟨g,i.toNat * d.sz+j,none⟩=false:=by
  obtain ⟨hn,hnc,hC⟩:=R_reads' h;obtain ⟨_,inner,ho,hr⟩:=h;have hil:i.toNat < xs.length:=by omega
  have hseg:i.toNat * d.sz+d.sz≤inner.length:=by rw [hr.1,← Nat.succ_mul];exact Nat.mul_le_mul_right _ hil
  have hM:=hr.2 i.toNat _ (List.getElem?_eq_getElem hil);refine ⟨(inner.drop (i.toNat * d.sz)).take d.sz,by rw [List.length_take,List.length_drop];omega,?_,fun j u hu=>?_,fun j=>?_⟩
  · rw [List.getD_eq_getElem?_getD,List.getElem?_eq_getElem hil]
    exact d.M_mono (fun k hk=>⟨hk.1,fun he=>hk.2 (by rw [he];simp [Value.ownBlock])⟩) hM
  · rw [List.getElem?_take] at hu
    split at hu
    · rw [List.getElem?_drop] at hu
      have:=ho.cells (g:=g) (by simp [Value.ownBlock]) _ u hu;rwa [add_plain] at this
    · cases hu
  · obtain ⟨cells,hc⟩:=own_typed ho g (by simp [Value.ownBlock])
    exact blk_frozen hc _
end
end Kd
end WW
namespace WW
open Go.RowKit
namespace Kd
section
variable {α:Type} {d:Kd α} {e:Nat} {w w1 W:World} {base:Nat} {ok ok':Nat→Prop} {v:Value} {xs:List α}
theorem Q_of_R (h:d.R e w base ok v xs):d.Q e w base ok v xs:=by
  obtain ⟨h0,inner,ho,hr⟩:=h;exact ⟨h0,inner,q_of_own ho,hr⟩
theorem Q_nil (d:Kd α) (e:Nat) (w:World) (base:Nat) (ok:Nat→Prop):d.Q e w base ok (.slice none 0 0) []:=Q_of_R (R_nil d e w base ok)
end
end Kd
end WW
namespace WW
open Go.RowKit
namespace Kd
section
variable {P:Program} {ops:Array Oper} {rest:List Oper} {o:Oper} {a:Act} {Q:Exit→Act→World→Prop}
variable {α:Type}
theorem R_lit (d:Kd α) {w0 W:World} (base e:Nat) (hgd:o.guard=none) {N:Tmp} (_hd:o.dst=some N) {xs:List α} {inner:List Value} {ok okp:Nat→Prop}
    (hrun:(execOp a.eval o).run P W=.ok (.value (.slice (some ⟨W.heap.size,0,none⟩) xs.length xs.length)) (W.alloc (.cells inner.toArray e)))
    (hrep:Reps (d.M W base okp) d.sz xs inner) (hok:∀ k,okp k→ok k) (hfresh:ok W.heap.size) (HB:Below base w0 W) (hbase:base≤W.heap.size) (hm:xs.length≤9223372036854775807)
    (h:∀ v1 w1,d.R e w1 base ok v1 xs→Below base w0 w1→W.grownBy w1 none→(∃ b,v1.ownBlock=some b∧W.heap.size≤b)→wpList P ops Q rest (a.put o.dst v1) w1):wpList P ops Q (o :: rest) a W:=by
  refine event_run hgd hrun (h _ _ ⟨fun k hk=>?_,inner,?_,?_⟩ (HB.alloc hbase _) (World.grownBy_alloc W _ none) ⟨W.heap.size,by simp [Value.ownBlock],Nat.le_refl _⟩)
  · have:W.heap.size=k:=by simpa [Value.ownBlock] using hk
    subst this;exact hfresh
  · have h2:=World.ownsRow_lit (base:=base) (e:=e) (size:=d.sz) W inner.toArray xs.length hbase (by simpa [maxLen] using hm) (by simpa using hrep.1)
    simpa using h2
  · refine hrep.imp_ (fun p c hp=>d.M_mono (fun k hk=>⟨hok k hk.1,fun he=>?_⟩) (M_below (d.M_bound hp) (below_alloc (Below.refl _ _) _)))
    have h3:k=W.heap.size:=by simpa [Value.ownBlock] using he
    have:=hk.2.2.1;omega
end
end Kd
end WW
namespace WW
open Go.RowKit
namespace Kd
section
variable {α β:Type} {d:Kd α} {d':Kd β} {e e':Nat} {w w1 W:World} {base b:Nat} {ok ok' okv oku:Nat→Prop} {u v:Value} {xs:List α} {ys:List β}
theorem S_nil (d:Kd α) (e:Nat) (w:World) (base:Nat) (ok:Nat→Prop):S d e w base ok (.slice none 0 0) []:=⟨fun _=>0,R_nil _ _ _ _ _⟩
end
end Kd
end WW
namespace WW
open Go.RowKit
namespace Foot
variable {P Q:World→Prop} {W W1:World} {ok ok':Nat→Prop}
theorem mono (h:Foot P W ok) (hok:∀ k,ok k→ok' k):Foot P W ok':=fun W' hW=>h W' (fun k hk hlt=>hW k (hok k hk) hlt)
end Foot
end WW
namespace WW
open Go.RowKit
theorem drewN_self (w:World) (n:Nat):w.drewN n=w.drewN n:=rfl
end WW
namespace WW
theorem Reps.one {α:Type} {R:α→List Value→Prop} {ps:List α} {cs:List Value} {p:α} {v:Value} (hp:R p [v]) (h:Reps R 1 ps cs):Reps R 1 (p :: ps) (v :: cs):=by
  refine ⟨by simp [h.1],fun j q hq=>?_⟩
  cases j with
 |zero =>
    simp only [List.getElem?_cons_zero,Option.some.injEq] at hq
    subst hq;simpa using hp
 |succ j =>
    simp only [List.getElem?_cons_succ] at hq
    have h1:=h.2 j q hq;simpa [Nat.mul_one] using h1
end WW
namespace WL
open WW (Aside0)
def opsIn:Code→Nat→Option (Array Oper)
 |.region id ops _,k=>if id == k then some ops else none
 |.seq a b,k=>match opsIn a k with
   |some o=>some o
   |none=>opsIn b k
 |.cond _ a b,k=>match opsIn a k with
   |some o=>some o
   |none=>opsIn b k
 |.block _ c,k=>opsIn c k
 |.loop c,k=>opsIn c k
 |.scope c,k=>opsIn c k
 |.rangeFunc _ _ a b,k=>match opsIn a k with
   |some o=>some o
   |none=>opsIn b k
 |_,_=>none
end WL

end Go.Proofs.YtlblkojjpagbkaaDoor