-- By pack.py, a program of this session's.
import Derived.ArgAppend
import Derived.Below
import Derived.BigQuiet
import Derived.Deep.AppendLies
import Derived.Deep.CutBlock
import Derived.Deep.DeepCutAuto
import Derived.Deep.Draws
import Derived.Deep.LoopGhost
import Derived.Deep.OwnRows
import Derived.Deep.QuietTactic
import Derived.Deep.RegionHeld3
import Derived.Deep.RegionWith
import Derived.IntWalk
import Derived.KernelRfl
import Derived.Laws.Bits64b
import Derived.Laws.BitsAllLaws
import Derived.Laws.BitsLemmas
import Derived.Laws.BytesArg
import Derived.Laws.Cover1
import Derived.Laws.EntriesVeiled
import Derived.Laws.Externs
import Derived.Laws.IdiomCopy
import Derived.Laws.MakeOwn
import Derived.Laws.OwnMore
import Derived.Laws.RangeAny
import Derived.Laws.Rows
import Derived.Laws.Slices
import Derived.Laws.StructEq
import Derived.Lib.AppendStr
import Derived.Lib.ConvBytes
import Derived.Lib.Hide
import Derived.Lib.IndexBytes
import Derived.Lib.ItoaNum
import Derived.Lib.LaidTab
import Derived.Lib.Mul64
import Derived.Lib.OthersKept
import Derived.Lib.Space
import Derived.Lib.Walk
import Derived.Maps.AppendAt
import Derived.OpenShut
import Derived.OrdersHeld
import Derived.OwnWalk
import Derived.RowKit
import Derived.RowKit3
import Derived.ScopeJumps
import Derived.Shelf.Strings.Fields
import Derived.Shelf.Strings.OnBuilder
import Derived.Shelf.Strings.Prefix
import Derived.Shelf.Strings.Search3
import Derived.Stop.LaidErr
import Derived.Tactics
import Derived.Test.YtlblkojjpagbkaaDoorProg
import Derived.WalkKit
import Derived.WalkMore
import Derived.WideLaws
namespace Go.Proofs.YtlblkojjpagbkaaDoor
namespace B
end B
namespace WW
end WW
namespace WL
end WL
namespace WM
end WM
end Go.Proofs.YtlblkojjpagbkaaDoor
set_option linter.unusedVariables false
set_option linter.unusedSimpArgs false
namespace Go.Proofs.YtlblkojjpagbkaaDoor
namespace WW
open Go.RowKit
structure Aside0 (p:Prop):Prop where mk :: (out:p)
def rd (xs:List Int) (i:Int):Int:=xs.getD i.toNat 0
def bt (s:ByteArray) (i:Int):Int:=if h:i.toNat < s.size then ((s[i.toNat]'h).toNat:Int) else 0
theorem bt_at (s:ByteArray) (i:Int):∀ h:i.toNat < s.size,((s[i.toNat]'h).toNat:Int)=bt s i:=fun h=>by simp [bt,h]
def nums (k:IntKind) (xs:List Int):List Value:=xs.map fun x=>.int k x
theorem below_alloc {w W:World} (h:Below w.heap.size w W) (o:Obj):Below w.heap.size w (W.alloc o):=h.alloc h.size o
theorem below_drew {B:Nat} {w W:World} (h:Below B w W):Below B w W.drew:=⟨h.os,h.tape,h.output,h.size,h.block⟩
theorem pw_below_drewN {B:Nat} {w W:World} (h:Below B w W) (n:Nat):Below B w (W.drewN n):=⟨h.os,h.tape,h.output,h.size,h.block⟩
theorem below_then {B:Nat} {w w1 w2:World} (h:Below B w w1) (hB:B≤w1.heap.size) (k:Below w1.heap.size w1 w2):Below B w w2 :=
  h.trans ⟨k.os,k.tape,k.output,k.size,fun i hi=>k.block i (Nat.lt_of_lt_of_le hi hB)⟩
theorem grown_of_below {w w1:World} (h:Below w.heap.size w w1) (row:Option Nat):w.grownBy w1 row:=⟨h.os,h.tape,h.output,h.size,fun i hi _=>h.block i hi⟩
theorem add_plain (g j:Nat):(⟨g,0,none⟩:Addr).add j=⟨g,j,none⟩:=by unfold Addr.add;split <;> simp_all
def ReadsInt (w:World) (k:IntKind) (A:Option Addr) (n:Nat) (xs:List Int):Prop :=
  xs.length=n∧n≤9223372036854775807∧(0 < n→∃ ad,A=some ad∧∀ j,j < n→w.cell? (ad.add j)=some (.int k (xs.getD j 0)))
theorem ReadsInt.at_ {w:World} {k:IntKind} {A:Option Addr} {n:Nat} {xs:List Int} (h:ReadsInt w k A n xs) (i:Int) (h0:0≤i) (h1:i < n):∃ ad,A=some ad∧w.cell? (ad.add i.toNat)=some (.int k (rd xs i)):=by
  obtain ⟨ad,e,hc⟩:=h.2.2 (by omega);exact ⟨ad,e,hc _ (by omega)⟩
theorem own_nil (W:World) (base:Nat) (e:TypeId) (size:Nat):W.ownsRow base e size (.slice none 0 0) 0 []:=⟨by simp,.inl ⟨rfl,rfl⟩⟩
theorem pw_own_below {w w1:World} {base:Nat} {e:TypeId} {size n:Nat} {v:Value} {xs:List Value} (h:w.ownsRow base e size v n xs) (hb:Below w.heap.size w w1):w1.ownsRow base e size v n xs :=
  h.kept (grown_of_below hb none) (by cases v.ownBlock <;> simp)
theorem own_string {P:Program} {w:World} {base n:Nat} {e' src dst e:TypeId} {v:Value} {xs:List Int} (hs:P.underlying src=some (.slice e)) (he:P.underlying e=some (.int .u8)) (hd:P.underlying dst=some .string)
    (h:w.ownsRow base e' 1 v n (nums .u8 xs)):(convert src dst v).run P w=.ok (.string (strOfNums xs)) w:=by
  have hl:xs.length=n:=by have:=h.1;simp [nums] at this;exact this
  rcases h.2 with ⟨rfl,rfl⟩|⟨g,cap,cur,rfl,_⟩
  · obtain rfl:xs=[]:=List.eq_nil_of_length_eq_zero hl
    exact run_convert_bytes_nil w src e hs he 0 0 dst hd
  · refine run_convert_bytes_arg w src e hs he g 0 n cap xs hl (fun i hi=>?_) dst hd
    have hc:=h.cells (g:=g) rfl i (.int .u8 (xs.getD i 0)) (by simp [nums,List.getElem?_eq_getElem (show i < xs.length by omega),List.getD_eq_getElem?_getD]);have ha:(⟨g,0,none⟩:Addr).add i=⟨g,0+i,none⟩:=by unfold Addr.add;split <;> simp_all
    rwa [ha] at hc
def bytesOf (s:ByteArray):List Int:=s.data.toList.map fun b=>(b.toNat:Int)
theorem data_length (s:ByteArray):s.data.toList.length=s.size:=by rw [Array.length_toList];rfl
theorem ReadsInt.take_ {w:World} {k:IntKind} {A:Option Addr} {n:Nat} {xs:List Int} (h:ReadsInt w k A n xs) (i:Nat) (hi:i≤n):ReadsInt w k A i (xs.take i):=by
  refine ⟨by rw [List.length_take,h.1];omega,by have:=h.2.1;omega,fun hp=>?_⟩;obtain ⟨ad,e,hc⟩:=h.2.2 (by omega);refine ⟨ad,e,fun j hj=>?_⟩;rw [hc j (by omega)];simp [List.getD_eq_getElem?_getD,hj]
theorem own_ne {w:World} {base:Nat} {e t:TypeId} {size n g:Nat} {v:Value} {xs:List Value} {cs:Array Value} (h:w.ownsRow base e size v n xs) (hg:w.heap[g]?=some (.cells cs t (0,0))) (hne:e≠t):some g≠v.ownBlock:=by
  rcases h.2 with ⟨rfl,_⟩|⟨g',cap,cur,rfl,_,hh,_⟩
  · simp [Value.ownBlock]
  · intro he
    have:g=g':=by simpa [Value.ownBlock] using he
    subst this;rw [hg] at hh;injection hh with hh
    injection hh with _ ht
    exact hne ht.symm
theorem blk_lt {w:World} {g:Nat} {o:Obj} (h:w.heap[g]?=some o):g < w.heap.size:=(Array.getElem?_eq_some_iff.1 h).1
def Ev {α:Type} (g:Nat→Option α) (r:α):Prop:=∃ K,∀ k,K≤k→g k=some r
theorem Ev.now {α:Type} (r:α):Ev (fun _=>some r) r:=⟨0,fun _ _=>rfl⟩
theorem Ev.rounds {α:Type} {g:Nat→Option α} {r:α} (h:Ev g r):∃ k,g k=some r:=by
  obtain ⟨K,h⟩:=h;exact ⟨K,h K (Nat.le_refl _)⟩
theorem blk_drew {w:World} {g:Nat} {o:Obj} (h:w.heap[g]?=some o):w.drew.heap[g]?=some o:=h
theorem blk_drewN {w:World} {g:Nat} {o:Obj} (h:w.heap[g]?=some o) (n:Nat):(w.drewN n).heap[g]?=some o:=h
theorem blk_new (w:World) (o:Obj):(w.alloc o).heap[w.heap.size]?=some o:=heap_alloc_new w o
theorem add_add (a:Addr) (i j:Nat):(a.add i).add j=a.add (i+j):=by
  unfold Addr.add;by_cases h1:i=0 <;> by_cases h2:j=0 <;> simp [h1,h2,Nat.add_assoc]
theorem below_size {w W:World} (h:Below w.heap.size w W):w.heap.size≤W.heap.size:=h.size
theorem below_step {w W w2:World} (h:Below w.heap.size w W) (k:Below W.heap.size W w2):Below w.heap.size w w2:=below_then h h.size k
theorem ReadsInt.drewN {W:World} {k:IntKind} {A:Option Addr} {n:Nat} {xs:List Int} (h:ReadsInt W k A n xs) (m:Nat):ReadsInt (W.drewN m) k A n xs:=h
theorem cell_far {W:World} {p a:Addr} (h:a.block≠p.block) (u:Value):(W.setCell p u).cell? a=W.cell? a:=by
  have:=Below.heap_setCell W p u a.block h;simp [World.cell?,this]
theorem below_drew1 {base:Nat} {w W:World} (h:Below base w W):Below base w W.drew:=h.drew
end WW
namespace A
open Go.RowKit B WW WL WM
theorem zq6 {P:Prop} (h:P:=by repeat (first|(with_reducible first|exact HB.out|apply below_alloc|apply pw_below_drewN|apply below_drew1)|exact HB.out)):P:=h
theorem zq8 {P:Prop} (h:P:=by have:=HK1.out;first|omega|exact Nat.le_refl _):P:=h
theorem zq16 {P:Prop} (h:P:=by have:=HJ1.out;have:=HJ5.out;first|omega|exact Nat.le_refl _):P:=h
theorem zq17 {P:Prop} (h:P:=by rw [HR.out,if_pos (by omega)];(try rfl)):P:=h
theorem zq21 {P:Prop} (h:P:=by have:=HJ1.out;have:=HK2.out;omega):P:=h
theorem zq22 {P:Prop} (h:P:=by rw [World.frozen?_setCell];exact h.f0):P:=h
theorem zq23 {P:Prop} (h:P:=by rw [World.frozen?_setCell];exact h.f1):P:=h
theorem zq24 {P:Prop} (h:P:=by rw [World.frozen?_setCell];exact h.f2):P:=h
theorem zq25 {P:Prop} (h:P:=by repeat (first|exact HB.out|apply pw_below_drewN|apply below_drew1)):P:=h
theorem zq71 {P:Prop} (h:P:=by simp only [List.map_toArray,List.map_cons,List.map_nil,List.append_toArray,List.cons_append,List.nil_append];rfl):P:=h
theorem zq79 {P:Prop} (h:P:=by have:=HLN.out.1;have:=HLL.out;omega):P:=h
def leapN (y:Nat):Bool:=(decide (y % 4=0) && decide (y % 100≠0)) || decide (y % 400=0)
end A
namespace B
open Go.Lib Go.RowKit WW
def I64 (n:Int):Prop:=-9223372036854775808≤n∧n≤9223372036854775807
instance (n:Int):Decidable (I64 n):=by unfold I64;infer_instance
def fit (n:Int):Int×Bool:=if I64 n then (n,true) else (0,false)
theorem fit_yes {n:Int} (h:I64 n):fit n=(n,true):=if_pos h
theorem fit_no {n:Int} (h:¬ I64 n):fit n=(0,false):=if_neg h
theorem wu64 (x:Int):IntKind.u64.wrap x=x % 18446744073709551616:=by simp [IntKind.wrap,IntKind.signed,IntKind.bits]
theorem nDigits_of (u k:Nat) (h1:u / 10 ^ (k+1)=0) (h2:k=0∨u / 10 ^ k≠0):nDigits u=k+1:=by
  have hp:0 < 10 ^ k:=Nat.pow_pos (by decide);have hq:0 < 10 ^ (k+1):=Nat.pow_pos (by decide);have hu:u < 10 ^ (k+1):=(Nat.div_eq_zero_iff_lt hq).mp h1;rcases h2 with rfl|h2
  · exact nDigits_small (by simpa using hu)
  · refine nDigits_unique k u ?_ hu
    rcases Nat.lt_or_ge u (10 ^ k) with h|h
    · exact absurd (Nat.div_eq_of_lt h) h2
    · exact h
theorem itoa_neg' {n:Int} (h:n < 0):itoa n=45 :: decDigits n.natAbs:=by rw [itoa,if_pos h]
theorem natAbs_mul' (a b:Int):(a * b).natAbs=a.natAbs * b.natAbs:=Int.natAbs_mul a b
theorem mul_sign (a b:Int):(decide (a < 0) != decide (b < 0))=true→a * b≤0:=by
  intro h;by_cases ha:a < 0
  · by_cases hb:b < 0
    · simp [ha,hb] at h
    · exact Int.mul_nonpos_of_nonpos_of_nonneg (by omega) (by omega)
  · by_cases hb:b < 0
    · exact Int.mul_nonpos_of_nonneg_of_nonpos (by omega) (by omega)
    · simp [ha,hb] at h
theorem mul_sign' (a b:Int):(decide (a < 0) != decide (b < 0))=false→0≤a * b:=by
  intro h;by_cases ha:a < 0
  · by_cases hb:b < 0
    · exact Int.mul_nonneg_of_nonpos_of_nonpos (by omega) (by omega)
    · simp [ha,hb] at h
  · by_cases hb:b < 0
    · simp [ha,hb] at h
    · exact Int.mul_nonneg (by omega) (by omega)
theorem Ev.yes {α:Type} {c:Prop} [Decidable c] {A B:Nat→Option α} {r:α} (h:c) (k:Ev A r):Ev (fun n=>if c then A n else B n) r:=by simpa only [if_pos h] using k
theorem Ev.no {α:Type} {c:Prop} [Decidable c] {A B:Nat→Option α} {r:α} (h:¬ c) (k:Ev B r):Ev (fun n=>if c then A n else B n) r:=by simpa only [if_neg h] using k
theorem Ev.both {α:Type} {c:Prop} [Decidable c] {A B:Nat→Option α} {r:α} (k:c→Ev A r) (l:¬ c→Ev B r):Ev (fun n=>if c then A n else B n) r:=by
  by_cases h:c
  · exact Ev.yes h (k h)
  · exact Ev.no h (l h)
theorem Ev.is {α:Type} {a r:α} (h:a=r):Ev (fun _=>some a) r:=h ▸ Ev.now _
theorem bt_eq (s:ByteArray) (i:Int):bt s i=((s.data.toList.getD i.toNat 0).toNat:Int):=by
  unfold bt;split
  · rename_i h
    have h':i.toNat < s.data.toList.length:=by rw [data_length];exact h
    rw [List.getD_eq_getElem?_getD,List.getElem?_eq_getElem h'];rfl
  · rename_i h
    rw [List.getD_eq_getElem?_getD,List.getElem?_eq_none (by rw [data_length];omega)];rfl
theorem size_eq' (s:ByteArray):s.size=s.data.toList.length:=(data_length s).symm
theorem byte_is (c d:UInt8):(c.toNat:Int)=(d.toNat:Int) ↔ c=d:=by
  constructor
  · intro h;exact UInt8.toNat_inj.mp (by omega)
  · rintro rfl;rfl
def isDig (c:UInt8):Bool:=48≤c && c≤57
theorem isDig_iff (c:UInt8):isDig c=true ↔ 48≤(c.toNat:Int)∧(c.toNat:Int)≤57:=by
  simp [isDig,UInt8.le_iff_toNat_le];omega
def negOf (l:List UInt8):Bool:=l.head? == some 45
def magOf (l:List UInt8):List UInt8:=if negOf l then l.tail else l
def formedL (l:List UInt8):Bool:=!(magOf l).isEmpty && !((magOf l).head? == some 48 && (negOf l || decide (1 < (magOf l).length))) && (magOf l).all isDig
def formedM (m:List UInt8) (b:Bool):Bool:=!m.isEmpty && !(m.head? == some 48 && (b || decide (1 < m.length))) && m.all isDig
def dval (l:List UInt8):Nat:=l.foldl (fun v c=>10 * v+(c.toNat - 48)) 0
theorem dval_snoc (l:List UInt8) (c:UInt8):dval (l++[c])=10 * dval l+(c.toNat - 48):=by simp [dval,List.foldl_append]
def sgn (b:Bool) (n:Nat):Int:=if b then -(n:Int) else n
theorem sgn_big (b:Bool) {n m:Nat} (h:n≤m) (hn:¬ I64 (sgn b n)):¬ I64 (sgn b m):=by
  unfold sgn I64 at *
  cases b <;> simp only [Bool.false_eq_true,if_false,if_true] at * <;> omega
def valOf (l:List UInt8):Int:=sgn (negOf l) (dval (magOf l))
def parseL (l:List UInt8) (lo hi:Int):Int×Int:=if formedL l=true then (if I64 (valOf l)∧lo≤valOf l∧valOf l≤hi then (valOf l,0) else (0,3)) else (0,5)
def PInv (neg:Bool) (m:List UInt8) (j:Nat) (n:Int) (ok:Bool):Prop :=
  (ok=true∧n=sgn neg (dval (m.take j))∧I64 n)∨(ok=false∧n=0∧¬ I64 (sgn neg (dval (m.take j))))
theorem slot_ok {m:List UInt8} {neg:Bool} {j:Nat} {n:Int} (h:PInv neg m j n true):n=sgn neg (dval (m.take j))∧I64 n:=by
  rcases h with ⟨_,h⟩|⟨h,_⟩
  · exact h
  · cases h
theorem formed_digits {l:List UInt8} (h:formedL l=true):(magOf l).all isDig=true:=by
  unfold formedL at h;simp only [Bool.and_eq_true] at h;exact h.2
theorem formed_some {l:List UInt8} (h:formedL l=true):magOf l≠[]:=by
  intro e;unfold formedL at h;rw [e] at h;simp at h
theorem PInv.start (neg:Bool) (m:List UInt8):PInv neg m 0 0 true:=.inl ⟨rfl,by cases neg <;> rfl,by unfold I64;omega⟩
theorem dval_take (m:List UInt8) (j:Nat) (h:j < m.length):dval (m.take (j+1))=10 * dval (m.take j)+(m[j].toNat - 48):=by
  rw [List.take_succ_eq_append_getElem h,dval_snoc]
theorem sgn_times (neg:Bool) (v:Nat):sgn neg (10 * v)=sgn neg v * 10:=by unfold sgn;cases neg <;> simp <;> omega
theorem sgn_plus (neg:Bool) (v d:Nat):sgn neg (v+d)=if neg then sgn neg v - d else sgn neg v+d:=by unfold sgn;cases neg <;> simp;omega
theorem PInv.over {neg:Bool} {m:List UInt8} {j:Nat} {n:Int} (h:PInv neg m j n true) (hj:j < m.length) (ho:¬ I64 (n * 10)):PInv neg m (j+1) 0 false:=by
  obtain ⟨e,_⟩:=slot_ok h;refine .inr ⟨rfl,rfl,?_⟩;rw [dval_take m j hj];rw [e,← sgn_times] at ho;exact sgn_big neg (by omega) ho
theorem PInv.next {neg:Bool} {m:List UInt8} {j:Nat} {n:Int} (h:PInv neg m j n true) (hj:j < m.length) (hd:isDig m[j]=true) {x:Int} (hx:x=if neg then n * 10 - ((m[j].toNat:Int) - 48) else n * 10+((m[j].toNat:Int) - 48)) :
    PInv neg m (j+1) (fit x).1 (fit x).2:=by
  obtain ⟨e,_⟩:=slot_ok h;have hd':=(isDig_iff _).mp hd
  have ex:x=sgn neg (dval (m.take (j+1))):=by
    rw [dval_take m j hj,sgn_plus,sgn_times,← e,hx]
    cases neg <;> simp <;> omega
  by_cases hi:I64 x
  · rw [fit_yes hi];exact .inl ⟨rfl,ex,hi⟩
  · rw [fit_no hi];exact .inr ⟨rfl,rfl,by rw [← ex];exact hi⟩
theorem PInv.whole {neg:Bool} {m:List UInt8} {j:Nat} {n:Int} (h:PInv neg m j n true) (hj:m.length≤j):n=sgn neg (dval m)∧I64 n:=by
  have:=slot_ok h;rwa [List.take_of_length_le hj] at this
theorem parse_whole {l:List UInt8} (hf:formedL l=true) {j:Nat} {n:Int} (h:PInv (negOf l) (magOf l) j n true) (hj:(magOf l).length≤j) (lo hi:Int):parseL l lo hi=if n < lo∨hi < n then (0,3) else (n,0):=by
  obtain ⟨e,hi64⟩:=h.whole hj;unfold parseL valOf;rw [if_pos hf,← e];by_cases h1:lo≤n∧n≤hi
  · rw [if_pos ⟨hi64,h1⟩,if_neg (by omega)]
  · rw [if_neg (fun hh=>h1 hh.2),if_pos (by omega)]
def sumL (l:List Int):Int:=l.foldl (· + ·) 0
theorem sumL_snoc (l:List Int) (x:Int):sumL (l++[x])=sumL l+x:=by simp [sumL,List.foldl_append]
structure SumInv (l:List Int) (k:Nat) (hi lo:Int):Prop where
  lo_eq:lo=sumL (l.take k) % 18446744073709551616
  hi_eq:hi=sumL (l.take k) / 18446744073709551616 % 18446744073709551616
  low:-9223372036854775808 * (k:Int)≤sumL (l.take k)
  high:sumL (l.take k)≤9223372036854775807 * (k:Int)
theorem sum_step (S x lo hi:Int) (h1:lo=S % 18446744073709551616) (h2:hi=S / 18446744073709551616 % 18446744073709551616) (hx1:-9223372036854775808≤x) (hx2:x≤9223372036854775807) :
    (lo+x % 18446744073709551616+0) % 18446744073709551616=(S+x) % 18446744073709551616 ∧
    (hi+x / 9223372036854775808 % 18446744073709551616+(lo+x % 18446744073709551616+0) / 18446744073709551616) % 18446744073709551616=(S+x) / 18446744073709551616 % 18446744073709551616:=by
  obtain ⟨q,hq⟩:∃ q,q=S / 18446744073709551616:=⟨_,rfl⟩
  obtain ⟨e,he⟩:∃ e,e=x / 9223372036854775808:=⟨_,rfl⟩
  obtain ⟨c,hc⟩:∃ c,c=(lo+x % 18446744073709551616+0) / 18446744073709551616:=⟨_,rfl⟩
  have h3:(S+x) / 18446744073709551616=q+e+c:=by omega
  have h4:(S+x) % 18446744073709551616=(lo+x % 18446744073709551616+0) % 18446744073709551616:=by omega
  refine ⟨h4.symm,?_⟩;rw [h3,← hc,← he,h2,← hq];omega
theorem SumInv.next {l:List Int} {k:Nat} {hi lo:Int} (h:SumInv l k hi lo) (hk:k < l.length) (hx:I64 l[k]) :
    SumInv l (k+1) ((hi+l[k] / 9223372036854775808 % 18446744073709551616+(lo+l[k] % 18446744073709551616+0) / 18446744073709551616) % 18446744073709551616) ((lo+l[k] % 18446744073709551616+0) % 18446744073709551616):=by
  have e:sumL (l.take (k+1))=sumL (l.take k)+l[k]:=by rw [List.take_succ_eq_append_getElem hk,sumL_snoc]
  obtain ⟨hx1,hx2⟩:=hx;obtain ⟨a,b⟩:=sum_step (sumL (l.take k)) l[k] lo hi h.lo_eq h.hi_eq hx1 hx2;have:=h.low;have:=h.high;exact ⟨by rw [e,a],by rw [e,b],by rw [e];omega,by rw [e];omega⟩
theorem fit_of_mul_neg {a b:Int} {p:Nat} (hp:p=a.natAbs * b.natAbs) (h:(decide (a < 0) != decide (b < 0))=true) (h2:p≤9223372036854775808):fit (a * b)=(a * b,true):=by
  have:=mul_sign a b h;have e:=natAbs_mul' a b;exact fit_yes ⟨by omega,by omega⟩
theorem fit_of_mul_pos {a b:Int} {p:Nat} (hp:p=a.natAbs * b.natAbs) (h:(decide (a < 0) != decide (b < 0))=false) (h2:p≤9223372036854775807):fit (a * b)=(a * b,true):=by
  have:=mul_sign' a b h;have e:=natAbs_mul' a b;exact fit_yes ⟨by omega,by omega⟩
theorem fit_of_mul_neg' {a b:Int} {p:Nat} (hp:p=a.natAbs * b.natAbs) (h:(decide (a < 0) != decide (b < 0))=true) (h2:¬ p≤9223372036854775808):fit (a * b)=(0,false):=by
  have:=mul_sign a b h;have e:=natAbs_mul' a b;exact fit_no (by unfold I64;omega)
theorem fit_of_mul_pos' {a b:Int} {p:Nat} (hp:p=a.natAbs * b.natAbs) (h:(decide (a < 0) != decide (b < 0))=false) (h2:¬ p≤9223372036854775807):fit (a * b)=(0,false):=by
  have:=mul_sign' a b h;have e:=natAbs_mul' a b;exact fit_no (by unfold I64;omega)
theorem m64_maskN (a:Nat) (ha:a < 18446744073709551616):bits .and .u64 (a:Int) 4294967295=((a % 4294967296:Nat):Int):=by
  have h:=bits_and_u64_nat a 4294967295 ha (by omega);have e:a &&& 4294967295=a % 4294967296:=Nat.and_two_pow_sub_one_eq_mod a 32;rw [e] at h;exact h
theorem m64_divN (a:Nat):(a:Int) / 4294967296=((a / 4294967296:Nat):Int):=by omega
theorem m64_mulN (a b:Nat):(a:Int) * (b:Int)=((a * b:Nat):Int):=(Int.natCast_mul a b).symm
theorem m64_addN (a b:Nat):(a:Int)+(b:Int)=((a+b:Nat):Int):=(Int.natCast_add a b).symm
theorem m64_wrapN (a:Nat) (ha:a < 18446744073709551616):IntKind.u64.wrap (a:Int)=(a:Int):=by rw [IntKind.wrap_u64];omega
theorem m64_wrapM (a:Nat):IntKind.u64.wrap (a:Int)=((a % 18446744073709551616:Nat):Int):=by rw [IntKind.wrap_u64];omega
def monthLens:List Int:=[31,28,31,30,31,30,31,31,30,31,30,31]
def monLen (k:Nat):Int:=monthLens.getD k 0
theorem list_at (s:ByteArray) (i:Nat) (_h:i < s.size) (h':i < s.data.toList.length):s.data.toList[i]=s[i]:=by simp;rfl
end B
namespace WM
open Go.RowKit WW
theorem max_two (ats:Array TypeId) (ty:TypeId) (a b:Value):Builtin.max_ ats ty #[a,b]=(Builtin.max2 a b >>= fun s=>pure s):=by simp only [Builtin.max_,List.foldlM_cons,List.foldlM_nil]
theorem min_two (ats:Array TypeId) (ty:TypeId) (a b:Value):Builtin.min_ ats ty #[a,b]=(Builtin.min2 a b >>= fun s=>pure s):=by simp only [Builtin.min_,List.foldlM_cons,List.foldlM_nil]
theorem max_three (ats:Array TypeId) (ty:TypeId) (a b c:Value):Builtin.max_ ats ty #[a,b,c]=(Builtin.max2 a b >>= fun s=>Builtin.max2 s c >>= fun s=>pure s):=by simp only [Builtin.max_,List.foldlM_cons,List.foldlM_nil]
theorem min_three (ats:Array TypeId) (ty:TypeId) (a b c:Value):Builtin.min_ ats ty #[a,b,c]=(Builtin.min2 a b >>= fun s=>Builtin.min2 s c >>= fun s=>pure s):=by simp only [Builtin.min_,List.foldlM_cons,List.foldlM_nil]
theorem max_four (ats:Array TypeId) (ty:TypeId) (a b c d:Value):Builtin.max_ ats ty #[a,b,c,d]=(Builtin.max2 a b >>= fun s=>Builtin.max2 s c >>= fun s=>Builtin.max2 s d >>= fun s=>pure s):=by simp only [Builtin.max_,List.foldlM_cons,List.foldlM_nil]
theorem min_four (ats:Array TypeId) (ty:TypeId) (a b c d:Value):Builtin.min_ ats ty #[a,b,c,d]=(Builtin.min2 a b >>= fun s=>Builtin.min2 s c >>= fun s=>Builtin.min2 s d >>= fun s=>pure s):=by simp only [Builtin.min_,List.foldlM_cons,List.foldlM_nil]
end WM
namespace B
open Go.RowKit WW WL WM
theorem ifI {α:Type} {c:Prop} [Decidable c] {x y r:α} (h:(if c then x else y)=r):c∧x=r∨¬ c∧y=r:=by
  by_cases hc:c
  · exact .inl ⟨hc,by rwa [if_pos hc] at h⟩
  · exact .inr ⟨hc,by rwa [if_neg hc] at h⟩
theorem eqI {α:Type} [BEq α] [LawfulBEq α] {a b:α} (h:a=b):(a == b)=true∧(a != b)=false:=⟨beq_iff_eq.mpr h,bne_eq_false_iff_eq.mpr h⟩
theorem neI {α:Type} [BEq α] [LawfulBEq α] {a b:α} (h:¬ a=b):(a == b)=false∧(a != b)=true:=⟨beq_eq_false_iff_ne.mpr h,bne_iff_ne.mpr h⟩
theorem sd {p:Prop} (h:p):Aside0 p:=⟨h⟩
theorem od {p:Prop} [Decidable p] (h:decide p=true:=by first|(with_reducible assumption)|assumption):p:=of_decide_eq_true h
end B
namespace A
open Go.RowKit B WW WL WM
theorem w_in {x:Int} (h:-9000000000000000000≤x∧x≤9000000000000000000):wrap64 x=x:=by unfold wrap64;omega
theorem w_next (j:Nat) (h:j≤1000000):wrap64 ((j:Int)+1)=((j+1:Nat):Int):=by rw [w_in (by omega)];omega
def DP (l:List UInt8):Prop:=l.length=10∧l.getD 4 0=45∧l.getD 7 0=45∧(l.take 4).all isDig=true∧((l.take 7).drop 5).all isDig=true∧(l.drop 8).all isDig=true
instance (l:List UInt8):Decidable (DP l):=inferInstanceAs (Decidable (_∧_))
def numB (f:Int):Bool:=decide (f=1∨f=4)
def suitB (f o:Int):Bool:=decide (1≤f∧f≤4∧(o=1∨(f=1∨f=4)∧(o=2∨o=3)∨¬ (f=1∨f=4)∧(o=4∨o=5)))
theorem Ev.ex {α:Type} {f:Nat→Option α} {v:α} (h:Ev f v):∃ k,f k=some v:=by
  obtain ⟨n,hn⟩:=h;exact ⟨n,hn n (Nat.le_refl _)⟩
end A
end Go.Proofs.YtlblkojjpagbkaaDoor
namespace Go.Proofs
open Go.Shelf
def Tryd.lays156_ren:Go.Shelf.Ren:=⟨fun|156=>30|165=>48|166=>49|169=>50|240=>62|241=>63|276=>88|277=>89|n=>n,fun|31=>55|9=>9|3=>3|4=>4|0=>0|20=>20|72=>83|76=>87|70=>80|37=>81|75=>86|127=>108|164=>132|5=>5|80=>89|n=>n,fun|n=>n⟩
theorem Tryd.Builder_Extra_156:Builder.Extra Tryd.prog Tryd.lays156_ren:={
  sizeBuilder:=by kernel_rfl
  liesBuilder:=by kernel_rfl
  t5:=Tryd.underlying5
  a5:=Tryd.isAgg5
  z5:=Tryd.sizeOf5
  v5:=Tryd.zeroValue5
  infoByte:=by kernel_rfl
  cellsByte:=by kernel_rfl
  sizeByte:=by kernel_rfl
  neB5:=by decide }
def Tryd.lays144_ren:Go.Shelf.Ren:=⟨fun|144=>22|143=>42|219=>56|217=>80|225=>81|224=>82|267=>83|266=>92|314=>93|n=>n,fun|9=>9|4=>4|3=>3|5=>5|46=>124|146=>137|51=>128|n=>n,fun|1=>1|n=>n⟩
def Tryd.lays99_ren:Go.Shelf.Ren:=⟨fun|99=>24|206=>43|n=>n,fun|9=>9|4=>4|3=>3|n=>n,fun|n=>n⟩
def Tryd.lays157_ren:Go.Shelf.Ren:=⟨fun|157=>44|229=>57|199=>58|261=>84|311=>94|312=>95|n=>n,fun|9=>9|31=>55|3=>3|5=>5|4=>4|119=>98|0=>0|40=>100|152=>125|21=>21|154=>127|51=>128|141=>130|196=>142|193=>139|198=>145|49=>143|194=>140|201=>148|226=>151|46=>124|227=>152|n=>n,fun|0=>0|6=>2|n=>n⟩
end Go.Proofs
namespace Go.Proofs.YtlblkojjpagbkaaDoor
namespace WL
open WW (Aside0)
section
variable {md:Region.Mode} {ops:Array Oper} {T:Bool×List (List Nat×List Nat)} {l l' li lj lk:Array Bool} {ds:List Nat} {i j k:Nat}
theorem gd (l:Array Bool) (j:Nat) (b:Bool):l.getD j b=l.toList.getD j b:=by simp [Array.getD_eq_getD_getElem?,List.getD_eq_getElem?_getD]
def upM (B:List Nat) (d:Nat):List Nat→Nat
 |[]=>0
 |n :: r=>(2 ^ n ||| (if n < d then B.getD n 0 else 0)) ||| upM B d r
theorem upM_bit {B:List Nat} {d i:Nat}:∀ {ns:List Nat},(upM B d ns).testBit i=true→∃ n∈ns,n=i∨(n < d∧(B.getD n 0).testBit i=true)
 |[],h=>by simp [upM] at h
 |n :: r,h=>by
    unfold upM at h;rw [Nat.testBit_or,Nat.testBit_or,Bool.or_eq_true,Bool.or_eq_true] at h;rcases h with (h|h)|h
    · rw [Nat.testBit_two_pow] at h
      exact ⟨n,List.mem_cons_self,.inl (by simpa using h)⟩
    · by_cases hn:n < d
      · rw [if_pos hn] at h
        exact ⟨n,List.mem_cons_self,.inr ⟨hn,h⟩⟩
      · rw [if_neg hn] at h
        simp at h
    · obtain ⟨m,hm,h2⟩:=upM_bit h
      exact ⟨m,List.mem_cons_of_mem _ hm,h2⟩
def lastW (T:List (List Nat×List Nat)) (B:List Nat) (l:List Bool) (ds:List Nat) (i:Nat):Bool:=ds.all fun d=>l.getD d true || (decide (d < T.length) && (B.getD d 0).testBit i)
end
end WL
namespace WW
open Go.RowKit
section
variable {α:Type} {enc:α→Value} {d:α}
def rdOf (d:α) (xs:List α) (i:Int):α:=xs.getD i.toNat d
def ReadsOf (enc:α→Value) (d:α) (w:World) (A:Option Addr) (n:Nat) (xs:List α):Prop :=
  xs.length=n∧n≤9223372036854775807∧(0 < n→∃ ad,A=some ad∧∀ j,j < n→w.cell? (ad.add j)=some (enc (xs.getD j d)))
theorem ReadsOf.at_ {w:World} {A:Option Addr} {n:Nat} {xs:List α} (h:ReadsOf enc d w A n xs) (i:Int) (h0:0≤i) (h1:i < n):∃ ad,A=some ad∧w.cell? (ad.add i.toNat)=some (enc (rdOf d xs i)):=by
  obtain ⟨ad,e,hc⟩:=h.2.2 (by omega);exact ⟨ad,e,hc _ (by omega)⟩
theorem ReadsOf.take_ {w:World} {A:Option Addr} {n:Nat} {xs:List α} (h:ReadsOf enc d w A n xs) (i:Nat) (hi:i≤n):ReadsOf enc d w A i (xs.take i):=by
  refine ⟨by rw [List.length_take,h.1];omega,by have:=h.2.1;omega,fun hp=>?_⟩;obtain ⟨ad,e,hc⟩:=h.2.2 (by omega);refine ⟨ad,e,fun j hj=>?_⟩;rw [hc j (by omega)];simp [List.getD_eq_getElem?_getD,hj]
end
end WW
namespace WW
open Go.RowKit
def Foot (P:World→Prop) (W:World) (ok:Nat→Prop):Prop:=∀ W':World,(∀ k,ok k→k < W.heap.size→W'.heap[k]?=W.heap[k]?)→P W'
theorem heap_lt {W W1:World} {k:Nat} (h:W1.heap[k]?=W.heap[k]?) (hlt:k < W.heap.size):k < W1.heap.size:=by
  rw [Array.getElem?_eq_getElem hlt] at h;exact (Array.getElem?_eq_some_iff.1 h).1
end WW
namespace WW
open Go.RowKit
theorem ReadsOf.drewN {α:Type} {enc:α→Value} {d:α} {W:World} {A:Option Addr} {n:Nat} {xs:List α} (h:ReadsOf enc d W A n xs) (m:Nat):ReadsOf enc d (W.drewN m) A n xs:=h
end WW
namespace WW
open Go.RowKit
namespace Kd
theorem cell_heap {w w1:World} (hb:∀ k,k < w.heap.size→w1.heap[k]?=w.heap[k]?) {a:Addr} {v:Value} (h:w.cell? a=some v):w1.cell? a=some v:=by
  have:=hb a.block (World.block_lt_of_cell? w a h);simpa [World.cell?,this] using h
end Kd
end WW
namespace B
open Go.RowKit
def GlLt (bd:Nat):Prop:=3 < bd∧0 < bd∧1 < bd
end B
namespace A
open Go.RowKit B WW WL WM
theorem zq26 {P:Prop} (h:P:=by have:=HGB.out;have:=HB.out.size;have:=HBE.out;unfold GlLt at *;omega):P:=h
def monN (m:Nat):Int:=([31,28,31,30,31,30,31,31,30,31,30,31]:List Int).getD m 0
def lenYM (j m:Nat):Int:=if m=1 then (if leapN (1900+j)=true then 29 else 28) else monN m
def lenK (K:Nat):Int:=lenYM (K / 12) (K % 12)
def first:Nat→Int
 |0=>0
 |K+1=>first K+lenK K
end A

end Go.Proofs.YtlblkojjpagbkaaDoor