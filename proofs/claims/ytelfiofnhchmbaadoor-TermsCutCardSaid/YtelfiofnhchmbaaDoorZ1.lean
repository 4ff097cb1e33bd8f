-- By pack.py, a program of this session's: declarations of this seat's texts, put together for a claim.
import Derived.Defers
import Derived.IntWalk
import Derived.Laws.Cover1
import Derived.Laws.IdiomStrings
import Derived.Laws.Pointers
import Derived.Laws.StructEq
import Derived.Lib.LaidTab
import Derived.LoopN
import Derived.Recover
import Derived.Test.YtelfiofnhchmbaaDoorProg
import Derived.WalkLawsBesides
import Derived.WalkMore
import Derived.Test.YtelfiofnhchmbaaDoorZ0
namespace Go.Proofs.YtelfiofnhchmbaaDoor.B
open Go.Lib Go.RowKit Go.Proofs.YtelfiofnhchmbaaDoorW.PrintWords
theorem mul_lo (x y : Nat) : ((x % 4294967296 * (y / 4294967296) + ((x / 4294967296 * (y % 4294967296) + (x % 4294967296 * (y % 4294967296)) / 4294967296) % 4294967296)) % 4294967296) * 4294967296 + (x % 4294967296 * (y % 4294967296)) % 4294967296 = x * y % 18446744073709551616 := by
  have e : x * y = (x / 4294967296) * (y / 4294967296) * (4294967296 * 4294967296) + ((x / 4294967296) * (y % 4294967296) + (x % 4294967296) * (y / 4294967296)) * 4294967296 + (x % 4294967296) * (y % 4294967296) := by
    have h := Go.Lib.split_mul (x / 4294967296) (x % 4294967296) (y / 4294967296) (y % 4294967296) 4294967296
    rw [← h, Nat.div_add_mod' x 4294967296, Nat.div_add_mod' y 4294967296]
  rw [e]
  generalize (x / 4294967296) * (y / 4294967296) = a at *
  generalize (x / 4294967296) * (y % 4294967296) = b at *
  generalize (x % 4294967296) * (y / 4294967296) = c at *
  generalize (x % 4294967296) * (y % 4294967296) = d at *
  omega
theorem bcell {W w1 : World} (hb : Below W.heap.size W w1) : (∀ b o, b < W.heap.size → w1.cell? ⟨b, o, none⟩ = W.cell? ⟨b, o, none⟩) ∧ (∀ b o, b < W.heap.size → w1.frozen? ⟨b, o, none⟩ = W.frozen? ⟨b, o, none⟩) :=
  ⟨fun b o h => hb.cell (p := ⟨b, o, none⟩) h, fun b o h => hb.frozen (p := ⟨b, o, none⟩) h⟩
end Go.Proofs.YtelfiofnhchmbaaDoor.B
namespace Go.Proofs.YtelfiofnhchmbaaDoor.B
open Go.Lib Go.RowKit Go.Proofs.YtelfiofnhchmbaaDoorW.PrintWords Go.Proofs.YtelfiofnhchmbaaDoorW.PrintLast Go.Proofs.YtelfiofnhchmbaaDoorW.PrintMore
def rightS (n d : Int) : Bool := decide (1 ≤ d) && decide (d ≤ 1000000) && decide (n.natAbs ≤ 1000000) && decide (Nat.gcd n.natAbs d.natAbs = 1)
theorem tmod_nat (x y : Nat) : Int.tmod (x : Int) (y : Int) = ((x % y : Nat) : Int) := by
  rw [Int.tmod_eq_emod_of_nonneg (by omega), Int.natCast_emod]
theorem size_wrap (a : Int) (ha : I64 a) : (if a < 0 then some (IntKind.u64.wrap (-(IntKind.u64.wrap a))) else some (IntKind.u64.wrap a)) = some (a.natAbs : Int) := by
  unfold I64 at ha
  simp only [wu64]
  by_cases h : a < 0
  · rw [if_pos h]; congr 1; omega
  · rw [if_neg h]; congr 1; omega
theorem gcd_of (l0 : Nat → Int → Int → Option Int) (hl : ∀ k x y, l0 (k + 1) x y = if y = 0 then some x else l0 k y (Int.tmod x y)) : ∀ n x y : Nat, y ≤ n → Ev (fun k => l0 k (x : Int) (y : Int)) ((Nat.gcd x y : Nat) : Int)
  | 0, x, y, h => by
    obtain rfl : y = 0 := by omega
    refine Ev.step (fun k => hl k _ _) (Ev.yes (by omega) (Ev.is (by rw [Nat.gcd_zero_right])))
  | n + 1, x, y, h => by
    refine Ev.step (fun k => hl k _ _) ?_
    by_cases h0 : y = 0
    · subst h0; exact Ev.yes (by omega) (Ev.is (by rw [Nat.gcd_zero_right]))
    · refine Ev.no (by omega) ?_
      rw [tmod_nat]
      have hlt : x % y < y := Nat.mod_lt _ (by omega)
      have := gcd_of l0 hl n y (x % y) (by omega)
      rwa [show Nat.gcd y (x % y) = Nat.gcd x y by rw [Nat.gcd_comm x y, Nat.gcd_rec y x, Nat.gcd_comm]] at this
def cmp2 (a b c d : Int) : Int := if a = c then (if b = d then 0 else if b < d then -1 else 1) else if a < c then -1 else 1
def cmpS (a b c d : Int) : Int := if a * b < c * d then -1 else if c * d < a * b then 1 else 0
def dirS (a b : Int) : Int := if a = 0 ∨ b = 0 then 0 else if (decide (a < 0) != decide (b < 0)) = true then -1 else 1
theorem dirS_mul (a b : Int) : (dirS a b = 0 ∧ a * b = 0) ∨ (dirS a b = 1 ∧ 0 < a * b) ∨ (dirS a b = -1 ∧ a * b < 0) := by
  unfold dirS
  by_cases h0 : a = 0 ∨ b = 0
  · rw [if_pos h0]; exact .inl ⟨rfl, Int.mul_eq_zero.mpr h0⟩
  · rw [if_neg h0]
    have hne : a * b ≠ 0 := fun h => h0 (Int.mul_eq_zero.mp h)
    cases hs : (decide (a < 0) != decide (b < 0))
    · have := mul_sign' a b hs
      rw [if_neg (by decide)]; exact .inr (.inl ⟨rfl, by omega⟩)
    · have := mul_sign a b hs
      rw [if_pos rfl]; exact .inr (.inr ⟨rfl, by omega⟩)
theorem cmp2_eq (p q ph pl qh ql : Nat) (h1 : p / 18446744073709551616 = ph) (h2 : p % 18446744073709551616 = pl) (h3 : q / 18446744073709551616 = qh) (h4 : q % 18446744073709551616 = ql) :
    cmp2 (ph : Int) (pl : Int) (qh : Int) (ql : Int) = if p = q then 0 else if p < q then -1 else 1 := by
  unfold cmp2
  (repeat' split) <;> omega
theorem cmp_fin (a b c d : Int) (ph pl qh ql : Nat) (h1 : a.natAbs * b.natAbs / 18446744073709551616 = ph) (h2 : a.natAbs * b.natAbs % 18446744073709551616 = pl) (h3 : c.natAbs * d.natAbs / 18446744073709551616 = qh) (h4 : c.natAbs * d.natAbs % 18446744073709551616 = ql) :
    cmpS a b c d = if dirS a b < dirS c d then -1 else if dirS c d < dirS a b then 1 else if dirS a b < 0 then cmp2 (qh : Int) (ql : Int) (ph : Int) (pl : Int) else cmp2 (ph : Int) (pl : Int) (qh : Int) (ql : Int) := by
  rw [cmp2_eq _ _ ph pl qh ql h1 h2 h3 h4, cmp2_eq _ _ qh ql ph pl h3 h4 h1 h2, ← natAbs_mul', ← natAbs_mul']
  unfold cmpS
  have e1 := dirS_mul a b
  have e2 := dirS_mul c d
  generalize a * b = m at *
  generalize c * d = n at *
  generalize dirS a b = l at *
  generalize dirS c d = r at *
  clear h1 h2 h3 h4
  rcases e1 with ⟨rfl, e1⟩ | ⟨rfl, e1⟩ | ⟨rfl, e1⟩ <;> rcases e2 with ⟨rfl, e2⟩ | ⟨rfl, e2⟩ | ⟨rfl, e2⟩ <;> simp <;> (repeat' split) <;> omega
theorem far2 {k g p : Nat} (h : k ≠ g ∧ k ≠ g + 1) (hp : p = g ∨ p = g + 1) : k ≠ p := by omega
theorem cell_drew' (W : World) (a : Addr) : W.drew.cell? a = W.cell? a := rfl
theorem frozen_drew' (W : World) (a : Addr) : W.drew.frozen? a = W.frozen? a := rfl
theorem four_cells (W : World) (g : Nat) (a b c d a' b' c' d' : Value) (k0 : W.cell? ⟨g, 0, none⟩ = some a) (k1 : W.cell? ⟨g, 1, none⟩ = some b) (k2 : W.cell? ⟨g + 1, 0, none⟩ = some c) (k3 : W.cell? ⟨g + 1, 1, none⟩ = some d) :
    ((((W.setCell ⟨g, 0, none⟩ a').setCell ⟨g, 1, none⟩ b').setCell ⟨g + 1, 0, none⟩ c').setCell ⟨g + 1, 1, none⟩ d').drew.cell? ⟨g, 0, none⟩ = some a' ∧
    ((((W.setCell ⟨g, 0, none⟩ a').setCell ⟨g, 1, none⟩ b').setCell ⟨g + 1, 0, none⟩ c').setCell ⟨g + 1, 1, none⟩ d').drew.cell? ⟨g, 1, none⟩ = some b' ∧
    ((((W.setCell ⟨g, 0, none⟩ a').setCell ⟨g, 1, none⟩ b').setCell ⟨g + 1, 0, none⟩ c').setCell ⟨g + 1, 1, none⟩ d').drew.cell? ⟨g + 1, 0, none⟩ = some c' ∧
    ((((W.setCell ⟨g, 0, none⟩ a').setCell ⟨g, 1, none⟩ b').setCell ⟨g + 1, 0, none⟩ c').setCell ⟨g + 1, 1, none⟩ d').drew.cell? ⟨g + 1, 1, none⟩ = some d' := by
  have n1 : (⟨g, 1, none⟩ : Addr) ≠ ⟨g, 0, none⟩ := by simp
  have n2 : (⟨g + 1, 0, none⟩ : Addr) ≠ ⟨g, 0, none⟩ := by simp
  have n3 : (⟨g + 1, 0, none⟩ : Addr) ≠ ⟨g, 1, none⟩ := by simp
  have n4 : (⟨g + 1, 1, none⟩ : Addr) ≠ ⟨g, 0, none⟩ := by simp
  have n5 : (⟨g + 1, 1, none⟩ : Addr) ≠ ⟨g, 1, none⟩ := by simp
  have n6 : (⟨g + 1, 1, none⟩ : Addr) ≠ ⟨g + 1, 0, none⟩ := by simp
  have s1 : (W.setCell ⟨g, 0, none⟩ a').cell? ⟨g, 1, none⟩ = some b := by rw [World.cell?_setCell_other (h := n1.symm)]; exact k1
  have s2 : ((W.setCell ⟨g, 0, none⟩ a').setCell ⟨g, 1, none⟩ b').cell? ⟨g + 1, 0, none⟩ = some c := by rw [World.cell?_setCell_other (h := n3.symm), World.cell?_setCell_other (h := n2.symm)]; exact k2
  have s3 : (((W.setCell ⟨g, 0, none⟩ a').setCell ⟨g, 1, none⟩ b').setCell ⟨g + 1, 0, none⟩ c').cell? ⟨g + 1, 1, none⟩ = some d := by rw [World.cell?_setCell_other (h := n6.symm), World.cell?_setCell_other (h := n5.symm), World.cell?_setCell_other (h := n4.symm)]; exact k3
  refine ⟨(cell_drew' _ _).trans ?_, (cell_drew' _ _).trans ?_, (cell_drew' _ _).trans ?_, (cell_drew' _ _).trans ?_⟩
  · rw [World.cell?_setCell_other (h := n4), World.cell?_setCell_other (h := n2), World.cell?_setCell_other (h := n1)]; exact World.cell?_setCell_same _ _ _ k0
  · rw [World.cell?_setCell_other (h := n5), World.cell?_setCell_other (h := n3)]; exact World.cell?_setCell_same _ _ _ s1
  · rw [World.cell?_setCell_other (h := n6)]; exact World.cell?_setCell_same _ _ _ s2
  · exact World.cell?_setCell_same _ _ _ s3
theorem four_marks (W : World) (g : Nat) (a' b' c' d' : Value) (k0 : W.frozen? ⟨g, 0, none⟩ = false) (k1 : W.frozen? ⟨g, 1, none⟩ = false) (k2 : W.frozen? ⟨g + 1, 0, none⟩ = false) (k3 : W.frozen? ⟨g + 1, 1, none⟩ = false) :
    ((((W.setCell ⟨g, 0, none⟩ a').setCell ⟨g, 1, none⟩ b').setCell ⟨g + 1, 0, none⟩ c').setCell ⟨g + 1, 1, none⟩ d').drew.frozen? ⟨g, 0, none⟩ = false ∧
    ((((W.setCell ⟨g, 0, none⟩ a').setCell ⟨g, 1, none⟩ b').setCell ⟨g + 1, 0, none⟩ c').setCell ⟨g + 1, 1, none⟩ d').drew.frozen? ⟨g, 1, none⟩ = false ∧
    ((((W.setCell ⟨g, 0, none⟩ a').setCell ⟨g, 1, none⟩ b').setCell ⟨g + 1, 0, none⟩ c').setCell ⟨g + 1, 1, none⟩ d').drew.frozen? ⟨g + 1, 0, none⟩ = false ∧
    ((((W.setCell ⟨g, 0, none⟩ a').setCell ⟨g, 1, none⟩ b').setCell ⟨g + 1, 0, none⟩ c').setCell ⟨g + 1, 1, none⟩ d').drew.frozen? ⟨g + 1, 1, none⟩ = false := by
  refine ⟨(frozen_drew' _ _).trans ?_, (frozen_drew' _ _).trans ?_, (frozen_drew' _ _).trans ?_, (frozen_drew' _ _).trans ?_⟩ <;> simp only [World.frozen?_setCell]
  · exact k0
  · exact k1
  · exact k2
  · exact k3
def MinR (W : World) (g : Nat) (o : List Int) : Prop := ∀ j (h : j < o.length), W.cell? ⟨g, j, none⟩ = some (.int .u8 o[j]) ∧ W.frozen? ⟨g, j, none⟩ = false
theorem MinR.set {W : World} {g : Nat} {o : List Int} (h : MinR W g o) (j : Nat) (hj : j < o.length) (v : Int) : MinR (W.setCell ⟨g, j, none⟩ (.int .u8 v)) g (o.set j v) := by
  intro i hi
  rw [List.length_set] at hi
  rw [World.frozen?_setCell, List.getElem_set]
  refine ⟨?_, (h i hi).2⟩
  by_cases e : j = i
  · subst e
    rw [if_pos rfl]
    exact World.cell?_setCell_same _ _ _ (h j hj).1
  · rw [if_neg e, World.cell?_setCell_other (h := by rw [Ne, Addr.mk.injEq]; exact fun h => e h.2.1)]
    exact (h i hi).1
theorem MinR.C {W : World} {g : Nat} {o : List Int} (h : MinR W g o) (hl : o.length ≤ 9223372036854775807) : Kd.C (Kd.int .u8) W (some ⟨g, 0, none⟩) o.length o := by
  refine ⟨rfl, hl, fun h0 => ⟨⟨g, 0, none⟩, rfl, fun j p hj => ?_⟩⟩
  obtain ⟨hj1, rfl⟩ := List.getElem?_eq_some_iff.1 hj
  refine ⟨[.int .u8 o[j]], rfl, rfl, fun i u hi => ?_⟩
  cases i with
  | zero =>
    simp only [List.getElem?_cons_zero, Option.some.injEq] at hi
    subst hi
    rw [add_plain', show j * (Kd.int .u8).sz + 0 = j from by show j * 1 + 0 = j; omega]
    exact (h j hj1).1
  | succ i => simp at hi
theorem MinR.start (e5 : TypeId) (w : World) (s : ByteArray) (cap m : Nat) (hm : s.size ≤ m) : MinR ((w.alloc (.cells (bytesRow s cap) e5 (m, m + 1))).drew) w.heap.size (bytesOf s) := by
  intro j hj
  rw [bytesOf_length] at hj
  have h1 : ((w.alloc (.cells (bytesRow s cap) e5 (m, m + 1))).drew).cell? ⟨w.heap.size, j, none⟩ = (bytesRow s cap)[j]? := World.cell?_alloc_mark w _ _ _ j
  have h2 : ((w.alloc (.cells (bytesRow s cap) e5 (m, m + 1))).drew).frozen? ⟨w.heap.size, j, none⟩ = (decide (m ≤ j) && decide (j < m + 1)) := World.frozen?_alloc_mark w _ _ _ _ j
  rw [h1, h2, bytesRow_at s cap j hj, decide_eq_false (by omega)]
  exact ⟨by simp [bytesOf], rfl⟩
end Go.Proofs.YtelfiofnhchmbaaDoor.B
namespace Go.Proofs.YtelfiofnhchmbaaDoor.B
open Go.RowKit
open Go.Proofs.YtelfiofnhchmbaaDoorW.PrintWords Go.Proofs.YtelfiofnhchmbaaDoorW.PrintLast Go.Proofs.YtelfiofnhchmbaaDoorW.PrintMore
structure Two (W : World) (g : Nat) (a b : Value) : Prop where
  lt : g < W.heap.size
  c0 : W.cell? ⟨g, 0, none⟩ = some a
  c1 : W.cell? ⟨g, 1, none⟩ = some b
theorem Two.below {W W1 : World} {g : Nat} {a b : Value} (h : Two W g a b) (hb : Below W.heap.size W W1) : Two W1 g a b :=
  ⟨Nat.lt_of_lt_of_le h.lt hb.size, (hb.cell (p := ⟨g, 0, none⟩) h.lt).trans h.c0, (hb.cell (p := ⟨g, 1, none⟩) h.lt).trans h.c1⟩
theorem Two.alloc {W : World} {g : Nat} {a b : Value} (h : Two W g a b) (O : Obj) : Two (W.alloc O) g a b :=
  h.below (below_alloc (Below.refl _ _) _)
end Go.Proofs.YtelfiofnhchmbaaDoor.B
namespace Go.Proofs.YtelfiofnhchmbaaDoorW.PrintLast
open Go.Proofs.YtelfiofnhchmbaaDoorW.PrintWords (Aside0)
def needsOf (md : Region.Mode) (o : Oper) : List Nat := (o.after.toList.filter (fun e => Region.binds md e)).map (fun e => e.on)
def clashOf (md : Region.Mode) (ops : Array Oper) (i : Nat) (oi : Oper) : List Nat := (List.range ops.size).filter fun j => !(j == i) && match ops[j]? with
  | some oj => !(oj.after.any (fun e => Region.binds md e && e.on == i) || oi.apart ops oj)
  | none => false
def rtab (md : Region.Mode) (ops : Array Oper) : Bool × List (List Nat × List Nat) := (Region.noSelect ops, (List.range ops.size).map fun i => match ops[i]? with
  | some o => (needsOf md o, clashOf md ops i o)
  | none => ([], []))
def readyAt (T : List (List Nat × List Nat)) (l : List Bool) (i : Nat) : Bool := !l.getD i true && match T[i]? with
  | some r => r.1.all (fun j => l.getD j false)
  | none => false
def readyT (T : List (List Nat × List Nat)) (l : List Bool) : List Nat := (List.range T.length).filter (readyAt T l)
def freeT (T : List (List Nat × List Nat)) (l : List Bool) (i : Nat) : Bool := match T[i]? with
  | some r => r.2.all (fun j => l.getD j true)
  | none => false
def closedT (T : List (List Nat × List Nat)) (l : List Bool) : Bool := (List.range T.length).all fun j => !l.getD j false || match T[j]? with
  | some r => r.1.all (fun k => l.getD k false)
  | none => true
def reachT (T : List (List Nat × List Nat)) (i : Nat) : Nat → Nat → Bool
  | 0, _ => false
  | fuel + 1, d => match T[d]? with
    | some r => r.1.any fun j => j == i || reachT T i fuel j
    | none => false
def lastT (T : List (List Nat × List Nat)) (l : List Bool) (ds : List Nat) (i : Nat) : Bool := ds.all fun d => l.getD d true || reachT T i T.length d
end Go.Proofs.YtelfiofnhchmbaaDoorW.PrintLast
namespace Go.Proofs.YtelfiofnhchmbaaDoorW.PrintLast
open Go.Proofs.YtelfiofnhchmbaaDoorW.PrintWords (Aside0)
section
variable {md : Region.Mode} {ops : Array Oper} {T : Bool × List (List Nat × List Nat)} {l l' li lj lk : Array Bool} {ds : List Nat} {i j k : Nat}
theorem gd (l : Array Bool) (j : Nat) (b : Bool) : l.getD j b = l.toList.getD j b := by simp [Array.getD_eq_getD_getElem?, List.getD_eq_getElem?_getD]
theorem needs_all (o : Oper) (p : Nat → Bool) : o.after.all (fun e => !Region.binds md e || p e.on) = (needsOf md o).all p := by
  unfold needsOf
  rw [← Array.all_toList]
  induction o.after.toList with
  | nil => rfl
  | cons e r ih =>
    rw [List.all_cons, ih, List.filter_cons]
    cases h : Region.binds md e <;> simp
theorem needs_any (o : Oper) (p : Nat → Bool) : o.after.any (fun e => Region.binds md e && p e.on) = (needsOf md o).any p := by
  unfold needsOf
  rw [← Array.any_toList]
  induction o.after.toList with
  | nil => rfl
  | cons e r ih =>
    rw [List.any_cons, ih, List.filter_cons]
    cases h : Region.binds md e <;> simp
theorem rtab_length : (rtab md ops).2.length = ops.size := by simp [rtab]
theorem rtab_some {o : Oper} (h : ops[i]? = some o) : (rtab md ops).2[i]? = some (needsOf md o, clashOf md ops i o) := by
  have hi := (Array.getElem?_eq_some_iff.1 h).1
  unfold rtab
  rw [List.getElem?_map, List.getElem?_range hi, Option.map_some, h]
theorem rtab_none (h : ops[i]? = none) : (rtab md ops).2[i]? = none := by
  have hi : ops.size ≤ i := Array.getElem?_eq_none_iff.1 h
  exact List.getElem?_eq_none (by rw [rtab_length]; exact hi)
theorem readyAt_eq : readyAt (rtab md ops).2 l.toList i = (!l.getD i true && ((ops[i]?).map (·.after.all fun e => !Region.binds md e || l.getD e.on false)).getD false) := by
  unfold readyAt
  rw [gd]
  cases h : ops[i]? with
  | none => rw [rtab_none h]; rfl
  | some o =>
    rw [rtab_some h]
    simp only [Option.map_some, Option.getD_some]
    rw [← needs_all]
    simp only [gd]
theorem ready_eq : Region.ready md ops l = readyT (rtab md ops).2 l.toList := by
  unfold Region.ready readyT
  rw [rtab_length]
  refine List.filter_congr (fun i _ => ?_)
  rw [readyAt_eq]
theorem free_eq : Region.free md ops l i = freeT (rtab md ops).2 l.toList i := by
  unfold Region.free freeT
  cases h : ops[i]? with
  | none => rw [rtab_none h]
  | some oi =>
    rw [rtab_some h]
    simp only [clashOf]
    rw [List.all_filter]
    congr 1
    funext j
    rw [gd]
    cases hj : ops[j]? with
    | none => cases (j == i) <;> cases (l.toList.getD j true) <;> simp
    | some oj =>
      cases (j == i) <;> cases (l.toList.getD j true) <;> cases (oj.after.any (fun e => Region.binds md e && e.on == i) || oi.apart ops oj) <;> simp_all
theorem closed_eq : Region.closedB md ops l = closedT (rtab md ops).2 l.toList := by
  unfold Region.closedB closedT
  rw [rtab_length]
  congr 1
  funext j
  rw [gd]
  cases h : ops[j]? with
  | none => rw [rtab_none h]
  | some o =>
    rw [rtab_some h]
    simp only
    rw [← needs_all]
    simp only [gd]
theorem reach_eq : ∀ (fuel d : Nat), Region.reachB md ops i fuel d = reachT (rtab md ops).2 i fuel d
  | 0, _ => rfl
  | fuel + 1, d => by
    unfold Region.reachB reachT
    cases h : ops[d]? with
    | none => rw [rtab_none h]
    | some o =>
      rw [rtab_some h]
      simp only
      rw [← needs_any]
      congr 1
      funext e
      rw [reach_eq fuel]
theorem last_eq : Region.lastB md ops l ds i = lastT (rtab md ops).2 l.toList ds i := by
  unfold Region.lastB lastT
  rw [rtab_length]
  congr 1
  funext d
  rw [gd, reach_eq]
theorem readyAt_mem (h : readyAt T.2 l.toList i = true) (hT : rtab md ops = T) : (Region.ready md ops l).contains i = true := by
  subst hT
  rw [ready_eq]
  unfold readyT
  rw [List.contains_iff_mem, List.mem_filter, List.mem_range]
  refine ⟨?_, h⟩
  unfold readyAt at h
  rw [Bool.and_eq_true] at h
  cases hq : (rtab md ops).2[i]? with
  | none => rw [hq] at h; simp at h
  | some r => exact (List.getElem?_eq_some_iff.1 hq).1
theorem set_of (h : (l.toList.set i true == l'.toList) = true) : (l.setIfInBounds i true == l') = true := by
  rw [beq_iff_eq] at h ⊢
  apply Array.ext'
  rw [Array.toList_setIfInBounds]
  exact h
def anyT (T : Bool × List (List Nat × List Nat)) (l l' : List Bool) (i : Nat) : Bool := T.1 && freeT T.2 l i && readyAt T.2 l i && (l.set i true == l')
theorem any_of (hT : rtab md ops = T) (h : anyT T l.toList l'.toList i = true) : anyB md ops l l' i = true := by
  simp only [anyT, Bool.and_eq_true] at h
  obtain ⟨⟨⟨h1, h2⟩, h3⟩, h4⟩ := h
  have h5 := readyAt_mem h3 hT
  have h6 := set_of h4
  subst hT
  simp only [anyB, Bool.and_eq_true]
  exact ⟨⟨⟨h1, by rw [free_eq]; exact h2⟩, h5⟩, h6⟩
def takeT (T : Bool × List (List Nat × List Nat)) (ds : List Nat) (l l' : List Bool) (i : Nat) : Bool := T.1 && freeT T.2 l i && readyAt T.2 l i && closedT T.2 l && lastT T.2 l ds i && (l.set i true == l')
theorem take_of (hT : rtab md ops = T) (h : takeT T ds l.toList l'.toList i = true) : takeB md ops ds l l' i = true := by
  simp only [takeT, Bool.and_eq_true] at h
  obtain ⟨⟨⟨⟨⟨h1, h2⟩, h3⟩, h4⟩, h5⟩, h6⟩ := h
  have h7 := readyAt_mem h3 hT
  have h8 := set_of h6
  subst hT
  simp only [takeB, Bool.and_eq_true]
  exact ⟨⟨⟨⟨⟨h1, by rw [free_eq]; exact h2⟩, h7⟩, by rw [closed_eq]; exact h4⟩, by rw [last_eq]; exact h5⟩, h8⟩
theorem one_of (hT : rtab md ops = T) (h : (readyT T.2 l.toList == [i] && l.toList.set i true == l'.toList) = true) : readyB md ops l l' i = true := by
  simp only [Bool.and_eq_true] at h
  obtain ⟨h1, h2⟩ := h
  subst hT
  simp only [readyB, Bool.and_eq_true]
  exact ⟨by rw [ready_eq]; exact h1, set_of h2⟩
theorem done_of (hT : rtab md ops = T) (h : (readyT T.2 l.toList == []) = true) : (Region.ready md ops l == []) = true := by
  subst hT
  rw [ready_eq]
  exact h
def upM (B : List Nat) (d : Nat) : List Nat → Nat
  | [] => 0
  | n :: r => (2 ^ n ||| (if n < d then B.getD n 0 else 0)) ||| upM B d r
def waitsOk (T : List (List Nat × List Nat)) (B : List Nat) : Bool := (List.range T.length).all fun d => match T[d]? with
  | some r => (B.getD d 0 ||| upM B d r.1) == upM B d r.1
  | none => false
theorem upM_bit {B : List Nat} {d i : Nat} : ∀ {ns : List Nat}, (upM B d ns).testBit i = true → ∃ n ∈ ns, n = i ∨ (n < d ∧ (B.getD n 0).testBit i = true)
  | [], h => by simp [upM] at h
  | n :: r, h => by
    unfold upM at h
    rw [Nat.testBit_or, Nat.testBit_or, Bool.or_eq_true, Bool.or_eq_true] at h
    rcases h with (h | h) | h
    · rw [Nat.testBit_two_pow] at h
      exact ⟨n, List.mem_cons_self, .inl (by simpa using h)⟩
    · by_cases hn : n < d
      · rw [if_pos hn] at h
        exact ⟨n, List.mem_cons_self, .inr ⟨hn, h⟩⟩
      · rw [if_neg hn] at h
        simp at h
    · obtain ⟨m, hm, h2⟩ := upM_bit h
      exact ⟨m, List.mem_cons_of_mem _ hm, h2⟩
theorem reach_bit {T : List (List Nat × List Nat)} {B : List Nat} (hB : waitsOk T B = true) : ∀ (fuel d : Nat), d < fuel → d < T.length → (B.getD d 0).testBit i = true → reachT T i fuel d = true
  | 0, d, h, _, _ => by omega
  | fuel + 1, d, h, hd, hb => by
    have h1 := List.all_eq_true.1 hB d (List.mem_range.2 hd)
    cases hr : T[d]? with
    | none => rw [hr] at h1; simp at h1
    | some r =>
      rw [hr] at h1
      simp only [beq_iff_eq] at h1
      have h2 : (upM B d r.1).testBit i = true := by rw [← h1, Nat.testBit_or, hb, Bool.true_or]
      obtain ⟨n, hn, h3⟩ := upM_bit h2
      unfold reachT
      rw [hr]
      simp only
      rw [List.any_eq_true]
      refine ⟨n, hn, ?_⟩
      rcases h3 with rfl | ⟨h4, h5⟩
      · simp
      · rw [reach_bit hB fuel n (by omega) (by omega) h5, Bool.or_true]
def lastW (T : List (List Nat × List Nat)) (B : List Nat) (l : List Bool) (ds : List Nat) (i : Nat) : Bool := ds.all fun d => l.getD d true || (decide (d < T.length) && (B.getD d 0).testBit i)
def takeW (T : Bool × List (List Nat × List Nat)) (B : List Nat) (ds : List Nat) (l l' : List Bool) (i : Nat) : Bool := T.1 && freeT T.2 l i && readyAt T.2 l i && closedT T.2 l && lastW T.2 B l ds i && (l.set i true == l')
theorem take_ofW {B : List Nat} (hT : rtab md ops = T) (hB : waitsOk T.2 B = true) (h : takeW T B ds l.toList l'.toList i = true) : takeB md ops ds l l' i = true := by
  refine take_of hT ?_
  simp only [takeW, takeT, Bool.and_eq_true] at h ⊢
  obtain ⟨⟨⟨⟨⟨h1, h2⟩, h3⟩, h4⟩, h5⟩, h6⟩ := h
  refine ⟨⟨⟨⟨⟨h1, h2⟩, h3⟩, h4⟩, ?_⟩, h6⟩
  unfold lastW at h5
  unfold lastT
  rw [List.all_eq_true] at h5 ⊢
  intro d hd
  have h7 := h5 d hd
  rw [Bool.or_eq_true, Bool.and_eq_true, decide_eq_true_eq] at h7
  rcases h7 with h7 | ⟨h8, h9⟩
  · rw [h7, Bool.true_or]
  · rw [reach_bit hB _ d h8 h8 h9, Bool.or_true]
theorem with_tabW {P : Program} {Q : Exit → Act → World → Prop} {S : World → Prop} {n : Nat} {a : Act} {w : World} {B : List Nat} (hT : rtab md ops = T) (hB : waitsOk T.2 B = true) (h : Aside0 (rtab md ops = T) → Aside0 (waitsOk T.2 B = true) → wpAnyLast P md ops Q S ds n l a w) : wpAnyLast P md ops Q S ds n l a w := h ⟨hT⟩ ⟨hB⟩
end
end Go.Proofs.YtelfiofnhchmbaaDoorW.PrintLast
namespace Go.Proofs.YtelfiofnhchmbaaDoorW.PrintLast
open Go.Proofs.YtelfiofnhchmbaaDoorW.PrintWords (Aside0)
def opsIn : Code → Nat → Option (Array Oper)
  | .region id ops _, k => if id == k then some ops else none
  | .seq a b, k => match opsIn a k with
    | some o => some o
    | none => opsIn b k
  | .cond _ a b, k => match opsIn a k with
    | some o => some o
    | none => opsIn b k
  | .block _ c, k => opsIn c k
  | .loop c, k => opsIn c k
  | .scope c, k => opsIn c k
  | .rangeFunc _ _ a b, k => match opsIn a k with
    | some o => some o
    | none => opsIn b k
  | _, _ => none
def opsOf (f : Func) (k : Nat) : Array Oper := ((f.body.bind fun c => opsIn c k)).getD #[]
end Go.Proofs.YtelfiofnhchmbaaDoorW.PrintLast
namespace Go.Proofs.YtelfiofnhchmbaaDoor.B
set_option linter.unusedVariables false
set_option linter.unusedSimpArgs false
open Go.RowKit Go.Proofs.YtelfiofnhchmbaaDoorW.PrintWords Go.Proofs.YtelfiofnhchmbaaDoorW.PrintLast Go.Proofs.YtelfiofnhchmbaaDoorW.PrintMore
section
variable {P : Program} {md : Region.Mode} {ops : Array Oper} {Q : Exit → Act → World → Prop} {S : World → Prop} {ds : List Nat} {T : Bool × List (List Nat × List Nat)} {BB : List Nat} {oi : Oper} {v : Value} {fuel : Nat} {l l' : Array Bool} {a a' : Act} {w : World}
theorem pA (i N : Nat) (hT : rtab md ops = T) (h : wpAnyLast P md ops Q S ds fuel l' a' w)
    (hi : ops[i]? = some oi := by rfl) (hN : oi.dst = some N := by rfl) (hl : l.setIfInBounds i true = l' := by (simp only [List.setIfInBounds_toArray, List.set_cons_zero, List.set_cons_succ]; rfl))
    (hc : anyT T l.toList l'.toList i = true := by kernel_rfl) (hQ : ∀ c a w, Q (.panic c) (a.put oi.dst v) w → Q (.panic c) a w := by exact (fun _ _ _ h => h)) (hg : Region.wanted oi (yielded ops a.tmps) = true := by rfl)
    (hy : ∀ w, (execOp a.eval oi).run P w = .ok (.value v) w := by (intro w'; go_simp; with_reducible rfl))
    (ha : a.put (some N) v = a' := by (simp only [Act.put, List.setIfInBounds_toArray, List.set_cons_zero, List.set_cons_succ, i64_w, i32_w]; rfl)) : wpAnyLast P md ops Q S ds (fuel + 1) l a w :=
  pure_ l' hi hN (any_of hT hc) hQ (.inl ⟨hg, hy⟩) ha h
theorem tA (i N : Nat) (hT : rtab md ops = T) (hB : waitsOk T.2 BB = true) (hS : S w) (h : wpAnyLast P md ops Q S ds fuel l' a' w)
    (hi : ops[i]? = some oi := by rfl) (hN : oi.dst = some N := by rfl) (hl : l.setIfInBounds i true = l' := by (simp only [List.setIfInBounds_toArray, List.set_cons_zero, List.set_cons_succ]; rfl))
    (hc : takeW T BB ds l.toList l'.toList i = true := by kernel_rfl) (hQ : ∀ c a w, Q (.panic c) (a.put oi.dst v) w → Q (.panic c) a w := by exact (fun _ _ _ h => h)) (hg : Region.wanted oi (yielded ops a.tmps) = true := by rfl)
    (hy : ∀ w, S w → (execOp a.eval oi).run P w = .ok (.value v) w := by (intro w' hs_; (try dsimp only at hs_); (try go_split_ands); go_simp; with_reducible rfl))
    (ha : a.put (some N) v = a' := by (simp only [Act.put, List.setIfInBounds_toArray, List.set_cons_zero, List.set_cons_succ, i64_w, i32_w]; rfl)) : wpAnyLast P md ops Q S ds (fuel + 1) l a w :=
  take_ l' hi hN (take_ofW hT hB hc) hQ (.inl ⟨hg, hy⟩) hS ha h
theorem oA (i N : Nat) (hT : rtab md ops = T) (h : wpAnyLast P md ops Q S ds fuel l' a' w)
    (hi : ops[i]? = some oi := by rfl) (hN : oi.dst = some N := by rfl) (hl : l.setIfInBounds i true = l' := by (simp only [List.setIfInBounds_toArray, List.set_cons_zero, List.set_cons_succ]; rfl))
    (hc : anyT T l.toList l'.toList i = true := by kernel_rfl) (hQ : ∀ c a w, Q (.panic c) (a.put oi.dst undef) w → Q (.panic c) a w := by exact (fun _ _ _ h => h)) (hg : Region.wanted oi (yielded ops a.tmps) = false := by rfl)
    (ha : a.put (some N) undef = a' := by (simp only [Act.put, List.setIfInBounds_toArray, List.set_cons_zero, List.set_cons_succ, i64_w, i32_w]; rfl)) : wpAnyLast P md ops Q S ds (fuel + 1) l a w :=
  pure_ l' hi hN (any_of hT hc) hQ (.inr ⟨hg, rfl⟩) ha h
theorem pB (i N : Nat) (h : wpAnyLast P md ops Q S ds fuel l' a' w)
    (hi : ops[i]? = some oi := by rfl) (hN : oi.dst = some N := by rfl) (hl : l.setIfInBounds i true = l' := by (simp only [List.setIfInBounds_toArray, List.set_cons_zero, List.set_cons_succ]; rfl))
    (hc : anyB md ops l l' i = true := by kernel_rfl) (hQ : ∀ c a w, Q (.panic c) (a.put oi.dst v) w → Q (.panic c) a w := by exact (fun _ _ _ h => h)) (hg : Region.wanted oi (yielded ops a.tmps) = true := by rfl)
    (hy : ∀ w, (execOp a.eval oi).run P w = .ok (.value v) w := by (intro w'; go_simp; with_reducible rfl))
    (ha : a.put (some N) v = a' := by (simp only [Act.put, List.setIfInBounds_toArray, List.set_cons_zero, List.set_cons_succ, i64_w, i32_w]; rfl)) : wpAnyLast P md ops Q S ds (fuel + 1) l a w :=
  pure_ l' hi hN hc hQ (.inl ⟨hg, hy⟩) ha h
theorem tB (i N : Nat) (hS : S w) (h : wpAnyLast P md ops Q S ds fuel l' a' w)
    (hi : ops[i]? = some oi := by rfl) (hN : oi.dst = some N := by rfl) (hl : l.setIfInBounds i true = l' := by (simp only [List.setIfInBounds_toArray, List.set_cons_zero, List.set_cons_succ]; rfl))
    (hc : takeB md ops ds l l' i = true := by kernel_rfl) (hQ : ∀ c a w, Q (.panic c) (a.put oi.dst v) w → Q (.panic c) a w := by exact (fun _ _ _ h => h)) (hg : Region.wanted oi (yielded ops a.tmps) = true := by rfl)
    (hy : ∀ w, S w → (execOp a.eval oi).run P w = .ok (.value v) w := by (intro w' hs_; (try dsimp only at hs_); (try go_split_ands); go_simp; with_reducible rfl))
    (ha : a.put (some N) v = a' := by (simp only [Act.put, List.setIfInBounds_toArray, List.set_cons_zero, List.set_cons_succ, i64_w, i32_w]; rfl)) : wpAnyLast P md ops Q S ds (fuel + 1) l a w :=
  take_ l' hi hN hc hQ (.inl ⟨hg, hy⟩) hS ha h
theorem nA (N : Nat) (h : wpAnyLast P md ops Q S ds fuel l a' w) (ha : a.put (some N) v = a' := by (simp only [Act.put, List.setIfInBounds_toArray, List.set_cons_zero, List.set_cons_succ, i64_w, i32_w]; rfl)) : wpAnyLast P md ops Q S ds fuel l (a.put (some N) v) w := norm_ ha h
end
end Go.Proofs.YtelfiofnhchmbaaDoor.B
namespace Go.Proofs.YtelfiofnhchmbaaDoor.B
set_option linter.unusedVariables false
set_option linter.unusedSimpArgs false
open Go.RowKit Go.Proofs.YtelfiofnhchmbaaDoorW.PrintWords Go.Proofs.YtelfiofnhchmbaaDoorW.PrintLast Go.Proofs.YtelfiofnhchmbaaDoorW.PrintMore
section
variable {P : Program} {ops : Array Oper} {rest : List Oper} {o : Oper} {Q : Exit → Act → World → Prop} {a : Act} {w V W w1 : World} {g g' : Nat}
theorem bk2 {w : World} {g t : Nat} {v0 v1 : Value} (B : Aside0 (w.heap[g]? = some (.cells #[v0, v1] t (0, 0)))) : w.cell? ⟨g, 0, none⟩ = some v0 ∧ w.cell? ⟨g, 1, none⟩ = some v1 ∧ w.frozen? ⟨g, 0, none⟩ = false ∧ w.frozen? ⟨g, 1, none⟩ = false := ⟨(blk_cell B.out 0).trans rfl, (blk_cell B.out 1).trans rfl, blk_frozen B.out 0, blk_frozen B.out 1⟩
theorem bk3 {w : World} {g t : Nat} {v0 v1 v2 : Value} (B : Aside0 (w.heap[g]? = some (.cells #[v0, v1, v2] t (0, 0)))) : w.cell? ⟨g, 0, none⟩ = some v0 ∧ w.cell? ⟨g, 1, none⟩ = some v1 ∧ w.cell? ⟨g, 2, none⟩ = some v2 ∧ w.frozen? ⟨g, 0, none⟩ = false ∧ w.frozen? ⟨g, 1, none⟩ = false ∧ w.frozen? ⟨g, 2, none⟩ = false := ⟨(blk_cell B.out 0).trans rfl, (blk_cell B.out 1).trans rfl, (blk_cell B.out 2).trans rfl, blk_frozen B.out 0, blk_frozen B.out 1, blk_frozen B.out 2⟩
theorem bkm {ob : Obj} (B : Aside0 (V.heap[g]? = some ob)) (hb : Below W.heap.size W w1) (hs : V.heap[g]? = some ob → W.heap[g]? = some ob := by (intro h; (with_reducible repeat (first | refine blk_drewN ?_ _ | refine blk_drew ?_ | refine blk_alloc ?_ _)); exact h)) : Aside0 (w1.heap[g]? = some ob) := ⟨blk_below (hs B.out) hb⟩
theorem hbm (H : Aside0 (Below w.heap.size w V)) (hb : Below W.heap.size W w1) (hs : Below w.heap.size w V → Below w.heap.size w W := by (intro h; repeat (first | (with_reducible first | exact h | apply below_alloc | apply pw_below_drewN | apply below_drew1 | refine below_set ?_ (Aside0.out ‹_›)) | exact h))) : Aside0 (Below w.heap.size w w1) := ⟨below_step (hs H.out) hb⟩
theorem gem (hg : g = W.heap.size) (H : Aside0 (Below w.heap.size w V)) (hs : Below w.heap.size w V → Below w.heap.size w W := by (intro h; repeat (first | (with_reducible first | exact h | apply below_alloc | apply pw_below_drewN | apply below_drew1 | refine below_set ?_ (Aside0.out ‹_›)) | exact h))) : Aside0 (w.heap.size ≤ g) := ⟨by rw [hg]; exact below_size (hs H.out)⟩
theorem nlm {ob : Obj} (hg : g' = W.heap.size) (B : Aside0 (V.heap[g]? = some ob)) (hs : V.heap[g]? = some ob → W.heap[g]? = some ob := by (intro h; (with_reducible repeat (first | refine blk_drewN ?_ _ | refine blk_drew ?_ | refine blk_alloc ?_ _)); exact h)) : Aside0 (g ≠ g') := ⟨by rw [hg]; exact Nat.ne_of_lt (blk_lt (hs B.out))⟩
theorem ngm {ob : Obj} (hg : g' = W.heap.size) (B : Aside0 (V.heap[g]? = some ob)) (hs : V.heap[g]? = some ob → W.heap[g]? = some ob := by (intro h; (with_reducible repeat (first | refine blk_drewN ?_ _ | refine blk_drew ?_ | refine blk_alloc ?_ _)); exact h)) : Aside0 (g' ≠ g) := ⟨by rw [hg]; exact Nat.ne_of_gt (blk_lt (hs B.out))⟩
theorem rbm {α : Type} {d : Kd α} {e base : Nat} {ok : Nat → Prop} {v : Value} {xs : List α} (H : Aside0 (d.R e V base ok v xs)) (hb : Below W.heap.size W w1) (hs : d.R e V base ok v xs → d.R e W base ok v xs := by (intro h; (with_reducible repeat (first | apply Kd.R_alloc | apply Kd.R_drewN | apply Kd.R_drew)); exact h)) : Aside0 (d.R e w1 base ok v xs) := ⟨Kd.R_below (hs H.out) hb⟩
theorem bxA (N : Tmp) (cs : Array Value) (t : TypeId)
    (h : ∀ g, g = W.heap.size → ∀ w1, w1.heap[g]? = some (.cells cs t (0, 0)) → Below W.heap.size W w1 → wpList P ops Q rest (a.put o.dst (.pointer (some ⟨g, 0, none⟩))) w1)
    (hgd : o.guard = none := by rfl) (hd : o.dst = some N := by rfl) (hrun : (execOp a.eval o).run P W = .ok (.value (.pointer (some ⟨W.heap.size, 0, none⟩))) (W.alloc (.cells cs t (0, 0))) := by first | (go_simp; done) | (go_simp; rfl)) : wpList P ops Q (o :: rest) a W :=
  box_event hgd hd hrun h
theorem gL (N : Tmp) {f : FuncId} {fn : Func} (hf : P.funcs[f]? = some fn) (args : Array Value) {as_ : Array Operand} {ts : Array TypeId}
    (h : Calls P f args w fun e w' => ∃ v, e = .returned v ∧ wpList P ops Q rest (a.put (some N) v) w')
    (hd : o.dst = some N := by rfl) (hg : o.guard = none := by rfl) (hname : (fn.name == "runtime.NumGoroutine") = false := by kernel_rfl) (hb : fn.body.isSome = true := by rfl)
    (hop : o.op = .call { callee := .value (.func f), args := as_, argTypes := ts } := by rfl)
    (hargs : as_.map a.eval = args := by (try simp only [List.map_toArray, List.map_cons, List.map_nil]); first | done | rfl | (simp only [List.length_drop, List.length_take]; rfl)) : wpList P ops Q (o :: rest) a w :=
  goesL_ (some N) hd hg hf hname hb args hop hargs h
end
end Go.Proofs.YtelfiofnhchmbaaDoor.B
namespace Go.Proofs.YtelfiofnhchmbaaDoor.B
set_option linter.unusedVariables false
set_option linter.unusedSimpArgs false
open Go.RowKit Go.Proofs.YtelfiofnhchmbaaDoorW.PrintWords Go.Proofs.YtelfiofnhchmbaaDoorW.PrintLast Go.Proofs.YtelfiofnhchmbaaDoorW.PrintMore
theorem bdI {α β : Type} {x : Option α} {f : α → Option β} {r : β} (h : x.bind f = some r) : ∃ a, Aside0 (x = some a) ∧ f a = some r := by
  obtain ⟨a, h1, h2⟩ := Option.bind_eq_some_iff.mp h; exact ⟨a, ⟨h1⟩, h2⟩
theorem ifI {α : Type} {c : Prop} [Decidable c] {x y r : α} (h : (if c then x else y) = r) : c ∧ x = r ∨ ¬ c ∧ y = r := by
  by_cases hc : c
  · exact .inl ⟨hc, by rwa [if_pos hc] at h⟩
  · exact .inr ⟨hc, by rwa [if_neg hc] at h⟩
theorem eqI {α : Type} [BEq α] [LawfulBEq α] {a b : α} (h : a = b) : (a == b) = true ∧ (a != b) = false := ⟨beq_iff_eq.mpr h, bne_eq_false_iff_eq.mpr h⟩
theorem neI {α : Type} [BEq α] [LawfulBEq α] {a b : α} (h : ¬ a = b) : (a == b) = false ∧ (a != b) = true := ⟨beq_eq_false_iff_ne.mpr h, bne_iff_ne.mpr h⟩
theorem sd {p : Prop} (h : p) : Aside0 p := ⟨h⟩
theorem od {p : Prop} [Decidable p] (h : decide p = true := by first | (with_reducible assumption) | assumption) : p := of_decide_eq_true h
end Go.Proofs.YtelfiofnhchmbaaDoor.B
namespace Go.Proofs.YtelfiofnhchmbaaDoor.B
open Go.Lib Go.RowKit Go.Proofs.YtelfiofnhchmbaaDoorW.PrintWords
def TabAt (g : Nat) (l : List Int) (w : World) : Prop := g < w.heap.size ∧ ∀ i (h : i < l.length), w.cell? ⟨g, i, none⟩ = some (.int .i64 l[i])
theorem TabAt.below {g : Nat} {l : List Int} {w w' : World} (h : TabAt g l w) (hb : Below w.heap.size w w') : TabAt g l w' := by
  refine ⟨Nat.lt_of_lt_of_le h.1 hb.size, fun i hi => ?_⟩
  rw [← h.2 i hi]
  exact hb.cell (p := ⟨g, i, none⟩) h.1
def monthLens : List Int := [31, 28, 31, 30, 31, 30, 31, 31, 30, 31, 30, 31]
def Gl (w : World) : Prop := TabAt 0 monthLens w
theorem gl_below {w w' : World} (h : Gl w) (hb : Below w.heap.size w w') : Gl w' := TabAt.below h hb
def monLen (k : Nat) : Int := monthLens.getD k 0
theorem Gl.mon {w : World} (h : Gl w) (k : Nat) (hk : k < 12) : w.cell? ⟨0, k, none⟩ = some (.int .i64 (monLen k)) := by
  rw [h.2 k hk]
  unfold monLen
  rw [List.getD_eq_getElem?_getD, List.getElem?_eq_getElem (show k < monthLens.length from hk)]; rfl
theorem lt_of_cell {w : World} {a : Addr} {v : Value} (h : w.cell? a = some v) : a.block < w.heap.size := by
  unfold World.cell? at h
  cases hh : w.heap[a.block]? with
  | none => rw [hh] at h; cases h
  | some o => exact (Array.getElem?_eq_some_iff.1 hh).1
theorem tabAt_of {P : Program} {W : World} {name : String} {g : Nat} {zs : List Int} (h : Lib.TabIs P W name .i64 zs) (hg : P.globalNamed name = some g) (hz : 0 < zs.length) : TabAt g zs W := by
  refine ⟨lt_of_cell (h.cell hg 0 hz), fun i hi => ?_⟩
  rw [h.cell hg i hi, List.getD_eq_getElem?_getD, List.getElem?_eq_getElem hi]; rfl
theorem gl_of_laid {W : World} (h : laidMet Tryd.prog [("accounting/days.lengths", Lib.tabData .i64 monthLens)] W) : Gl W :=
  tabAt_of (Lib.tabIs_of_head (g := 0) (t := 115) (e := 3) (n := 12) (by kernel_rfl) (by kernel_rfl) (by kernel_rfl) Tryd.underlying3 (by kernel_rfl) (by kernel_rfl) h) (by kernel_rfl) (by decide)
end Go.Proofs.YtelfiofnhchmbaaDoor.B
namespace Go.Proofs.YtelfiofnhchmbaaDoor.B
open Go.RowKit
theorem any_set {W : World} {a b : Addr} (v : Value) (h : ∃ x, W.cell? a = some x) : ∃ x, (W.setCell b v).cell? a = some x := by
  obtain ⟨x, hx⟩ := h
  by_cases e : b = a
  · subst e; exact ⟨v, World.cell?_setCell_same _ _ _ hx⟩
  · exact ⟨x, by rw [World.cell?_setCell_other (h := e)]; exact hx⟩
theorem any_drewN {W : World} {a : Addr} {n : Nat} (h : ∃ x, W.cell? a = some x) : ∃ x, (W.drewN n).cell? a = some x := h
theorem any_drew {W : World} {a : Addr} (h : ∃ x, W.cell? a = some x) : ∃ x, W.drew.cell? a = some x := h
theorem has_same {W : World} {a : Addr} {v : Value} (h : ∃ x, W.cell? a = some x) : (W.setCell a v).cell? a = some v := by
  obtain ⟨x, hx⟩ := h; exact World.cell?_setCell_same _ _ _ hx
theorem has_other {W : World} {g o g' o' : Nat} {v y : Value} (e : ¬ (g = g' ∧ o = o')) (h : W.cell? ⟨g', o', none⟩ = some y) : (W.setCell ⟨g, o, none⟩ v).cell? ⟨g', o', none⟩ = some y := by
  rw [World.cell?_setCell_other (h := by rw [Ne, Addr.mk.injEq]; exact fun h => e ⟨h.1, h.2.1⟩)]; exact h
theorem has_drewN {W : World} {a : Addr} {n : Nat} {v : Value} (h : W.cell? a = some v) : (W.drewN n).cell? a = some v := h
theorem has_drew {W : World} {a : Addr} {v : Value} (h : W.cell? a = some v) : W.drew.cell? a = some v := h
theorem below_setN {b g o : Nat} {a w : World} (h : Below b a w) (hg : b ≤ g) (v : Value) : Below b a (w.setCell ⟨g, o, none⟩ v) := Below.setCell h (p := ⟨g, o, none⟩) hg v
structure WordW (W : World) (g : Nat) (kind : Int) (S : ByteArray) (i pa pe : Int) : Prop where
  k0 : W.cell? ⟨g, 0, none⟩ = some (.int .i64 kind)
  k1 : W.cell? ⟨g, 1, none⟩ = some (.string S)
  k2 : W.cell? ⟨g, 2, none⟩ = some (.int .i64 i)
  k3 : W.cell? ⟨g + 1, 0, none⟩ = some (.int .i64 pa)
  k4 : W.cell? ⟨g + 1, 1, none⟩ = some (.int .i64 pe)
  f0 : W.frozen? ⟨g, 0, none⟩ = false
  f1 : W.frozen? ⟨g, 1, none⟩ = false
  f2 : W.frozen? ⟨g, 2, none⟩ = false
  f3 : W.frozen? ⟨g + 1, 0, none⟩ = false
  f4 : W.frozen? ⟨g + 1, 1, none⟩ = false
theorem WordW.s {W : World} {g : Nat} {kind : Int} {S : ByteArray} {i pa pe : Int} (h : WordW W g kind S i pa pe) (S' : ByteArray) : WordW (W.setCell ⟨g, 1, none⟩ (.string S')) g kind S' i pa pe :=
  ⟨has_other (by simp) h.k0, has_same ⟨_, h.k1⟩, has_other (by simp) h.k2, has_other (by simp) h.k3, has_other (by simp) h.k4, by rw [World.frozen?_setCell]; exact h.f0, by rw [World.frozen?_setCell]; exact h.f1, by rw [World.frozen?_setCell]; exact h.f2, by rw [World.frozen?_setCell]; exact h.f3, by rw [World.frozen?_setCell]; exact h.f4⟩
theorem WordW.a {W : World} {g : Nat} {kind : Int} {S : ByteArray} {i pa pe : Int} (h : WordW W g kind S i pa pe) (x : Int) : WordW (W.setCell ⟨g + 1, 0, none⟩ (.int .i64 x)) g kind S i x pe :=
  ⟨has_other (by simp) h.k0, has_other (by simp) h.k1, has_other (by simp) h.k2, has_same ⟨_, h.k3⟩, has_other (by simp) h.k4, by rw [World.frozen?_setCell]; exact h.f0, by rw [World.frozen?_setCell]; exact h.f1, by rw [World.frozen?_setCell]; exact h.f2, by rw [World.frozen?_setCell]; exact h.f3, by rw [World.frozen?_setCell]; exact h.f4⟩
theorem WordW.e {W : World} {g : Nat} {kind : Int} {S : ByteArray} {i pa pe : Int} (h : WordW W g kind S i pa pe) (x : Int) : WordW (W.setCell ⟨g + 1, 1, none⟩ (.int .i64 x)) g kind S i pa x :=
  ⟨has_other (by simp) h.k0, has_other (by simp) h.k1, has_other (by simp) h.k2, has_other (by simp) h.k3, has_same ⟨_, h.k4⟩, by rw [World.frozen?_setCell]; exact h.f0, by rw [World.frozen?_setCell]; exact h.f1, by rw [World.frozen?_setCell]; exact h.f2, by rw [World.frozen?_setCell]; exact h.f3, by rw [World.frozen?_setCell]; exact h.f4⟩
end Go.Proofs.YtelfiofnhchmbaaDoor.B
namespace Go.Proofs.YtelfiofnhchmbaaDoorW.PrintWords
open Go.RowKit
section
variable {P : Program} {d : Nat} {xs ys : Array Value} {f : Field} {fs : List Field} {a b : Value} {r s : Bool} {w : World}
theorem eqf_last (hn : (f.name == "_") = false) (ha : (part f.type xs f.offset).run P w = .ok a w) (hb : (part f.type ys f.offset).run P w = .ok b w) (he : (Op.equalIn d f.type a b).run P w = .ok r w) : (Op.eqFields d xs ys [f]).run P w = .ok r w := by
  have hn' : f.name ≠ "_" := by simpa using hn
  simp only [Op.eqFields, if_pos hn', Sem.run_bind, ha, hb, he, Result.andThen_ok]
  cases r <;> simp
theorem eqf_cons (hn : (f.name == "_") = false) (ha : (part f.type xs f.offset).run P w = .ok a w) (hb : (part f.type ys f.offset).run P w = .ok b w) (he : (Op.equalIn d f.type a b).run P w = .ok r w) (hr : (Op.eqFields d xs ys fs).run P w = .ok s w) : (Op.eqFields d xs ys (f :: fs)).run P w = .ok (r && s) w := by
  have hn' : f.name ≠ "_" := by simpa using hn
  rw [Op.eqFields]
  simp only [if_pos hn', Sem.run_bind, ha, hb, he, Result.andThen_ok]
  cases r
  · simp
  · simpa using hr
theorem eqA_of {t : TypeId} {fs : Array Field} (hu : P.underlying t = some (.struct fs)) (hp : P.stoodInHeld t = false) (h : (Op.eqFields d xs ys fs.toList).run P w = .ok r w) : (Op.equalIn (d + 1) t (.agg xs) (.agg ys)).run P w = .ok r w := by
  have hf : P.fieldsOf t = fs := by simp [Program.fieldsOf, hu]
  rw [run_equalIn_struct (P := P) w d t xs ys (by rw [hf]; exact hu) hp, hf]
  exact h
end
end Go.Proofs.YtelfiofnhchmbaaDoorW.PrintWords
namespace Go.Proofs.YtelfiofnhchmbaaDoorW.PrintWords
theorem Reps.one {α : Type} {R : α → List Value → Prop} {ps : List α} {cs : List Value} {p : α} {v : Value} (hp : R p [v]) (h : Reps R 1 ps cs) : Reps R 1 (p :: ps) (v :: cs) := by
  refine ⟨by simp [h.1], fun j q hq => ?_⟩
  cases j with
  | zero =>
    simp only [List.getElem?_cons_zero, Option.some.injEq] at hq
    subst hq
    simpa using hp
  | succ j =>
    simp only [List.getElem?_cons_succ] at hq
    have h1 := h.2 j q hq
    simpa [Nat.mul_one] using h1
theorem Reps.front {α : Type} {R : α → List Value → Prop} {size : Nat} {ps : List α} {cs c all : List Value} {p : α} (hp : R p c) (hc : c.length = size) (h : Reps R size ps cs) (ha : c ++ cs = all) : Reps R size (p :: ps) all := by
  subst ha
  refine ⟨by rw [List.length_append, hc, h.1, List.length_cons, Nat.succ_mul, Nat.add_comm], fun j q hq => ?_⟩
  cases j with
  | zero =>
    simp only [List.getElem?_cons_zero, Option.some.injEq] at hq
    subst hq
    rw [Nat.zero_mul, List.drop_zero, List.take_append_of_le_length (by omega), List.take_of_length_le (by omega)]
    exact hp
  | succ j =>
    simp only [List.getElem?_cons_succ] at hq
    have h1 := h.2 j q hq
    rw [Nat.succ_mul, List.drop_append, List.drop_of_length_le (by rw [hc]; exact Nat.le_add_left _ _), List.nil_append, hc, Nat.add_sub_cancel]
    exact h1
theorem Reps.c2 {α : Type} {R : α → List Value → Prop} {ps : List α} {cs : List Value} {p : α} {va vb : Value} (hp : R p [va, vb]) (h : Reps R 2 ps cs) : Reps R 2 (p :: ps) (va :: vb :: cs) := Reps.front hp rfl h rfl
theorem Reps.c3 {α : Type} {R : α → List Value → Prop} {ps : List α} {cs : List Value} {p : α} {va vb vc : Value} (hp : R p [va, vb, vc]) (h : Reps R 3 ps cs) : Reps R 3 (p :: ps) (va :: vb :: vc :: cs) := Reps.front hp rfl h rfl
theorem Reps.c4 {α : Type} {R : α → List Value → Prop} {ps : List α} {cs : List Value} {p : α} {va vb vc vd : Value} (hp : R p [va, vb, vc, vd]) (h : Reps R 4 ps cs) : Reps R 4 (p :: ps) (va :: vb :: vc :: vd :: cs) := Reps.front hp rfl h rfl
theorem Reps.c5 {α : Type} {R : α → List Value → Prop} {ps : List α} {cs : List Value} {p : α} {va vb vc vd ve : Value} (hp : R p [va, vb, vc, vd, ve]) (h : Reps R 5 ps cs) : Reps R 5 (p :: ps) (va :: vb :: vc :: vd :: ve :: cs) := Reps.front hp rfl h rfl
theorem Reps.c6 {α : Type} {R : α → List Value → Prop} {ps : List α} {cs : List Value} {p : α} {va vb vc vd ve vf : Value} (hp : R p [va, vb, vc, vd, ve, vf]) (h : Reps R 6 ps cs) : Reps R 6 (p :: ps) (va :: vb :: vc :: vd :: ve :: vf :: cs) := Reps.front hp rfl h rfl
theorem Reps.c7 {α : Type} {R : α → List Value → Prop} {ps : List α} {cs : List Value} {p : α} {va vb vc vd ve vf vg : Value} (hp : R p [va, vb, vc, vd, ve, vf, vg]) (h : Reps R 7 ps cs) : Reps R 7 (p :: ps) (va :: vb :: vc :: vd :: ve :: vf :: vg :: cs) := Reps.front hp rfl h rfl
theorem Reps.c8 {α : Type} {R : α → List Value → Prop} {ps : List α} {cs : List Value} {p : α} {va vb vc vd ve vf vg vh : Value} (hp : R p [va, vb, vc, vd, ve, vf, vg, vh]) (h : Reps R 8 ps cs) : Reps R 8 (p :: ps) (va :: vb :: vc :: vd :: ve :: vf :: vg :: vh :: cs) := Reps.front hp rfl h rfl
theorem Reps.c9 {α : Type} {R : α → List Value → Prop} {ps : List α} {cs : List Value} {p : α} {va vb vc vd ve vf vg vh vi : Value} (hp : R p [va, vb, vc, vd, ve, vf, vg, vh, vi]) (h : Reps R 9 ps cs) : Reps R 9 (p :: ps) (va :: vb :: vc :: vd :: ve :: vf :: vg :: vh :: vi :: cs) := Reps.front hp rfl h rfl
theorem Reps.c10 {α : Type} {R : α → List Value → Prop} {ps : List α} {cs : List Value} {p : α} {va vb vc vd ve vf vg vh vi vj : Value} (hp : R p [va, vb, vc, vd, ve, vf, vg, vh, vi, vj]) (h : Reps R 10 ps cs) : Reps R 10 (p :: ps) (va :: vb :: vc :: vd :: ve :: vf :: vg :: vh :: vi :: vj :: cs) := Reps.front hp rfl h rfl
end Go.Proofs.YtelfiofnhchmbaaDoorW.PrintWords
namespace Go.Proofs.YtelfiofnhchmbaaDoorW.PrintWords
open Go.RowKit
section
variable {P : Program} {ops : Array Oper} {rest : List Oper} {o : Oper} {a : Act} {Q : Exit → Act → World → Prop} {W : World}
theorem gate_guard (hw : Region.wanted o (yielded ops a.tmps) = true) (h : wpList P ops Q ({ o with guard := none } :: rest) a W) : wpList P ops Q (o :: rest) a W := by
  have h1 : Region.wanted { o with guard := none } (yielded ops a.tmps) = true := rfl
  unfold wpList at h ⊢
  rw [if_pos h1] at h
  rw [if_pos hw]
  exact h
end
end Go.Proofs.YtelfiofnhchmbaaDoorW.PrintWords
namespace Go.Proofs.YtelfiofnhchmbaaDoor.A
open Go.RowKit Go.Proofs.YtelfiofnhchmbaaDoor.B Go.Proofs.YtelfiofnhchmbaaDoorW.PrintWords Go.Proofs.YtelfiofnhchmbaaDoorW.PrintLast Go.Proofs.YtelfiofnhchmbaaDoorW.PrintMore
attribute [local go_sem] max2_int min2_int max_two min_two max_three min_three max_four min_four
set_option linter.unusedVariables false
set_option linter.unusedSimpArgs false
def errW : Option Int → Value
  | none => .nilIface
  | some c => .iface 0 (.int .i64 c)
theorem errW_none : errW none = .nilIface := rfl
theorem errW_some (c : Int) : errW (some c) = .iface 0 (.int .i64 c) := rfl
theorem info5 : (Tryd.prog.info? 5).map (fun i => (i.zero, i.size, i.bytes)) = some (some (.int .u8 0), 1, 1) := by kernel_rfl
theorem info53 : (Tryd.prog.info? 53).map (fun i => (i.zero, i.size, i.bytes)) = some (some (.agg #[(.int .i64 0), (.int .i64 0), (.int .i64 0)]), 3, 24) := by kernel_rfl
theorem info91 : (Tryd.prog.info? 91).map (fun i => (i.zero, i.size, i.bytes)) = some (some (.agg #[(.int .i64 0), (.string ⟨#[]⟩), (.int .i64 0)]), 3, 32) := by kernel_rfl
structure S38 where
  f0 : Int
  f1 : Int
def z38 : S38 := ⟨(0 : Int), (0 : Int)⟩
def k38 : Kd S38 := Kd.iso (Kd.pair (Kd.int .i64) (Kd.int .i64)) (fun x : S38 => (x.f0, x.f1))
theorem k38_open {w : World} {x : S38} {cs : List Value} (h : k38.K w x cs) : cs = [.int .i64 x.f0, .int .i64 x.f1] := by
  obtain ⟨_, _, rfl, rfl, rfl⟩ := h
  exact rfl
theorem k38_mkM (w : World) (base : Nat) (ok : Nat → Prop) (x : S38) : k38.M w base ok x [.int .i64 x.f0, .int .i64 x.f1] := ⟨[.int .i64 x.f0], [.int .i64 x.f1], rfl, rfl, rfl⟩
structure S53 where
  f0 : Int
  f1 : S38
def z53 : S53 := ⟨(0 : Int), z38⟩
def k53 : Kd S53 := Kd.iso (Kd.pair (Kd.int .i64) k38) (fun x : S53 => (x.f0, x.f1))
theorem k53_open {w : World} {x : S53} {cs : List Value} (h : k53.K w x cs) : cs = [.int .i64 x.f0, .int .i64 x.f1.f0, .int .i64 x.f1.f1] := by
  obtain ⟨_, _, rfl, rfl, s1⟩ := h
  obtain rfl := k38_open s1
  exact rfl
theorem k53_mkM (w : World) (base : Nat) (ok : Nat → Prop) (x : S53) : k53.M w base ok x [.int .i64 x.f0, .int .i64 x.f1.f0, .int .i64 x.f1.f1] := ⟨[.int .i64 x.f0], [.int .i64 x.f1.f0, .int .i64 x.f1.f1], rfl, rfl, (k38_mkM w base ok x.f1 )⟩
def rd_T53 (xs : List S53) (i : Int) : S53 := xs.getD i.toNat z53
theorem at_T53 {w : World} {A : Option Addr} {n : Nat} {xs : List S53} (h : Kd.C k53 w A n xs) (i : Int) (h0 : 0 ≤ i) (h1 : i < n) : ∃ ad , A = some ad ∧ w.cell? (ad.add (i.toNat * 3)) = some (.int .i64 (rd_T53 xs i).f0) ∧ w.cell? ⟨(ad.add (i.toNat * 3)).block, (ad.add (i.toNat * 3)).off + 1, none⟩ = some (.int .i64 (rd_T53 xs i).f1.f0) ∧ w.cell? ⟨(ad.add (i.toNat * 3)).block, (ad.add (i.toNat * 3)).off + 2, none⟩ = some (.int .i64 (rd_T53 xs i).f1.f1) := by
  obtain ⟨ad, c, e, _, hK, hc0⟩ := Kd.C_get h z53 i h0 h1
  have hc : ∀ j u, c[j]? = some u → w.cell? (ad.add (i.toNat * 3 + j)) = some u := hc0
  obtain rfl := k53_open hK
  exact ⟨ad, e, hc 0 _ rfl, by rw [← add_field _ _ 1 (by omega)]; exact hc 1 _ rfl, by rw [← add_field _ _ 2 (by omega)]; exact hc 2 _ rfl⟩
structure S91 where
  f0 : Int
  f1 : ByteArray
  f2 : Int
def z91 : S91 := ⟨(0 : Int), (⟨#[]⟩ : ByteArray), (0 : Int)⟩
def k91 : Kd S91 := Kd.iso (Kd.pair (Kd.int .i64) (Kd.pair Kd.string (Kd.int .i64))) (fun x : S91 => (x.f0, x.f1, x.f2))
theorem k91_open {w : World} {x : S91} {cs : List Value} (h : k91.K w x cs) : cs = [.int .i64 x.f0, .string x.f1, .int .i64 x.f2] := by
  obtain ⟨_, _, rfl, rfl, ⟨_, _, rfl, rfl, rfl⟩⟩ := h
  exact rfl
theorem k91_mk (w : World) (x : S91) : k91.K w x [.int .i64 x.f0, .string x.f1, .int .i64 x.f2] := ⟨[.int .i64 x.f0], [.string x.f1, .int .i64 x.f2], rfl, rfl, ⟨[.string x.f1], [.int .i64 x.f2], rfl, rfl, rfl⟩⟩
theorem k91_mkM (w : World) (base : Nat) (ok : Nat → Prop) (x : S91) : k91.M w base ok x [.int .i64 x.f0, .string x.f1, .int .i64 x.f2] := ⟨[.int .i64 x.f0], [.string x.f1, .int .i64 x.f2], rfl, rfl, ⟨[.string x.f1], [.int .i64 x.f2], rfl, rfl, rfl⟩⟩
def rd_T91 (xs : List S91) (i : Int) : S91 := xs.getD i.toNat z91
theorem at_T91 {w : World} {A : Option Addr} {n : Nat} {xs : List S91} (h : Kd.C k91 w A n xs) (i : Int) (h0 : 0 ≤ i) (h1 : i < n) : ∃ ad , A = some ad ∧ w.cell? (ad.add (i.toNat * 3)) = some (.int .i64 (rd_T91 xs i).f0) ∧ w.cell? ⟨(ad.add (i.toNat * 3)).block, (ad.add (i.toNat * 3)).off + 1, none⟩ = some (.string (rd_T91 xs i).f1) ∧ w.cell? ⟨(ad.add (i.toNat * 3)).block, (ad.add (i.toNat * 3)).off + 2, none⟩ = some (.int .i64 (rd_T91 xs i).f2) := by
  obtain ⟨ad, c, e, _, hK, hc0⟩ := Kd.C_get h z91 i h0 h1
  have hc : ∀ j u, c[j]? = some u → w.cell? (ad.add (i.toNat * 3 + j)) = some u := hc0
  obtain rfl := k91_open hK
  exact ⟨ad, e, hc 0 _ rfl, by rw [← add_field _ _ 1 (by omega)]; exact hc 1 _ rfl, by rw [← add_field _ _ 2 (by omega)]; exact hc 2 _ rfl⟩
end Go.Proofs.YtelfiofnhchmbaaDoor.A
namespace Go.Proofs.YtelfiofnhchmbaaDoor.A
open Go.RowKit Go.Proofs.YtelfiofnhchmbaaDoor.B Go.Proofs.YtelfiofnhchmbaaDoorW.PrintWords Go.Proofs.YtelfiofnhchmbaaDoorW.PrintLast Go.Proofs.YtelfiofnhchmbaaDoorW.PrintMore
theorem zq1 {P : Prop} (h : P := by first | rfl | (simp; done) | (simp [*]; done) | (simp; generalize ByteArray.toList _ = l_; cases l_ <;> rfl)) : P := h
theorem zq2 {P : Prop} (h : P := by (with_reducible repeat (first | refine blk_drewN ?_ _ | refine blk_drew ?_ | refine blk_alloc ?_ _)); exact BK253.out) : P := h
theorem zq3 {P : Prop} (h : P := by repeat (first | (with_reducible first | exact HB.out | apply below_alloc | apply pw_below_drewN | apply below_drew1 | refine below_set ?_ GE253.out) | exact HB.out)) : P := h
theorem zq4 {P : Prop} (h : P := by have := HJ1.out; first | omega | exact Nat.le_refl _) : P := h
theorem zq5 {P : Prop} (h : P := by (with_reducible repeat (first | apply Kd.R_alloc | apply Kd.R_drewN | apply Kd.R_drew)); exact HO260.out) : P := h
theorem zq6 {P : Prop} (h : P := by have := HJ1.out; have := HJ6.out; first | omega | exact Nat.le_refl _) : P := h
theorem zq7 {P : Prop} (h : P := by (with_reducible repeat (first | apply Kd.R_alloc | apply Kd.R_drewN | apply Kd.R_drew)); exact HO258.out) : P := h
theorem zq8 {P : Prop} (h : P := by first | rfl | (simp [errW_none, errW_some] <;> rfl) | (simp [*, errW_none, errW_some] <;> rfl)) : P := h
theorem zq9 {P : Prop} (h : P := by exact Kd.R_V (Kd.R_tight rfl (Kd.R_types (HO_5.out) BK253.out (by decide)))) : P := h
theorem zq10 {P : Prop} (h : P := by (with_reducible repeat (first | apply Kd.R_alloc | apply Kd.R_drewN | apply Kd.R_drew)); exact HO_6.out) : P := h
theorem zq11 {P : Prop} (h : P := by exact Kd.R_V (Kd.R_tight rfl (Kd.R_types (HO_6.out) BK253.out (by decide)))) : P := h
theorem zq12 {P : Prop} (h : P := by (with_reducible repeat (first | apply Kd.R_alloc | apply Kd.R_drewN | apply Kd.R_drew)); exact HO_5.out) : P := h
theorem zq13 {P : Prop} (h : P := by (with_reducible repeat (first | apply Kd.V_alloc | apply Kd.V_drewN | apply Kd.V_drew)); exact HO266.out) : P := h
theorem zq14 {P : Prop} (h : P := by repeat (first | exact (Kd.V_reads' HO266.out).2.2 | (with_reducible refine Kd.C_alloc ?_ _) | (with_reducible refine Kd.C_drewN ?_ _) | (with_reducible refine Kd.C_drew ?_))) : P := h
theorem zq15 {P : Prop} (h : P := by repeat (first | exact (Kd.V_reads' HO269.out).2.2 | (with_reducible refine Kd.C_alloc ?_ _) | (with_reducible refine Kd.C_drewN ?_ _) | (with_reducible refine Kd.C_drew ?_))) : P := h
theorem zq16 {P : Prop} (h : P := by (with_reducible repeat (first | apply Kd.V_alloc | apply Kd.V_drewN | apply Kd.V_drew)); exact HO269.out) : P := h
theorem zq17 {P : Prop} (h : P := by first | rfl | (simp [Act.eval]; done)) : P := h
theorem zq18 {P : Prop} (h : P := by rw [show w.heap.size + 1 = (w.alloc (.cells #[.int .i64 0, .bool false, .slice none 0 0] 24)).heap.size by simp]; exact blk_new _ _) : P := h
theorem zq19 {P : Prop} (h : P := by have := own_base ho ad.block (by simp [Value.ownBlock]); simpa using this) : P := h
theorem zq20 {P : Prop} (h : P := by (with_reducible repeat (first | refine blk_drewN ?_ _ | refine blk_drew ?_ | refine blk_alloc ?_ _)); exact BK277.out) : P := h
theorem zq21 {P : Prop} (h : P := by (with_reducible repeat (first | refine blk_drewN ?_ _ | refine blk_drew ?_ | refine blk_alloc ?_ _)); exact BK278.out) : P := h
theorem zq22 {P : Prop} (h : P := by repeat (first | (with_reducible first | exact HB.out | apply below_alloc | apply pw_below_drewN | apply below_drew1 | refine below_set ?_ GE277.out | refine below_set ?_ GE278.out) | exact HB.out)) : P := h
theorem zq23 {P : Prop} (h : P := by repeat (first | exact Drawn0.refl _ | apply Drawn0.step)) : P := h
theorem zq28 {P : Prop} (h : P := by have := HJ1.out; have := HK2.out; first | omega | exact Nat.le_refl _) : P := h
theorem zq32 {P : Prop} (h : P := by repeat (first | exact (Kd.C_below HR0_2.out HB.out) | (with_reducible refine Kd.C_alloc ?_ _) | (with_reducible refine Kd.C_drewN ?_ _) | (with_reducible refine Kd.C_drew ?_))) : P := h
theorem zq34 {P : Prop} (h : P := by repeat (first | (with_reducible first | exact HB.out | apply below_alloc | apply pw_below_drewN | apply below_drew1) | exact HB.out)) : P := h
theorem zq43 {P : Prop} (h : P := by first | exact Kd.R_nil _ _ _ _ _ | exact Kd.N_nil _ _ _ _ _ | exact Kd.V_nil _ _ _ _ _ | exact Kd.Q_nil _ _ _ _ _ | exact Kd.S_nil _ _ _ _ _) : P := h
theorem zq44 {P : Prop} (h : P := by (with_reducible repeat (first | apply Kd.R_alloc | apply Kd.R_drewN | apply Kd.R_drew)); exact HO_3.out) : P := h
theorem zq52 {P : Prop} (h : P := by (with_reducible repeat (first | apply Kd.R_alloc | apply Kd.R_drewN | apply Kd.R_drew)); exact HO_4.out) : P := h
theorem zq54 {P : Prop} (h : P := by first | (go_simp; done) | (go_simp; rfl)) : P := h
theorem zq62 {P : Prop} (h : P := by have := HK1.out; have := HK2.out; omega) : P := h
theorem zq68 {P : Prop} (h : P := by have := HK1.out; first | omega | exact Nat.le_refl _) : P := h
theorem zq73 {P : Prop} (h : P := by have := HJ2.out; first | omega | exact Nat.le_refl _) : P := h
theorem zq91 {P : Prop} (h : P := by repeat (first | (with_reducible first | exact HB.out | exact Below.refl _ _ | apply below_alloc | apply pw_below_drewN | apply below_drew1) | exact HB.out)) : P := h
theorem zq98 {P : Prop} (h : P := by (with_reducible repeat (first | refine blk_drewN ?_ _ | refine blk_drew ?_ | refine blk_alloc ?_ _)); exact BK101.out) : P := h
theorem zq99 {P : Prop} (h : P := by repeat (first | (with_reducible first | exact HB.out | apply below_alloc | apply pw_below_drewN | apply below_drew1 | refine below_set ?_ GE101.out) | exact HB.out)) : P := h
theorem zq100 {P : Prop} (h : P := by repeat (first | (with_reducible first | exact HB.out | apply below_alloc | apply pw_below_drewN | apply below_drew1 | refine below_set ?_ GE106.out) | exact HB.out)) : P := h
theorem zq101 {P : Prop} (h : P := by repeat (first | exact Below.refl _ _ | apply pw_below_drewN | apply below_alloc)) : P := h
theorem zq102 {P : Prop} (h : P := by repeat (first | (with_reducible first | exact HB.out | apply below_alloc | apply pw_below_drewN | apply below_drew1 | refine below_set ?_ GE108.out | refine below_set ?_ GE109.out) | exact HB.out)) : P := h
theorem zq103 {P : Prop} (h : P := by (with_reducible repeat (first | refine blk_drewN ?_ _ | refine blk_drew ?_ | refine blk_alloc ?_ _)); exact BK113.out) : P := h
theorem zq104 {P : Prop} (h : P := by repeat (first | (with_reducible first | exact HB.out | apply below_alloc | apply pw_below_drewN | apply below_drew1 | refine below_set ?_ GE113.out) | exact HB.out)) : P := h
theorem zq105 {P : Prop} (h : P := by repeat (first | (with_reducible first | exact HB.out | apply below_alloc | apply pw_below_drewN | apply below_drew1 | refine below_set ?_ GE113.out | refine below_set ?_ GE116.out) | exact HB.out)) : P := h
theorem zq106 {P : Prop} (h : P := by repeat (first | (with_reducible first | exact HB.out | apply below_alloc | apply pw_below_drewN | apply below_drew1 | refine below_set ?_ GE122.out) | exact HB.out)) : P := h
theorem zq107 {P : Prop} (h : P := by repeat (first | (with_reducible first | exact HB.out | apply below_alloc | apply pw_below_drewN | apply below_drew1 | refine below_set ?_ GE126.out) | exact HB.out)) : P := h
theorem zq108 {P : Prop} (h : P := by rw [← hq_]; exact (by (with_reducible repeat (first | refine blk_drewN ?_ _ | refine blk_drew ?_ | refine blk_alloc ?_ _)); exact BK135.out)) : P := h
theorem zq109 {P : Prop} (h : P := by rw [← hq_]; exact (by repeat (first | (with_reducible first | exact HB.out | apply below_alloc | apply pw_below_drewN | apply below_drew1 | refine below_set ?_ GE135.out) | exact HB.out))) : P := h
theorem zq110 {P : Prop} (h : P := by repeat (first | (with_reducible first | exact HB.out | apply below_alloc | apply pw_below_drewN | apply below_drew1 | refine below_set ?_ GE135.out) | exact HB.out)) : P := h
theorem zq111 {P : Prop} (h : P := by (with_reducible repeat (first | refine blk_drewN ?_ _ | refine blk_drew ?_ | refine blk_alloc ?_ _)); exact BK135.out) : P := h
theorem zq112 {P : Prop} (h : P := by (with_reducible repeat (first | refine blk_drewN ?_ _ | refine blk_drew ?_ | refine blk_alloc ?_ _)); exact BK141.out) : P := h
theorem zq113 {P : Prop} (h : P := by repeat (first | (with_reducible first | exact HB.out | apply below_alloc | apply pw_below_drewN | apply below_drew1 | refine below_set ?_ GE141.out) | exact HB.out)) : P := h
theorem zq114 {P : Prop} (h : P := by repeat (first | (with_reducible first | exact HB.out | exact Below.refl _ _ | apply below_alloc | apply pw_below_drewN | apply below_drew1 | refine below_set ?_ GE145.out) | exact HB.out)) : P := h
theorem zq115 {P : Prop} (h : P := by repeat (first | (with_reducible first | exact HB.out | apply below_alloc | apply pw_below_drewN | apply below_drew1 | refine below_set ?_ GE145.out) | exact HB.out)) : P := h
theorem zq116 {P : Prop} (h : P := by repeat (first | (with_reducible first | exact HB.out | exact Below.refl _ _ | apply below_alloc | apply pw_below_drewN | apply below_drew1 | refine below_set ?_ GE154.out | refine below_set ?_ GE155.out) | exact HB.out)) : P := h
theorem zq117 {P : Prop} (h : P := by (with_reducible repeat (first | refine blk_drewN ?_ _ | refine blk_drew ?_ | refine blk_alloc ?_ _)); exact BK154.out) : P := h
theorem zq118 {P : Prop} (h : P := by (with_reducible repeat (first | refine blk_drewN ?_ _ | refine blk_drew ?_ | refine blk_alloc ?_ _)); exact BK155.out) : P := h
theorem zq119 {P : Prop} (h : P := by repeat (first | (with_reducible first | exact HB.out | apply below_alloc | apply pw_below_drewN | apply below_drew1 | refine below_set ?_ GE154.out | refine below_set ?_ GE155.out) | exact HB.out)) : P := h
theorem zq120 {P : Prop} (h : P := by repeat (first | exact HD.out | apply Drawn0.step)) : P := h
theorem zq121 {P : Prop} (h : P := by (with_reducible repeat (first | refine blk_drewN ?_ _ | refine blk_drew ?_ | refine blk_alloc ?_ _)); exact BK164.out) : P := h
theorem zq122 {P : Prop} (h : P := by repeat (first | (with_reducible first | exact HB.out | apply below_alloc | apply pw_below_drewN | apply below_drew1 | refine below_set ?_ GE164.out) | exact HB.out)) : P := h
theorem zq123 {P : Prop} (h : P := by (with_reducible repeat (first | apply Kd.R_alloc | apply Kd.R_drewN | apply Kd.R_drew)); exact HO_7.out) : P := h
theorem zq124 {P : Prop} (h : P := by repeat (first | (with_reducible first | assumption | apply has_drewN | apply has_drew | refine has_same ?_ | apply any_drewN | apply any_drew | apply any_set | exact ⟨_, ‹_›⟩) | (with_reducible refine has_other (by simp) ?_) | (go_simp; done) | exact ⟨_, by go_simp⟩)) : P := h
theorem zq125 {P : Prop} (h : P := by repeat (first | (with_reducible first | exact Below.refl _ _ | apply below_drew | apply pw_below_drewN | apply below_alloc) | (with_reducible refine below_setN ?_ (by simp) _))) : P := h
theorem zq126 {P : Prop} (h : P := by repeat (first | (with_reducible first | exact HB.out | apply below_drew | apply pw_below_drewN | apply below_alloc) | (with_reducible refine below_setN ?_ (by simp) _))) : P := h
theorem zq127 {P : Prop} (h : P := by (with_reducible repeat (first | apply Kd.R_alloc | apply Kd.R_drewN | apply Kd.R_drew)); exact HO_2.out) : P := h
theorem zq128 {P : Prop} (h : P := by repeat (first | (with_reducible first | exact HB.out | apply below_alloc | apply pw_below_drewN | apply below_drew1 | refine below_set ?_ GE181.out | refine below_set ?_ GE182.out) | exact HB.out)) : P := h
theorem zq129 {P : Prop} (h : P := by (with_reducible repeat (first | refine blk_drewN ?_ _ | refine blk_drew ?_ | refine blk_alloc ?_ _)); refine blk_far ?_ NB181_182.out _; (with_reducible repeat (first | refine blk_drewN ?_ _ | refine blk_drew ?_ | refine blk_alloc ?_ _)); refine blk_far ?_ NB181_182.out _; (with_reducible repeat (first | refine blk_drewN ?_ _ | refine blk_drew ?_ | refine blk_alloc ?_ _)); refine blk_put (cs := #[.int .i64 t175, .string t176, .int .i64 0]) ?_ 2 _ rfl; (with_reducible repeat (first | refine blk_drewN ?_ _ | refine blk_drew ?_ | refine blk_alloc ?_ _)); refine blk_put (cs := #[.int .i64 t175, .string (⟨#[]⟩ : ByteArray), .int .i64 0]) ?_ 1 _ rfl; (with_reducible repeat (first | refine blk_drewN ?_ _ | refine blk_drew ?_ | refine blk_alloc ?_ _)); refine blk_put (cs := #[.int .i64 0, .string (⟨#[]⟩ : ByteArray), .int .i64 0]) ?_ 0 _ rfl; (with_reducible repeat (first | refine blk_drewN ?_ _ | refine blk_drew ?_ | refine blk_alloc ?_ _)); exact BK181.out) : P := h
theorem zq130 {P : Prop} (h : P := by (with_reducible repeat (first | apply Kd.R_alloc | apply Kd.R_drewN | apply Kd.R_drew)); exact Kd.R_mono (Kd.R_far (p := ⟨gb182, 1, none⟩) (Kd.R_far (p := ⟨gb182, 0, none⟩) (Kd.R_far (p := ⟨gb181, 2, none⟩) (Kd.R_far (p := ⟨gb181, 1, none⟩) (Kd.R_far (p := ⟨gb181, 0, none⟩) (Kd.R_types (Kd.R_mono HO_2.out (fun k_ hk => (⟨hk, hk.2⟩ : _ ∧ k_ ≠ gb181))) BK182.out (by decide)) (fun _ hk => hk.1.2) (.int .i64 t175)) (fun _ hk => hk.1.2) (.string t176)) (fun _ hk => hk.1.2) (.int .i64 t177)) (fun _ hk => hk.2) (.int .i64 t179)) (fun _ hk => hk.2) (.int .i64 t180)) (fun _ hk => hk.1.1.2)) : P := h
theorem zq131 {P : Prop} (h : P := by (with_reducible repeat (first | refine blk_drewN ?_ _ | refine blk_drew ?_ | refine blk_alloc ?_ _)); refine blk_put (cs := #[.int .i64 t179, .int .i64 0]) ?_ 1 _ rfl; (with_reducible repeat (first | refine blk_drewN ?_ _ | refine blk_drew ?_ | refine blk_alloc ?_ _)); refine blk_put (cs := #[.int .i64 0, .int .i64 0]) ?_ 0 _ rfl; (with_reducible repeat (first | refine blk_drewN ?_ _ | refine blk_drew ?_ | refine blk_alloc ?_ _)); refine blk_far ?_ NB182_181.out _; (with_reducible repeat (first | refine blk_drewN ?_ _ | refine blk_drew ?_ | refine blk_alloc ?_ _)); refine blk_far ?_ NB182_181.out _; (with_reducible repeat (first | refine blk_drewN ?_ _ | refine blk_drew ?_ | refine blk_alloc ?_ _)); refine blk_far ?_ NB182_181.out _; (with_reducible repeat (first | refine blk_drewN ?_ _ | refine blk_drew ?_ | refine blk_alloc ?_ _)); exact BK182.out) : P := h
theorem zq132 {P : Prop} (h : P := by have := HJ1.out; have := HJ5.out; first | omega | exact Nat.le_refl _) : P := h
theorem zq133 {P : Prop} (h : P := by rw [HR.out, if_pos (by omega)]; (try rfl)) : P := h
theorem zq134 {P : Prop} (h : P := by (with_reducible repeat (first | apply Kd.R_alloc | apply Kd.R_drewN | apply Kd.R_drew)); exact HO199.out) : P := h
theorem zq135 {P : Prop} (h : P := by (with_reducible repeat (first | apply Kd.R_alloc | apply Kd.R_drewN | apply Kd.R_drew)); exact Kd.R_mono HO_2.out (fun _ hk => hk.2)) : P := h
theorem zq136 {P : Prop} (h : P := by (with_reducible repeat (first | apply Kd.R_alloc | apply Kd.R_drewN | apply Kd.R_drew)); exact Kd.R_mono HO_2.out (fun _ hk => ⟨hk.2, hk.1⟩)) : P := h
theorem zq137 {P : Prop} (h : P := by (with_reducible repeat (first | apply Kd.R_alloc | apply Kd.R_drewN | apply Kd.R_drew)); exact Kd.R_mono HO_3.out (fun _ hk => ⟨hk.2, hk.1⟩)) : P := h
theorem zq138 {P : Prop} (h : P := by (with_reducible repeat (first | apply Kd.R_alloc | apply Kd.R_drewN | apply Kd.R_drew)); exact Kd.R_mono HO_6.out (fun _ hk => ⟨hk.2, hk.1⟩)) : P := h
theorem zq139 {P : Prop} (h : P := by (with_reducible repeat (first | apply Kd.V_alloc | apply Kd.V_drewN | apply Kd.V_drew)); exact HO_5.out) : P := h
theorem zq140 {P : Prop} (h : P := by repeat (first | exact (Kd.V_reads' HO_5.out).2.2 | (with_reducible refine Kd.C_alloc ?_ _) | (with_reducible refine Kd.C_drewN ?_ _) | (with_reducible refine Kd.C_drew ?_))) : P := h
theorem zq141 {P : Prop} (h : P := by repeat (first | exact (Kd.C_below HR1.out HB.out) | (with_reducible refine Kd.C_alloc ?_ _) | (with_reducible refine Kd.C_drewN ?_ _) | (with_reducible refine Kd.C_drew ?_))) : P := h
theorem zq142 {P : Prop} (h : P := by repeat (first | exact HB1.out | apply pw_below_drewN | apply below_alloc | (refine Below.setCell ?_ (by first | omega | (dsimp only; omega) | (simp; omega)) _))) : P := h
end Go.Proofs.YtelfiofnhchmbaaDoor.A
namespace Go.Proofs.YtelfiofnhchmbaaDoor.A
open Go.RowKit Go.Proofs.YtelfiofnhchmbaaDoor.B Go.Proofs.YtelfiofnhchmbaaDoorW.PrintWords Go.Proofs.YtelfiofnhchmbaaDoorW.PrintLast Go.Proofs.YtelfiofnhchmbaaDoorW.PrintMore
attribute [local go_sem] max2_int min2_int max_two min_two max_three min_three max_four min_four
set_option linter.unusedVariables false
set_option linter.unusedSimpArgs false
set_option maxHeartbeats 8000000
set_option maxRecDepth 100000
def terms_inYear.f (a0 : Int) : Option (Bool) := if a0 ≥ 0 then (some (decide (a0 ≤ 365))) else (some false)
theorem terms_inYear.calls (a0 : Int) (r : Bool) (w : World) (h : terms_inYear.f a0 = some r) :
  Calls Tryd.prog 26 #[.int .i64 a0] w fun e w' => e = .returned (.bool r) ∧ Drawn0 w w' := by
 have H := h
 clear h
 unfold terms_inYear.f at H
 replace H := ifI H
 rcases H with ⟨c2, H⟩ | ⟨c2, H⟩
 ·have c2b0 : decide (0 ≤ a0) = true := decide_eq_true c2
  clear c2
  obtain rfl := Option.some.inj H
  go_enter Tryd.func26, Tryd.ntmps26
  go_wp2
  go_ret
  exact ⟨zq1, zq23⟩
 have c2b0 : decide (0 ≤ a0) = false := decide_eq_false c2
 clear c2
 obtain rfl := Option.some.inj H
 go_enter Tryd.func26, Tryd.ntmps26
 go_wp2
 go_ret
 exact ⟨zq1, zq23⟩
def frac_size.f (a0 : Int) : Option (Int) := if a0 < 0 then (some (IntKind.u64.wrap (-(IntKind.u64.wrap (a0))))) else (some (IntKind.u64.wrap (a0)))
theorem frac_size.calls (a0 r : Int) (w : World) (h : frac_size.f a0 = some r) :
  Calls Tryd.prog 63 #[.int .i64 a0] w fun e w' => e = .returned (.int .u64 r) ∧ Drawn0 w w' := by
 have H := h
 clear h
 unfold frac_size.f at H
 replace H := ifI H
 rcases H with ⟨c2, H⟩ | ⟨c2, H⟩
 ·have c2b0 : decide (a0 < 0) = true := decide_eq_true c2
  clear c2
  obtain rfl := Option.some.inj H
  go_enter Tryd.func63, Tryd.ntmps63
  go_wp2
  go_ret
  exact ⟨zq1, zq23⟩
 have c2b0 : decide (a0 < 0) = false := decide_eq_false c2
 clear c2
 obtain rfl := Option.some.inj H
 go_enter Tryd.func63, Tryd.ntmps63
 go_wp2
 go_ret
 exact ⟨zq1, zq23⟩
theorem frac_size_eq (a : Int) (ha : I64 a) : frac_size.f a = some (a.natAbs : Int) := by
 unfold frac_size.f; exact size_wrap a ha
def frac_gcd.l0 : Nat → Int → Int → Option (Int)
 | 0, _, _ => none
 | k + 1, x0, x1 => if x1 = 0 then (some x0) else (frac_gcd.l0 k x1 (Int.tmod x0 x1))
def frac_gcd.f (k : Nat) (a0 : Int) (a1 : Int) : Option (Int) := frac_gcd.l0 k a0 a1
theorem frac_gcd.calls (k : Nat) (a0 a1 r : Int) (w : World) (h : frac_gcd.f k a0 a1 = some r) :
  Calls Tryd.prog 64 #[.int .u64 a0, .int .u64 a1] w fun e w' => e = .returned (.int .u64 r) ∧ Drawn0 w w' := by
 have H := h
 clear h
 unfold frac_gcd.f at H
 have H' := sd H
 clear H
 go_enter Tryd.func64, Tryd.ntmps64
 go_wp2
 repeat (go_quiet (fail); try go_wp2)
 go_loopg [0, 1] k (fun kq v0 v1 w' => ∃ (x0_1 : Int) (x1_1 : Int), v0 = .int .u64 x0_1 ∧ v1 = .int .u64 x1_1 ∧ Aside0 (frac_gcd.l0 kq x0_1 x1_1 = some r) ∧ Aside0 (kq ≤ k) ∧ Drawn0 w w')
 case atStart => exact ⟨(a0), (a1), zq1, zq1, H', ⟨Nat.le_refl _⟩, zq23⟩
 case round =>
  clear H'
  try clear p2
  obtain ⟨x0_1, x1_1, rfl, rfl, HA, HK1, ⟨m1, rfl⟩⟩ := hrel
  cases gk with
  | zero => exact absurd HA.out (by simp [frac_gcd.l0])
  | succ k1 =>
   have H := HA.out
   clear HA
   simp only [frac_gcd.l0] at H
   replace H := ifI H
   rcases H with ⟨c3, H⟩ | ⟨c3, H⟩
   ·obtain ⟨c3b0, c3b1⟩ := eqI c3
    clear c3
    obtain rfl := Option.some.inj H
    go_wp2
    repeat (go_quiet (fail); try go_wp2)
    go_ret
    exact ⟨zq1, zq23⟩
   obtain ⟨c3b0, c3b1⟩ := neI c3
   have H' := sd H
   clear H
   go_wp2
   repeat (go_quiet (fail); try go_wp2)
   go_roundg k1
   case measure => have := HK1.out; omega
   case rel => exact ⟨(x1_1), (Int.tmod x0_1 x1_1), zq1, zq1, H', ⟨by have := HK1.out; omega⟩, zq23⟩
theorem frac_gcd_ev (x y : Nat) : Ev (fun k => frac_gcd.f k (x : Int) (y : Int)) ((Nat.gcd x y : Nat) : Int) := by
 unfold frac_gcd.f
 exact gcd_of frac_gcd.l0 (fun k x y => by rw [frac_gcd.l0]) y x y (Nat.le_refl _)
def frac_Right.j0 : Nat → Bool → Int → Int → Option (Bool)
 | 0, _, _, _ => none
 | k + 1, x16, x102000, x102001 => if x16 = true then (some false) else ((frac_size.f x102000).bind fun t103 => ((frac_size.f x102001).bind fun t104 => ((frac_gcd.f k t103 t104).bind fun t105 => (some (t105 == 1)))))
def frac_Right.f (k : Nat) (a0_0 : Int) (a0_1 : Int) : Option (Bool) := if a0_1 < 1 then (frac_Right.j0 k true a0_0 a0_1) else (if a0_1 > 1000000 then (frac_Right.j0 k true a0_0 a0_1) else ((frac_size.f a0_0).bind fun t102 => (frac_Right.j0 k (decide (t102 > 1000000)) a0_0 a0_1)))
theorem frac_Right.calls (k : Nat) (a0_0 a0_1 : Int) (r : Bool) (w : World) (h : frac_Right.f k a0_0 a0_1 = some r) :
  Calls Tryd.prog 41 #[.agg #[.int .i64 a0_0, .int .i64 a0_1]] w fun e w' => e = .returned (.bool r) ∧ Below w.heap.size w w' := by
 have hu38 := Tryd.underlying38
 have HB := sd (Below.refl w.heap.size w)
 have H := h
 clear h
 unfold frac_Right.f at H
 have HC2 := sd H
 clear H
 go_enter Tryd.func41, Tryd.ntmps41
 go_upto_region 1 with (first | ((with_reducible refine gate_dst (N := 1) rfl ?_); refine bxA 1 #[.int .i64 a0_0, .int .i64 a0_1] 38 ?_; intro gb101 hg w3 hbox hb; have BK101 := sd (hbox); have GW101 := gem hg HB; have GE101 := GW101; replace HB := hbm HB hb; clear hb hbox hg))
 repeat (go_quiet (first | ((with_reducible refine gate_dst (N := 1) rfl ?_); refine bxA 1 #[.int .i64 a0_0, .int .i64 a0_1] 38 ?_; intro gb101 hg w3 hbox hb; have BK101 := sd (hbox); have GW101 := gem hg HB; have GE101 := GW101; replace HB := hbm HB hb; clear hb hbox hg)); go_upto_region 1 with (first | ((with_reducible refine gate_dst (N := 1) rfl ?_); refine bxA 1 #[.int .i64 a0_0, .int .i64 a0_1] 38 ?_; intro gb101 hg w3 hbox hb; have BK101 := sd (hbox); have GW101 := gem hg HB; have GE101 := GW101; replace HB := hbm HB hb; clear hb hbox hg)))
 (try simp only [Act.put, List.setIfInBounds_toArray, List.set_cons_zero, List.set_cons_succ])
 go_cut [16] (fun v16 wc => ∃ (kq : Nat) (x16_1 : Bool), v16 = .bool x16_1 ∧ Aside0 (frac_Right.j0 kq x16_1 a0_0 a0_1 = some r) ∧ Aside0 (kq ≤ k) ∧ Aside0 (wc.heap[gb101]? = some (.cells #[.int .i64 a0_0, .int .i64 a0_1] 38 (0, 0))) ∧ Aside0 (Below w.heap.size w wc))
 case first =>
  have H := HC2.out
  clear HC2
  replace H := ifI H
  rcases H with ⟨c4, H⟩ | ⟨c4, H⟩
  ·have c4b0 : decide (a0_1 < 1) = true := decide_eq_true c4
   clear c4
   (first | rw [c4b0] | (simp only [i64_w, i32_w]; rw [c4b0]) | skip)
   have H' := sd H
   clear H
   obtain ⟨_, _, _, _⟩ := bk2 BK101
   go_wp2
   repeat (go_quiet (fail); try go_wp2)
   go_meet
   case rel => exact ⟨_, (true), zq1, H', ⟨by first | omega | exact Nat.le_refl _⟩, ⟨zq98⟩, ⟨zq99⟩⟩
  have c4b0 : decide (a0_1 < 1) = false := decide_eq_false c4
  clear c4
  (first | rw [c4b0] | (simp only [i64_w, i32_w]; rw [c4b0]) | skip)
  replace H := ifI H
  rcases H with ⟨c6, H⟩ | ⟨c6, H⟩
  ·have c6b0 : decide (1000000 < a0_1) = true := decide_eq_true c6
   clear c6
   have H' := sd H
   clear H
   obtain ⟨_, _, _, _⟩ := bk2 BK101
   go_wp2
   repeat (go_quiet (fail); try go_wp2)
   go_meet
   case rel => exact ⟨_, (true), zq1, H', ⟨by first | omega | exact Nat.le_refl _⟩, ⟨zq98⟩, ⟨zq99⟩⟩
  have c6b0 : decide (1000000 < a0_1) = false := decide_eq_false c6
  clear c6
  replace H := bdI H
  obtain ⟨t102, A8, H⟩ := H
  (try dsimp only at H)
  have H' := sd H
  clear H
  obtain ⟨_, _, _, _⟩ := bk2 BK101
  go_wp2_with (first | (go_at_call 63; (with_reducible refine (frac_size.calls a0_0 t102 _ A8.out).mono ?_); rintro e w' ⟨rfl, ⟨nd, rfl⟩⟩; (try first | exact ⟨rfl, _, World.drewN_drewN _ _ _⟩ | exact ⟨rfl, _, Eq.trans (World.drewN_drewN _ _ _) (congrArg (World.drewN _) (Nat.add_assoc _ _ _))⟩)))
  repeat (go_quiet (first | (go_at_call 63; (with_reducible refine (frac_size.calls a0_0 t102 _ A8.out).mono ?_); rintro e w' ⟨rfl, ⟨nd, rfl⟩⟩; (try first | exact ⟨rfl, _, World.drewN_drewN _ _ _⟩ | exact ⟨rfl, _, Eq.trans (World.drewN_drewN _ _ _) (congrArg (World.drewN _) (Nat.add_assoc _ _ _))⟩))); try go_wp2_with (first | (go_at_call 63; (with_reducible refine (frac_size.calls a0_0 t102 _ A8.out).mono ?_); rintro e w' ⟨rfl, ⟨nd, rfl⟩⟩; (try first | exact ⟨rfl, _, World.drewN_drewN _ _ _⟩ | exact ⟨rfl, _, Eq.trans (World.drewN_drewN _ _ _) (congrArg (World.drewN _) (Nat.add_assoc _ _ _))⟩))))
  go_meet
  case rel => exact ⟨_, (decide (t102 > 1000000)), zq1, H', ⟨by first | omega | exact Nat.le_refl _⟩, ⟨zq98⟩, ⟨zq99⟩⟩
 case rest =>
  clear HC2
  try clear p2
  try clear c4
  try clear c4b0
  try clear c6
  try clear c6b0
  try clear hcz5_0
  try clear hcz5_1
  try clear hcz7_0
  try clear hcz7_1
  try clear hcz9_0
  try clear hcz9_1
  try clear hfz5_0
  try clear hfz5_1
  try clear hfz7_0
  try clear hfz7_1
  try clear hfz9_0
  try clear hfz9_1
  obtain ⟨kq, x16_1, rfl, HA, HJ1, BK101, HB⟩ := hcut
  cases kq with
  | zero => exact absurd HA.out (by simp [frac_Right.j0])
  | succ kj1 =>
   have H := HA.out
   clear HA
   simp only [frac_Right.j0] at H
   by_cases c10 : x16_1 = true
   ·subst c10
    rw [if_pos rfl] at H
    obtain rfl := Option.some.inj H
    go_wp2
    repeat (go_quiet (fail); try go_wp2)
    go_ret
    exact ⟨zq8, zq99⟩
   replace c10 := Bool.eq_false_iff.mpr c10
   subst c10
   rw [if_neg Bool.false_ne_true] at H
   replace H := bdI H
   obtain ⟨t103, A11, H⟩ := H
   (try dsimp only at H)
   replace H := bdI H
   obtain ⟨t104, A12, H⟩ := H
   (try dsimp only at H)
   replace H := bdI H
   obtain ⟨t105, A13, H⟩ := H
   (try dsimp only at H)
   obtain rfl := Option.some.inj H
   obtain ⟨_, _, _, _⟩ := bk2 BK101
   go_wp2_with (first | (go_at_call 63; (with_reducible refine (frac_size.calls a0_0 t103 _ A11.out).mono ?_); rintro e w' ⟨rfl, ⟨nd, rfl⟩⟩; (try first | exact ⟨rfl, _, World.drewN_drewN _ _ _⟩ | exact ⟨rfl, _, Eq.trans (World.drewN_drewN _ _ _) (congrArg (World.drewN _) (Nat.add_assoc _ _ _))⟩)) | (go_at_call 63; (with_reducible refine (frac_size.calls a0_1 t104 _ A12.out).mono ?_); rintro e w' ⟨rfl, ⟨nd, rfl⟩⟩; (try first | exact ⟨rfl, _, World.drewN_drewN _ _ _⟩ | exact ⟨rfl, _, Eq.trans (World.drewN_drewN _ _ _) (congrArg (World.drewN _) (Nat.add_assoc _ _ _))⟩)) | (go_at_call 64; (with_reducible refine (frac_gcd.calls kj1 t103 t104 t105 _ A13.out).mono ?_); rintro e w' ⟨rfl, ⟨nd, rfl⟩⟩; (try first | exact ⟨rfl, _, World.drewN_drewN _ _ _⟩ | exact ⟨rfl, _, Eq.trans (World.drewN_drewN _ _ _) (congrArg (World.drewN _) (Nat.add_assoc _ _ _))⟩)))
   repeat (go_quiet (first | (go_at_call 63; (with_reducible refine (frac_size.calls a0_0 t103 _ A11.out).mono ?_); rintro e w' ⟨rfl, ⟨nd, rfl⟩⟩; (try first | exact ⟨rfl, _, World.drewN_drewN _ _ _⟩ | exact ⟨rfl, _, Eq.trans (World.drewN_drewN _ _ _) (congrArg (World.drewN _) (Nat.add_assoc _ _ _))⟩)) | (go_at_call 63; (with_reducible refine (frac_size.calls a0_1 t104 _ A12.out).mono ?_); rintro e w' ⟨rfl, ⟨nd, rfl⟩⟩; (try first | exact ⟨rfl, _, World.drewN_drewN _ _ _⟩ | exact ⟨rfl, _, Eq.trans (World.drewN_drewN _ _ _) (congrArg (World.drewN _) (Nat.add_assoc _ _ _))⟩)) | (go_at_call 64; (with_reducible refine (frac_gcd.calls kj1 t103 t104 t105 _ A13.out).mono ?_); rintro e w' ⟨rfl, ⟨nd, rfl⟩⟩; (try first | exact ⟨rfl, _, World.drewN_drewN _ _ _⟩ | exact ⟨rfl, _, Eq.trans (World.drewN_drewN _ _ _) (congrArg (World.drewN _) (Nat.add_assoc _ _ _))⟩))); try go_wp2_with (first | (go_at_call 63; (with_reducible refine (frac_size.calls a0_0 t103 _ A11.out).mono ?_); rintro e w' ⟨rfl, ⟨nd, rfl⟩⟩; (try first | exact ⟨rfl, _, World.drewN_drewN _ _ _⟩ | exact ⟨rfl, _, Eq.trans (World.drewN_drewN _ _ _) (congrArg (World.drewN _) (Nat.add_assoc _ _ _))⟩)) | (go_at_call 63; (with_reducible refine (frac_size.calls a0_1 t104 _ A12.out).mono ?_); rintro e w' ⟨rfl, ⟨nd, rfl⟩⟩; (try first | exact ⟨rfl, _, World.drewN_drewN _ _ _⟩ | exact ⟨rfl, _, Eq.trans (World.drewN_drewN _ _ _) (congrArg (World.drewN _) (Nat.add_assoc _ _ _))⟩)) | (go_at_call 64; (with_reducible refine (frac_gcd.calls kj1 t103 t104 t105 _ A13.out).mono ?_); rintro e w' ⟨rfl, ⟨nd, rfl⟩⟩; (try first | exact ⟨rfl, _, World.drewN_drewN _ _ _⟩ | exact ⟨rfl, _, Eq.trans (World.drewN_drewN _ _ _) (congrArg (World.drewN _) (Nat.add_assoc _ _ _))⟩))))
   go_ret
   exact ⟨zq8, zq99⟩
theorem frac_Right_ev (n d : Int) (hn : I64 n) (hd : I64 d) : Ev (fun k => frac_Right.f k n d) (rightS n d) := by
 unfold frac_Right.f rightS
 have key : ∀ b : Bool, b = decide (1000000 < n.natAbs) → Ev (fun k => frac_Right.j0 k b n d) (decide (n.natAbs ≤ 1000000) && decide (Nat.gcd n.natAbs d.natAbs = 1)) := by
  intro b hb
  refine Ev.step (fun k => by rw [frac_Right.j0]) ?_
  refine Ev.both (fun h => Ev.is ?_) (fun h => ?_)
  ·rw [h] at hb
   rw [decide_eq_false (by have := of_decide_eq_true hb.symm; omega), Bool.false_and]
  ·rw [frac_size_eq n hn, frac_size_eq d hd]
   simp only [Option.bind_some]
   refine Ev.bind (frac_gcd_ev _ _) (Ev.is ?_)
   have : b = false := by cases b <;> simp_all
   rw [this] at hb
   rw [decide_eq_true (by have := of_decide_eq_false hb.symm; omega), Bool.true_and, Bool.eq_iff_iff, beq_iff_eq, decide_eq_true_iff]; omega
 have keyt : Ev (fun k => frac_Right.j0 k true n d) false := Ev.step (fun k => by rw [frac_Right.j0]) (Ev.yes rfl (Ev.is rfl))
 refine Ev.both (fun h => ?_) (fun h => Ev.both (fun h2 => ?_) (fun h2 => ?_))
 ·rw [decide_eq_false (by omega), Bool.false_and, Bool.false_and, Bool.false_and]; exact keyt
 ·rw [decide_eq_false (show ¬ d ≤ 1000000 by omega), Bool.and_false, Bool.false_and, Bool.false_and]; exact keyt
 ·rw [decide_eq_true (show 1 ≤ d by omega), decide_eq_true (show d ≤ 1000000 by omega), Bool.true_and, Bool.true_and, frac_size_eq n hn]
  simp only [Option.bind_some]
  exact key _ (by rw [Bool.eq_iff_iff, decide_eq_true_iff, decide_eq_true_iff]; omega)
def terms_proper.f (k : Nat) (a0_0 : Int) (a0_1 : Int) : Option (Bool) := (frac_Right.f k a0_0 a0_1).bind fun t107 => (if t107 = true then (if a0_0 > 0 then (some (decide (a0_0 < a0_1))) else (some false)) else (some false))
theorem terms_proper.calls (k : Nat) (a0_0 a0_1 : Int) (r : Bool) (w : World) (h : terms_proper.f k a0_0 a0_1 = some r) :
  Calls Tryd.prog 27 #[.agg #[.int .i64 a0_0, .int .i64 a0_1]] w fun e w' => e = .returned (.bool r) ∧ Below w.heap.size w w' := by
 have hu38 := Tryd.underlying38
 have HB := sd (Below.refl w.heap.size w)
 have H := h
 clear h
 unfold terms_proper.f at H
 replace H := bdI H
 obtain ⟨t107, A2, H⟩ := H
 (try dsimp only at H)
 by_cases c3 : t107 = true
 ·subst c3
  rw [if_pos rfl] at H
  replace H := ifI H
  rcases H with ⟨c4, H⟩ | ⟨c4, H⟩
  ·have c4b0 : decide (0 < a0_0) = true := decide_eq_true c4
   clear c4
   obtain rfl := Option.some.inj H
   go_enter Tryd.func27, Tryd.ntmps27
   go_wp2_with (first | ((with_reducible refine gate_dst (N := 1) rfl ?_); refine bxA 1 #[.int .i64 a0_0, .int .i64 a0_1] 38 ?_; intro gb106 hg w5 hbox hb; have BK106 := sd (hbox); have GW106 := gem hg HB; have GE106 := GW106; replace HB := hbm HB hb; clear hb hbox hg; obtain ⟨_, _, _, _⟩ := bk2 BK106) | ((with_reducible refine gate_callee (f := 41) rfl ?_); refine gL 4 Tryd.func41 #[.agg #[.int .i64 a0_0, .int .i64 a0_1]] ?_; (with_reducible refine (frac_Right.calls k a0_0 a0_1 true _ A2.out).mono ?_); rintro e w7 ⟨rfl, hb⟩; refine ⟨_, rfl, ?_⟩; replace BK106 := bkm BK106 hb; replace HB := hbm HB hb; clear hb; obtain ⟨_, _, _, _⟩ := bk2 BK106))
   go_ret
   exact ⟨zq8, zq100⟩
  have c4b0 : decide (0 < a0_0) = false := decide_eq_false c4
  clear c4
  obtain rfl := Option.some.inj H
  go_enter Tryd.func27, Tryd.ntmps27
  go_wp2_with (first | ((with_reducible refine gate_dst (N := 1) rfl ?_); refine bxA 1 #[.int .i64 a0_0, .int .i64 a0_1] 38 ?_; intro gb106 hg w9 hbox hb; have BK106 := sd (hbox); have GW106 := gem hg HB; have GE106 := GW106; replace HB := hbm HB hb; clear hb hbox hg; obtain ⟨_, _, _, _⟩ := bk2 BK106) | ((with_reducible refine gate_callee (f := 41) rfl ?_); refine gL 4 Tryd.func41 #[.agg #[.int .i64 a0_0, .int .i64 a0_1]] ?_; (with_reducible refine (frac_Right.calls k a0_0 a0_1 true _ A2.out).mono ?_); rintro e w11 ⟨rfl, hb⟩; refine ⟨_, rfl, ?_⟩; replace BK106 := bkm BK106 hb; replace HB := hbm HB hb; clear hb; obtain ⟨_, _, _, _⟩ := bk2 BK106))
  go_ret
  exact ⟨zq8, zq100⟩
 replace c3 := Bool.eq_false_iff.mpr c3
 subst c3
 rw [if_neg Bool.false_ne_true] at H
 obtain rfl := Option.some.inj H
 go_enter Tryd.func27, Tryd.ntmps27
 go_wp2_with (first | ((with_reducible refine gate_dst (N := 1) rfl ?_); refine bxA 1 #[.int .i64 a0_0, .int .i64 a0_1] 38 ?_; intro gb106 hg w13 hbox hb; have BK106 := sd (hbox); have GW106 := gem hg HB; have GE106 := GW106; replace HB := hbm HB hb; clear hb hbox hg; obtain ⟨_, _, _, _⟩ := bk2 BK106) | ((with_reducible refine gate_callee (f := 41) rfl ?_); refine gL 4 Tryd.func41 #[.agg #[.int .i64 a0_0, .int .i64 a0_1]] ?_; (with_reducible refine (frac_Right.calls k a0_0 a0_1 false _ A2.out).mono ?_); rintro e w15 ⟨rfl, hb⟩; refine ⟨_, rfl, ?_⟩; replace BK106 := bkm BK106 hb; replace HB := hbm HB hb; clear hb))
 go_ret
 exact ⟨zq8, zq100⟩
def bits_Mul64.f (a0 : Int) (a1 : Int) : Option (Int × Int) := if 0 ≤ a0 ∧ a0 < 18446744073709551616 ∧ 0 ≤ a1 ∧ a1 < 18446744073709551616 then some (a0 * a1 / 18446744073709551616, a0 * a1 % 18446744073709551616) else none
theorem m64_maskN (a : Nat) (ha : a < 18446744073709551616) : bits .and .u64 (a : Int) 4294967295 = ((a % 4294967296 : Nat) : Int) := by
 have h := bits_and_u64_nat a 4294967295 ha (by omega)
 have e : a &&& 4294967295 = a % 4294967296 := Nat.and_two_pow_sub_one_eq_mod a 32
 rw [e] at h
 exact h
theorem m64_divN (a : Nat) : (a : Int) / 4294967296 = ((a / 4294967296 : Nat) : Int) := by omega
theorem m64_mulN (a b : Nat) : (a : Int) * (b : Int) = ((a * b : Nat) : Int) := (Int.natCast_mul a b).symm
theorem m64_addN (a b : Nat) : (a : Int) + (b : Int) = ((a + b : Nat) : Int) := (Int.natCast_add a b).symm
theorem m64_wrapN (a : Nat) (ha : a < 18446744073709551616) : IntKind.u64.wrap (a : Int) = (a : Int) := by rw [IntKind.wrap_u64]; omega
theorem m64_wrapM (a : Nat) : IntKind.u64.wrap (a : Int) = ((a % 18446744073709551616 : Nat) : Int) := by rw [IntKind.wrap_u64]; omega
theorem bits_Mul64.nat (x y : Nat) (hx : x < 18446744073709551616) (hy : y < 18446744073709551616) (w : World) :
  Calls Tryd.prog 99 #[.int .u64 x, .int .u64 y] w fun e w' => e = .returned (.tuple #[.int .u64 ((x * y / 18446744073709551616 : Nat) : Int), .int .u64 ((x * y % 18446744073709551616 : Nat) : Int)]) ∧ w' = w := by
 obtain ⟨bd, bt, bw, hhi⟩ := Lib.mul64_hi x y hx hy
 have ba := Lib.half_mul_le (a := x / 4294967296) (b := y / 4294967296) (by omega) (by omega)
 have bb := Lib.half_mul_le (a := x / 4294967296) (b := y % 4294967296) (by omega) (by omega)
 have bc := Lib.half_mul_le (a := x % 4294967296) (b := y / 4294967296) (by omega) (by omega)
 have ba' : x / 4294967296 * (y / 4294967296) < 18446744073709551616 := by omega
 have bb' : x / 4294967296 * (y % 4294967296) < 18446744073709551616 := by omega
 have bc' : x % 4294967296 * (y / 4294967296) < 18446744073709551616 := by omega
 have bh1 : x / 4294967296 * (y / 4294967296) + (x / 4294967296 * (y % 4294967296) + x % 4294967296 * (y % 4294967296) / 4294967296) / 4294967296 < 18446744073709551616 := by omega
 have bh : x / 4294967296 * (y / 4294967296) + (x / 4294967296 * (y % 4294967296) + x % 4294967296 * (y % 4294967296) / 4294967296) / 4294967296 + ((x / 4294967296 * (y % 4294967296) + x % 4294967296 * (y % 4294967296) / 4294967296) % 4294967296 + x % 4294967296 * (y / 4294967296)) / 4294967296 < 18446744073709551616 := by omega
 go_enter Tryd.func99, Tryd.ntmps99
 go_wp2
 simp only [m64_maskN x hx, m64_maskN y hy, m64_divN, m64_mulN, m64_addN, m64_wrapN _ bd, m64_wrapN _ bb', m64_wrapN _ bt, m64_maskN _ bt, m64_wrapN _ bc', m64_wrapN _ bw, m64_wrapN _ ba', m64_wrapN _ bh1, m64_wrapN _ bh, m64_wrapM (x * y)]
 rw [hhi]
 go_ret2
 exact ⟨rfl, rfl⟩
theorem bits_Mul64.calls (a0 a1 r1 r2 : Int) (w : World) (h : bits_Mul64.f a0 a1 = some (r1, r2)) :
  Calls Tryd.prog 99 #[.int .u64 a0, .int .u64 a1] w fun e w' => e = .returned (.tuple #[.int .u64 r1, .int .u64 r2]) ∧ Drawn0 w w' := by
 unfold bits_Mul64.f at h
 split at h <;> simp only [Option.some.injEq, Prod.mk.injEq, reduceCtorEq] at h
 rename_i hb
 obtain ⟨rfl, rfl⟩ := h
 obtain ⟨x, rfl⟩ := Int.eq_ofNat_of_zero_le hb.1
 obtain ⟨y, rfl⟩ := Int.eq_ofNat_of_zero_le hb.2.2.1
 refine (bits_Mul64.nat x y (by omega) (by omega) w).mono ?_
 rintro e w' ⟨rfl, rfl⟩
 exact ⟨by rw [m64_mulN]; rfl, Drawn0.refl _⟩
theorem mulx (x y : Nat) (hx : x < 18446744073709551616) (hy : y < 18446744073709551616) (w : World) :
  Calls Tryd.prog 67 #[.int .u64 x, .int .u64 y] w fun e w' => e = .returned (.agg #[.int .u64 ((x * y / 18446744073709551616 : Nat) : Int), .int .u64 ((x * y % 18446744073709551616 : Nat) : Int)]) ∧ w' = w.alloc (.cells #[.int .u64 ((x * y / 18446744073709551616 : Nat) : Int), .int .u64 ((x * y % 18446744073709551616 : Nat) : Int)] 111) := by
 obtain ⟨bd, bt, bw, hhi⟩ := Lib.mul64_hi x y hx hy
 have ba := Lib.half_mul_le (a := x / 4294967296) (b := y / 4294967296) (by omega) (by omega)
 have bb := Lib.half_mul_le (a := x / 4294967296) (b := y % 4294967296) (by omega) (by omega)
 have bc := Lib.half_mul_le (a := x % 4294967296) (b := y / 4294967296) (by omega) (by omega)
 have ba' : x / 4294967296 * (y / 4294967296) < 18446744073709551616 := by omega
 have bb' : x / 4294967296 * (y % 4294967296) < 18446744073709551616 := by omega
 have bc' : x % 4294967296 * (y / 4294967296) < 18446744073709551616 := by omega
 have bw' : x % 4294967296 * (y / 4294967296) + (x / 4294967296 * (y % 4294967296) + x % 4294967296 * (y % 4294967296) / 4294967296) % 4294967296 < 18446744073709551616 := by omega
 have bh1 : x / 4294967296 * (y / 4294967296) + (x / 4294967296 * (y % 4294967296) + x % 4294967296 * (y % 4294967296) / 4294967296) / 4294967296 < 18446744073709551616 := by omega
 have bh : x / 4294967296 * (y / 4294967296) + (x / 4294967296 * (y % 4294967296) + x % 4294967296 * (y % 4294967296) / 4294967296) / 4294967296 + (x % 4294967296 * (y / 4294967296) + (x / 4294967296 * (y % 4294967296) + x % 4294967296 * (y % 4294967296) / 4294967296) % 4294967296) / 4294967296 < 18446744073709551616 := by omega
 have hhi' : x / 4294967296 * (y / 4294967296) + (x / 4294967296 * (y % 4294967296) + x % 4294967296 * (y % 4294967296) / 4294967296) / 4294967296 + (x % 4294967296 * (y / 4294967296) + (x / 4294967296 * (y % 4294967296) + x % 4294967296 * (y % 4294967296) / 4294967296) % 4294967296) / 4294967296 = x * y / 18446744073709551616 := by rw [← hhi, Nat.add_comm (x % 4294967296 * (y / 4294967296))]
 have hlo := mul_lo x y
 have hH : x * y / 18446744073709551616 < 18446744073709551616 := by rw [← hhi']; exact bh
 generalize x * y / 18446744073709551616 = hi at hhi' hH hhi
 generalize hlo9 : x * y % 18446744073709551616 = lo at hlo
 have H := sd (And.intro bd (And.intro bt (And.intro bw' (And.intro ba' (And.intro bb' (And.intro bc' (And.intro bh1 (And.intro bh (And.intro hhi' (And.intro hlo hH))))))))))
 clear bd bt bw hhi ba bb bc ba' bb' bc' bw' bh1 bh hhi' hlo hlo9 hH
 go_enter Tryd.func67, Tryd.ntmps67
 go_wp2_with fail
 obtain ⟨bd, bt, bw', ba', bb', bc', bh1, bh, hhi', hlo, hH⟩ := H.out
 simp only [m64_maskN x hx, m64_maskN y hy, m64_divN, m64_mulN, m64_addN, m64_wrapN _ bd, m64_maskN _ bd, m64_wrapN _ bb', m64_wrapN _ bt, m64_maskN _ bt, m64_wrapN _ bc', m64_wrapN _ bw', m64_wrapN _ ba', m64_wrapN _ bh1, m64_wrapN _ bh, m64_wrapN _ hH, m64_shl, m64_join _ _ (Nat.mod_lt _ (show 0 < 4294967296 by decide)) (Nat.mod_lt _ (show 0 < 4294967296 by decide)), hhi', hlo]
 exact bodyPost_ret (v := .agg #[.int .u64 (hi : Int), .int .u64 (lo : Int)]) (by simp [results, Tryd.results67, go_sem]) rfl ⟨rfl, by simp [World.setCell_alloc_at]⟩
theorem mag (a0 : Int) (hb : I64 a0) (w : World) : Calls Tryd.prog 68 #[.int .i64 a0] w fun e w' => e = .returned (.int .u64 (a0.natAbs : Int)) ∧ w = w' := by
 obtain ⟨h0, h1⟩ := hb
 by_cases h : a0 < 0
 ·go_enter Tryd.func68, Tryd.ntmps68
  go_wp2
  go_ret
  exact ⟨ret_int (by rw [wu64, wu64]; omega), rfl⟩
 go_enter Tryd.func68, Tryd.ntmps68
 go_wp2
 go_ret
 exact ⟨ret_int (by omega), rfl⟩
theorem direction_any (a b : Int) (w : World) : Calls Tryd.prog 69 #[.int .i64 a, .int .i64 b] w fun e w' => e = .returned (.int .i64 (dirS a b)) ∧ w = w' := by
 unfold dirS
 by_cases h1 : a = 0
 ·subst h1
  rw [if_pos (.inl rfl)]
  go_enter Tryd.func69, Tryd.ntmps69
  go_wp2
  go_ret
  exact ⟨rfl, rfl⟩
 have h1' : (a == 0) = false := by rw [beq_eq_false_iff_ne]; exact h1
 by_cases h2 : b = 0
 ·subst h2
  rw [if_pos (.inr rfl)]
  clear h1
  go_enter Tryd.func69, Tryd.ntmps69
  go_wp2
  go_ret
  exact ⟨rfl, rfl⟩
 have h2' : (b == 0) = false := by rw [beq_eq_false_iff_ne]; exact h2
 rw [if_neg (fun h => h.elim h1 h2)]
 clear h1 h2
 by_cases ha : a < 0 <;> by_cases hb : b < 0 <;> simp only [ha, hb, decide_true, decide_false, bne_self_eq_false, Bool.false_eq_true, if_false, if_true, Bool.bne_false, Bool.bne_true, Bool.not_false]
 all_goals
  go_enter Tryd.func69, Tryd.ntmps69
  go_wp2
  go_ret
  exact ⟨rfl, rfl⟩
theorem compare_any (a b c d : Int) (w : World) :
  Calls Tryd.prog 70 #[.agg #[.int .u64 a, .int .u64 b], .agg #[.int .u64 c, .int .u64 d]] w fun e w' => e = .returned (.int .i64 (cmp2 a b c d)) ∧ Below w.heap.size w w' := by
 unfold cmp2
 by_cases h0 : a = c
 ·subst h0
  rw [if_pos rfl]
  by_cases h3 : b = d
  ·subst h3
   rw [if_pos rfl]
   go_enter Tryd.func70, Tryd.ntmps70
   go_wp2_with fail
   refine wp_loop_rounds 3 ?_
   rw [rounds_succ]
   go_wp2_with fail
   go_quiet (fail)
   go_wp2_with fail
   rw [rounds_succ]
   go_wp2_with fail
   go_quiet (fail)
   go_wp2_with fail
   rw [rounds_succ]
   go_wp2_with fail
   go_ret
   exact ⟨rfl, zq101⟩
  rw [if_neg h3]
  have h1 : (b == d) = false := by rw [beq_eq_false_iff_ne]; omega
  have h2 : (b != d) = true := by rw [bne_iff_ne]; omega
  clear h3
  by_cases h4 : b < d
  ·rw [if_pos h4]
   go_enter Tryd.func70, Tryd.ntmps70
   go_wp2_with fail
   refine wp_loop_rounds 3 ?_
   rw [rounds_succ]
   go_wp2_with fail
   go_quiet (fail)
   go_wp2_with fail
   rw [rounds_succ]
   go_wp2_with fail
   go_quiet (fail)
   go_wp2_with fail
   go_quiet (fail)
   go_wp2_with fail
   go_ret
   exact ⟨rfl, zq101⟩
  rw [if_neg h4]
  go_enter Tryd.func70, Tryd.ntmps70
  go_wp2_with fail
  refine wp_loop_rounds 3 ?_
  rw [rounds_succ]
  go_wp2_with fail
  go_quiet (fail)
  go_wp2_with fail
  rw [rounds_succ]
  go_wp2_with fail
  go_quiet (fail)
  go_wp2_with fail
  go_quiet (fail)
  go_wp2_with fail
  go_ret
  exact ⟨rfl, zq101⟩
 rw [if_neg h0]
 have h1 : (a == c) = false := by rw [beq_eq_false_iff_ne]; omega
 have h2 : (a != c) = true := by rw [bne_iff_ne]; omega
 clear h0
 by_cases h4 : a < c
 ·rw [if_pos h4]
  go_enter Tryd.func70, Tryd.ntmps70
  go_wp2_with fail
  refine wp_loop_rounds 3 ?_
  rw [rounds_succ]
  go_wp2_with fail
  go_quiet (fail)
  go_wp2_with fail
  go_quiet (fail)
  go_wp2_with fail
  go_ret
  exact ⟨rfl, zq101⟩
 rw [if_neg h4]
 go_enter Tryd.func70, Tryd.ntmps70
 go_wp2_with fail
 refine wp_loop_rounds 3 ?_
 rw [rounds_succ]
 go_wp2_with fail
 go_quiet (fail)
 go_wp2_with fail
 go_quiet (fail)
 go_wp2_with fail
 go_ret
 exact ⟨rfl, zq101⟩
theorem cmp_any (a b c d : Int) (ha : I64 a) (hb : I64 b) (hc : I64 c) (hd : I64 d) (w : World) :
  Calls Tryd.prog 44 #[.int .i64 a, .int .i64 b, .int .i64 c, .int .i64 d] w fun e w' => e = .returned (.int .i64 (cmpS a b c d)) ∧ Below w.heap.size w w' := by
 obtain ⟨x, hx⟩ : ∃ x : Nat, x = a.natAbs := ⟨_, rfl⟩
 obtain ⟨y, hy⟩ : ∃ y : Nat, y = b.natAbs := ⟨_, rfl⟩
 obtain ⟨z, hz⟩ : ∃ z : Nat, z = c.natAbs := ⟨_, rfl⟩
 obtain ⟨u, hu⟩ : ∃ u : Nat, u = d.natAbs := ⟨_, rfl⟩
 have HXB := sd (show x < 18446744073709551616 by unfold I64 at ha; omega)
 have HYB := sd (show y < 18446744073709551616 by unfold I64 at hb; omega)
 have HZB := sd (show z < 18446744073709551616 by unfold I64 at hc; omega)
 have HUB := sd (show u < 18446744073709551616 by unfold I64 at hd; omega)
 have HIa := sd (mag a ha)
 have HIb := sd (mag b hb)
 have HIc := sd (mag c hc)
 have HId := sd (mag d hd)
 rw [← hx] at HIa; rw [← hy] at HIb; rw [← hz] at HIc; rw [← hu] at HId
 have HX := sd hx
 have HY := sd hy
 have HZ := sd hz
 have HU := sd hu
 clear hx hy hz hu ha hb hc hd
 have HM1 := sd (mulx x y HXB.out HYB.out)
 have HM2 := sd (mulx z u HZB.out HUB.out)
 go_enter Tryd.func44, Tryd.ntmps44
 go_wp2_with fail
 refine (HIa.out _).mono ?_
 rintro e w' ⟨rfl, rfl⟩
 go_wp2_with fail
 refine (HIb.out _).mono ?_
 rintro e w' ⟨rfl, rfl⟩
 go_wp2_with fail
 refine (HM1.out _).mono ?_
 rintro e w1 ⟨rfl, hw1⟩
 subst hw1
 generalize hph : x * y / 18446744073709551616 = ph at *
 generalize hpl : x * y % 18446744073709551616 = pl at *
 go_wp2_with fail
 refine (HIc.out _).mono ?_
 rintro e w' ⟨rfl, rfl⟩
 go_wp2_with fail
 refine (HId.out _).mono ?_
 rintro e w' ⟨rfl, rfl⟩
 go_wp2_with fail
 refine (HM2.out _).mono ?_
 rintro e w1 ⟨rfl, hw1⟩
 subst hw1
 generalize hqh : z * u / 18446744073709551616 = qh at *
 generalize hql : z * u % 18446744073709551616 = ql at *
 have HPH := sd hph
 have HPL := sd hpl
 have HQH := sd hqh
 have HQL := sd hql
 clear hph hpl hqh hql HIa HIb HIc HId HM1 HM2
 have HD1 := sd (direction_any a b)
 have HD2 := sd (direction_any c d)
 have HC1 := sd (compare_any (ph : Int) (pl : Int) (qh : Int) (ql : Int))
 have HC2 := sd (compare_any (qh : Int) (ql : Int) (ph : Int) (pl : Int))
 generalize hl : dirS a b = l at *
 generalize hr : dirS c d = r at *
 have HL := sd hl
 have HR := sd hr
 clear hl hr
 go_wp2_with fail
 refine (HD1.out _).mono ?_
 rintro e w' ⟨rfl, rfl⟩
 go_wp2_with fail
 refine (HD2.out _).mono ?_
 rintro e w' ⟨rfl, rfl⟩
 have hfin := cmp_fin a b c d ph pl qh ql (by rw [← HX.out, ← HY.out]; exact HPH.out) (by rw [← HX.out, ← HY.out]; exact HPL.out) (by rw [← HZ.out, ← HU.out]; exact HQH.out) (by rw [← HZ.out, ← HU.out]; exact HQL.out)
 rw [HL.out, HR.out] at hfin
 have HF := sd hfin
 clear hfin
 by_cases h1 : l < r
 ·go_wp2_with fail
  go_ret
  exact ⟨ret_int (by rw [HF.out, if_pos h1]), zq101⟩
 by_cases h2 : r < l
 ·go_wp2_with fail
  go_ret
  exact ⟨ret_int (by rw [HF.out, if_neg (by omega), if_pos h2]), zq101⟩
 by_cases h3 : l < 0
 ·go_wp2_with fail
  refine (HC2.out _).mono ?_
  rintro e w2 ⟨rfl, hb⟩
  go_wp2_with fail
  go_ret
  exact ⟨ret_int (by rw [HF.out, if_neg (by omega), if_neg (by omega), if_pos h3]), Below.trans zq101 (hb.mono (by simp; omega))⟩
 go_wp2_with fail
 refine (HC1.out _).mono ?_
 rintro e w2 ⟨rfl, hb⟩
 go_wp2_with fail
 go_ret
 exact ⟨ret_int (by rw [HF.out, if_neg (by omega), if_neg (by omega), if_neg (by omega)]), Below.trans zq101 (hb.mono (by simp; omega))⟩
def muldiv_Cmp.f (a0 a1 a2 a3 : Int) : Option Int := if I64 a0 ∧ I64 a1 ∧ I64 a2 ∧ I64 a3 then some (cmpS a0 a1 a2 a3) else none
theorem muldiv_Cmp.calls (a0 a1 a2 a3 r : Int) (w : World) (h : muldiv_Cmp.f a0 a1 a2 a3 = some r) :
  Calls Tryd.prog 44 #[.int .i64 a0, .int .i64 a1, .int .i64 a2, .int .i64 a3] w fun e w' => e = .returned (.int .i64 r) ∧ Below w.heap.size w w' := by
 unfold muldiv_Cmp.f at h
 split at h
 ·rename_i hb
  obtain rfl := Option.some.inj h
  exact cmp_any a0 a1 a2 a3 hb.1 hb.2.1 hb.2.2.1 hb.2.2.2 w
 ·cases h
def frac_Cmp.f (k : Nat) (a0_0 : Int) (a0_1 : Int) (a1_0 : Int) (a1_1 : Int) : Option (Int) := (frac_Right.f k a0_0 a0_1).bind fun t110 => (if t110 = true then ((frac_Right.f k a1_0 a1_1).bind fun t111 => (if t111 = true then ((muldiv_Cmp.f a0_0 a1_1 a1_0 a0_1).bind fun t112 => (some t112)) else (some 0))) else (some 0))
theorem frac_Cmp.calls (k : Nat) (a0_0 a0_1 a1_0 a1_1 r : Int) (w : World) (h : frac_Cmp.f k a0_0 a0_1 a1_0 a1_1 = some r) :
  Calls Tryd.prog 28 #[.agg #[.int .i64 a0_0, .int .i64 a0_1], .agg #[.int .i64 a1_0, .int .i64 a1_1]] w fun e w' => e = .returned (.int .i64 r) ∧ Below w.heap.size w w' := by
 have hu38 := Tryd.underlying38
 have HB := sd (Below.refl w.heap.size w)
 have H := h
 clear h
 unfold frac_Cmp.f at H
 replace H := bdI H
 obtain ⟨t110, A3, H⟩ := H
 (try dsimp only at H)
 by_cases c4 : t110 = true
 ·subst c4
  rw [if_pos rfl] at H
  replace H := bdI H
  obtain ⟨t111, A5, H⟩ := H
  (try dsimp only at H)
  by_cases c6 : t111 = true
  ·subst c6
   rw [if_pos rfl] at H
   replace H := bdI H
   obtain ⟨t112, A7, H⟩ := H
   (try dsimp only at H)
   obtain rfl := Option.some.inj H
   go_enter Tryd.func28, Tryd.ntmps28
   go_wp2_with (first | ((with_reducible refine gate_dst (N := 2) rfl ?_); refine bxA 2 #[.int .i64 a0_0, .int .i64 a0_1] 38 ?_; intro gb108 hg w8 hbox hb; have BK108 := sd (hbox); have GW108 := gem hg HB; have GE108 := GW108; replace HB := hbm HB hb; clear hb hbox hg) | ((with_reducible refine gate_dst (N := 3) rfl ?_); refine bxA 3 #[.int .i64 a1_0, .int .i64 a1_1] 38 ?_; intro gb109 hg w9 hbox hb; have BK109 := sd (hbox); have GW109 := gem hg HB; have GE109 := GW109; have NB108_109 := nlm hg BK108; have NB109_108 := ngm hg BK108; replace BK108 := bkm BK108 hb; replace HB := hbm HB hb; clear hb hbox hg; have hnb10 := NB108_109.out; have hnc10 := NB109_108.out; obtain ⟨_, _, _, _⟩ := bk2 BK108) | ((with_reducible refine gate_callee (f := 41) rfl ?_); refine gL 6 Tryd.func41 #[.agg #[.int .i64 a0_0, .int .i64 a0_1]] ?_; (with_reducible refine (frac_Right.calls k a0_0 a0_1 true _ A3.out).mono ?_); rintro e w12 ⟨rfl, hb⟩; refine ⟨_, rfl, ?_⟩; replace BK108 := bkm BK108 hb; replace BK109 := bkm BK109 hb; replace HB := hbm HB hb; clear hb; obtain ⟨_, _, _, _⟩ := bk2 BK109) | (go_at_call 41; (with_reducible refine (frac_Right.calls k a1_0 a1_1 true _ A5.out).mono ?_); rintro e w14 ⟨rfl, hb⟩; replace BK108 := bkm BK108 hb; replace BK109 := bkm BK109 hb; replace HB := hbm HB hb; clear hb; obtain ⟨_, _, _, _⟩ := bk2 BK108; obtain ⟨_, _, _, _⟩ := bk2 BK109) | ((with_reducible refine gate_callee (f := 44) rfl ?_); refine gL 21 Tryd.func44 #[.int .i64 a0_0, .int .i64 a1_1, .int .i64 a1_0, .int .i64 a0_1] ?_; (with_reducible refine (muldiv_Cmp.calls a0_0 a1_1 a1_0 a0_1 t112 _ A7.out).mono ?_); rintro e w17 ⟨rfl, hb⟩; refine ⟨_, rfl, ?_⟩; replace BK108 := bkm BK108 hb; replace BK109 := bkm BK109 hb; replace HB := hbm HB hb; clear hb))
   go_ret
   exact ⟨zq8, zq102⟩
  replace c6 := Bool.eq_false_iff.mpr c6
  subst c6
  rw [if_neg Bool.false_ne_true] at H
  obtain rfl := Option.some.inj H
  go_enter Tryd.func28, Tryd.ntmps28
  go_wp2_with (first | ((with_reducible refine gate_dst (N := 2) rfl ?_); refine bxA 2 #[.int .i64 a0_0, .int .i64 a0_1] 38 ?_; intro gb108 hg w18 hbox hb; have BK108 := sd (hbox); have GW108 := gem hg HB; have GE108 := GW108; replace HB := hbm HB hb; clear hb hbox hg) | ((with_reducible refine gate_dst (N := 3) rfl ?_); refine bxA 3 #[.int .i64 a1_0, .int .i64 a1_1] 38 ?_; intro gb109 hg w19 hbox hb; have BK109 := sd (hbox); have GW109 := gem hg HB; have GE109 := GW109; have NB108_109 := nlm hg BK108; have NB109_108 := ngm hg BK108; replace BK108 := bkm BK108 hb; replace HB := hbm HB hb; clear hb hbox hg; have hnb20 := NB108_109.out; have hnc20 := NB109_108.out; obtain ⟨_, _, _, _⟩ := bk2 BK108) | ((with_reducible refine gate_callee (f := 41) rfl ?_); refine gL 6 Tryd.func41 #[.agg #[.int .i64 a0_0, .int .i64 a0_1]] ?_; (with_reducible refine (frac_Right.calls k a0_0 a0_1 true _ A3.out).mono ?_); rintro e w22 ⟨rfl, hb⟩; refine ⟨_, rfl, ?_⟩; replace BK108 := bkm BK108 hb; replace BK109 := bkm BK109 hb; replace HB := hbm HB hb; clear hb; obtain ⟨_, _, _, _⟩ := bk2 BK109) | (go_at_call 41; (with_reducible refine (frac_Right.calls k a1_0 a1_1 false _ A5.out).mono ?_); rintro e w24 ⟨rfl, hb⟩; replace BK108 := bkm BK108 hb; replace BK109 := bkm BK109 hb; replace HB := hbm HB hb; clear hb))
  go_ret
  exact ⟨zq8, zq102⟩
 replace c4 := Bool.eq_false_iff.mpr c4
 subst c4
 rw [if_neg Bool.false_ne_true] at H
 obtain rfl := Option.some.inj H
 go_enter Tryd.func28, Tryd.ntmps28
 go_wp2_with (first | ((with_reducible refine gate_dst (N := 2) rfl ?_); refine bxA 2 #[.int .i64 a0_0, .int .i64 a0_1] 38 ?_; intro gb108 hg w25 hbox hb; have BK108 := sd (hbox); have GW108 := gem hg HB; have GE108 := GW108; replace HB := hbm HB hb; clear hb hbox hg) | ((with_reducible refine gate_dst (N := 3) rfl ?_); refine bxA 3 #[.int .i64 a1_0, .int .i64 a1_1] 38 ?_; intro gb109 hg w26 hbox hb; have BK109 := sd (hbox); have GW109 := gem hg HB; have GE109 := GW109; have NB108_109 := nlm hg BK108; have NB109_108 := ngm hg BK108; replace BK108 := bkm BK108 hb; replace HB := hbm HB hb; clear hb hbox hg; have hnb27 := NB108_109.out; have hnc27 := NB109_108.out; obtain ⟨_, _, _, _⟩ := bk2 BK108) | ((with_reducible refine gate_callee (f := 41) rfl ?_); refine gL 6 Tryd.func41 #[.agg #[.int .i64 a0_0, .int .i64 a0_1]] ?_; (with_reducible refine (frac_Right.calls k a0_0 a0_1 false _ A3.out).mono ?_); rintro e w29 ⟨rfl, hb⟩; refine ⟨_, rfl, ?_⟩; replace BK108 := bkm BK108 hb; replace BK109 := bkm BK109 hb; replace HB := hbm HB hb; clear hb))
 go_ret
 exact ⟨zq8, zq102⟩
mutual
def terms_Right.j0 : Nat → Bool → Int → Bool → List (S53) → Option (Bool)
 | 0, _, _, _, _ => none
 | k + 1, x14, x114000, x114001, x114002 => if x14 = true then (some false) else (terms_Right.l0 k x114002 (x114002.length : Int) 0 x114000 x114001 x114002)
def terms_Right.l0 : Nat → List (S53) → Int → Int → Int → Bool → List (S53) → Option (Bool)
 | 0, _, _, _, _, _, _ => none
 | k + 1, x16, x17, x18, x114000, x114001, x114002 => if x18 < x17 then (if 0 ≤ x18 then (if x18 < (x16.length : Int) then ((terms_inYear.f ((rd_T53 x16 x18).f0)).bind fun t117 => (if t117 = true then ((terms_proper.f k ((rd_T53 x16 x18).f1.f0) ((rd_T53 x16 x18).f1.f1)).bind fun t118 => (terms_Right.j2 k x18 x16 x17 x18 (!t118) x114000 x114001 x114002 ((rd_T53 x16 x18).f0) ((rd_T53 x16 x18).f1.f0) ((rd_T53 x16 x18).f1.f1))) else (terms_Right.j2 k x18 x16 x17 x18 true x114000 x114001 x114002 ((rd_T53 x16 x18).f0) ((rd_T53 x16 x18).f1.f0) ((rd_T53 x16 x18).f1.f1)))) else (none)) else (none)) else (some true)
def terms_Right.j2 : Nat → Int → List (S53) → Int → Int → Bool → Int → Bool → List (S53) → Int → Int → Int → Option (Bool)
 | 0, _, _, _, _, _, _, _, _, _, _, _ => none
 | k + 1, x3, x16, x17, x18, x32, x114000, x114001, x114002, x117000, x117001, x117002 => if x32 = true then (some false) else (if x3 > 0 then (if 0 ≤ (wrap64 (x3 - 1)) then (if (wrap64 (x3 - 1)) < (x114002.length : Int) then (if ((rd_T53 x114002 (wrap64 (x3 - 1))).f0) ≥ x117000 then (some false) else ((frac_Cmp.f k ((rd_T53 x114002 (wrap64 (x3 - 1))).f1.f0) ((rd_T53 x114002 (wrap64 (x3 - 1))).f1.f1) x117001 x117002).bind fun t121 => (if t121 ≤ 0 then (some false) else (terms_Right.l0 k x16 x17 (wrap64 (x18 + 1)) x114000 x114001 x114002)))) else (none)) else (none)) else (terms_Right.l0 k x16 x17 (wrap64 (x18 + 1)) x114000 x114001 x114002))
end
def terms_Right.f (k : Nat) (a0_0 : Int) (a0_1 : Bool) (l0_2 : List (S53)) : Option (Bool) := (terms_inYear.f a0_0).bind fun t114 => (if t114 = true then (terms_Right.j0 k (decide ((l0_2.length : Int) > 5)) a0_0 a0_1 l0_2) else (terms_Right.j0 k true a0_0 a0_1 l0_2))
def terms_Right.T8 : Bool × List (List Nat × List Nat) := (true, [([], []), ([0], [0]), ([1], [1]), ([2], [2]), ([3, 2], [2, 3]), ([2], [2]), ([5, 2], [2, 5]), ([4, 6, 2], [2, 4, 6]), ([7, 2], [2, 7]), ([8, 2], [2, 8]), ([2], [2]), ([10, 2], [2, 10]), ([9, 11, 2], [2, 9, 11]), ([12, 2, 2], [2, 12]), ([13], [13]), ([14, 13], [13, 14]), ([13], [13]), ([16, 13], [13, 16]), ([15, 17, 13], [13, 15, 17]), ([18, 13], [13, 18]), ([19, 13], [13, 19]), ([13], [13]), ([21, 13], [13, 21]), ([20, 22, 13, 13], [13, 20, 22]), ([23, 13], [13, 23]), ([13, 24, 2], [2, 13, 24]), ([2, 25], [2, 25])])
def terms_Right.B8 : List Nat := [0, 1, 3, 7, 15, 7, 39, 127, 255, 511, 7, 1031, 4095, 8191, 16383, 32767, 16383, 81919, 262143, 524287, 1048575, 16383, 2113535, 8388607, 16777215, 33554431, 67108863]
theorem terms_Right.tab8 : rtab .any (opsOf Tryd.f12 8) = terms_Right.T8 := by kernel_rfl
theorem terms_Right.bits8 : waitsOk terms_Right.T8.2 terms_Right.B8 = true := by kernel_rfl
theorem terms_Right.calls (k : Nat) (a0_0 : Int) (a0_1 : Bool) (A0_2 : Option Addr) (c0_2 : Nat) (l0_2 : List (S53)) (r : Bool) (w : World) (hr0_2 : Kd.C k53 w A0_2 l0_2.length l0_2) (hc0_2 : l0_2.length ≤ c0_2) (h : terms_Right.f k a0_0 a0_1 l0_2 = some r) :
  Calls Tryd.prog 12 #[.agg #[.int .i64 a0_0, .bool a0_1, .slice A0_2 l0_2.length c0_2]] w fun e w' => e = .returned (.bool r) ∧ Below w.heap.size w w' := by
 have hu24 := Tryd.underlying24
 have hu53 := Tryd.underlying53
 have hu38 := Tryd.underlying38
 have HR0_2 := sd hr0_2
 have HC0_2 := sd hc0_2
 clear hr0_2 hc0_2
 have HB := sd (Below.refl w.heap.size w)
 have H := h
 clear h
 unfold terms_Right.f at H
 have HC2 := sd H
 clear H
 go_enter Tryd.func12, Tryd.ntmps12
 go_upto_region 1 with (first | ((with_reducible refine gate_dst (N := 1) rfl ?_); (try (refine gate_guard (by rfl) ?_; dsimp only)); refine bxA 1 #[.int .i64 a0_0, .bool a0_1, .slice A0_2 l0_2.length c0_2] 24 ?_; intro gb113 hg w3 hbox hb; have BK113 := sd (hbox); have GW113 := gem hg HB; have GE113 := GW113; replace HB := hbm HB hb; clear hb hbox hg))
 (try simp only [Act.put, List.setIfInBounds_toArray, List.set_cons_zero, List.set_cons_succ])
 go_cut [14] (fun v14 wc => ∃ (kq : Nat) (x14_1 : Bool), v14 = .bool x14_1 ∧ Aside0 (terms_Right.j0 kq x14_1 a0_0 a0_1 l0_2 = some r) ∧ Aside0 (kq ≤ k) ∧ Aside0 (wc.heap[gb113]? = some (.cells #[.int .i64 a0_0, .bool a0_1, (.slice A0_2 l0_2.length c0_2)] 24 (0, 0))) ∧ Aside0 (Below w.heap.size w wc))
 case first =>
  have H := HC2.out
  clear HC2
  replace H := bdI H
  obtain ⟨t114, A4, H⟩ := H
  (try dsimp only at H)
  by_cases c5 : t114 = true
  ·subst c5
   rw [if_pos rfl] at H
   have H' := sd H
   clear H
   obtain ⟨_, _, _, _, _, _⟩ := bk3 BK113
   go_wp2_with (first | ((with_reducible refine gate_callee (f := 26) rfl ?_); refine gL 7 Tryd.func26 #[.int .i64 a0_0] ?_; (with_reducible refine (terms_inYear.calls a0_0 true _ A4.out).mono ?_); rintro e w' ⟨rfl, ⟨nd, rfl⟩⟩; refine ⟨_, rfl, ?_⟩))
   go_meet
   case rel => exact ⟨_, (decide ((l0_2.length : Int) > 5)), zq1, H', ⟨by first | omega | exact Nat.le_refl _⟩, ⟨zq103⟩, ⟨zq104⟩⟩
  replace c5 := Bool.eq_false_iff.mpr c5
  subst c5
  rw [if_neg Bool.false_ne_true] at H
  have H' := sd H
  clear H
  obtain ⟨_, _, _, _, _, _⟩ := bk3 BK113
  go_wp2_with (first | ((with_reducible refine gate_callee (f := 26) rfl ?_); refine gL 7 Tryd.func26 #[.int .i64 a0_0] ?_; (with_reducible refine (terms_inYear.calls a0_0 false _ A4.out).mono ?_); rintro e w' ⟨rfl, ⟨nd, rfl⟩⟩; refine ⟨_, rfl, ?_⟩))
  go_meet
  case rel => exact ⟨_, (true), zq1, H', ⟨by first | omega | exact Nat.le_refl _⟩, ⟨zq103⟩, ⟨zq104⟩⟩
 case rest =>
  clear HC2
  try clear c1
  try clear c2
  try clear p2
  try clear c5
  try clear hcz6_0
  try clear hcz6_1
  try clear hcz6_2
  try clear hcz7_0
  try clear hcz7_1
  try clear hcz7_2
  try clear hfz6_0
  try clear hfz6_1
  try clear hfz6_2
  try clear hfz7_0
  try clear hfz7_1
  try clear hfz7_2
  obtain ⟨kq, x14_1, rfl, HA, HJ1, BK113, HB⟩ := hcut
  cases kq with
  | zero => exact absurd HA.out (by simp [terms_Right.j0])
  | succ kj1 =>
   have H := HA.out
   clear HA
   simp only [terms_Right.j0] at H
   by_cases c8 : x14_1 = true
   ·subst c8
    rw [if_pos rfl] at H
    obtain rfl := Option.some.inj H
    go_wp2
    go_ret
    exact ⟨zq8, zq104⟩
   replace c8 := Bool.eq_false_iff.mpr c8
   subst c8
   rw [if_neg Bool.false_ne_true] at H
   have H' := sd H
   clear H
   obtain ⟨_, _, _, _, _, _⟩ := bk3 BK113
   go_wp2
   go_loopg [18] kj1 (fun kq v18 w' => ∃ (x18_2 : Int), v18 = .int .i64 x18_2 ∧ Aside0 (terms_Right.l0 kq l0_2 (l0_2.length : Int) x18_2 a0_0 a0_1 l0_2 = some r) ∧ Aside0 (kq ≤ kj1) ∧ Aside0 (w'.heap[gb113]? = some (.cells #[.int .i64 a0_0, .bool a0_1, (.slice A0_2 l0_2.length c0_2)] 24 (0, 0))) ∧ Aside0 (Below w.heap.size w w'))
   case atStart => exact ⟨(0), zq1, H', ⟨Nat.le_refl _⟩, ⟨zq103⟩, ⟨zq104⟩⟩
   case round =>
    clear H'
    try clear c1
    try clear c2
    try clear p2
    try clear c5
    try clear c8
    try clear hcz6_0
    try clear hcz6_1
    try clear hcz6_2
    try clear hcz7_0
    try clear hcz7_1
    try clear hcz7_2
    try clear hcz9_0
    try clear hcz9_1
    try clear hcz9_2
    try clear hfz6_0
    try clear hfz6_1
    try clear hfz6_2
    try clear hfz7_0
    try clear hfz7_1
    try clear hfz7_2
    try clear hfz9_0
    try clear hfz9_1
    try clear hfz9_2
    try clear p2
    obtain ⟨x18_2, rfl, HA, HK2, BK113, HB⟩ := hrel
    cases gk with
    | zero => exact absurd HA.out (by simp [terms_Right.l0])
    | succ k2 =>
     have H := HA.out
     clear HA
     simp only [terms_Right.l0] at H
     replace H := ifI H
     rcases H with ⟨c10, H⟩ | ⟨c10, H⟩
     ·have c10b0 : decide (x18_2 < (l0_2.length : Int)) = true := decide_eq_true c10
      clear c10
      replace H := ifI H
      rcases H with ⟨c11, H⟩ | ⟨c11, H⟩
      ·have c11b0 : decide (0 ≤ x18_2) = true := decide_eq_true c11
       clear c11
       replace H := ifI H
       rcases H with ⟨c12, H⟩ | ⟨c12, H⟩
       ·have c12b0 : decide (x18_2 < (l0_2.length : Int)) = true := decide_eq_true c12
        clear c12
        have HC13 := sd H
        clear H
        have p115 : 0 ≤ (x18_2 : Int) := od
        have q115 : x18_2 < (l0_2.length : Int) := od
        obtain ⟨ad115, e115, hx115_0, hx115_1, hx115_2⟩ := at_T53 HR0_2.out x18_2 p115 q115
        cases e115
        replace hx115_0 := (HB.out.cell (World.block_lt_of_cell? w _ hx115_0)).trans hx115_0
        replace hx115_1 := (HB.out.cell (World.block_lt_of_cell? w _ hx115_1)).trans hx115_1
        replace hx115_2 := (HB.out.cell (World.block_lt_of_cell? w _ hx115_2)).trans hx115_2
        replace p115 := eq_true p115
        replace q115 := eq_true q115
        go_upto_region 6 with (first | ((with_reducible refine gate_dst (N := 4) rfl ?_); (try (refine gate_guard (by rfl) ?_; dsimp only)); refine bxA 4 #[.int .i64 0, .int .i64 0, .int .i64 0] 53 ?_; intro gb116 hg w14 hbox hb; have BK116 := sd (hbox); have GW116 := gem hg HB; have GE116 := GW116; have NB113_116 := nlm hg BK113; have NB116_113 := ngm hg BK113; replace BK113 := bkm BK113 hb; replace HB := hbm HB hb; clear hb hbox hg; have hnb15 := NB116_113.out; have hnc15 := NB113_116.out; obtain ⟨_, _, _, _, _, _⟩ := bk3 BK116))
        (try simp only [Act.put, List.setIfInBounds_toArray, List.set_cons_zero, List.set_cons_succ])
        go_cut [32] (fun v32 wc => ∃ (kq : Nat) (x32_12 : Bool), v32 = .bool x32_12 ∧ Aside0 (terms_Right.j2 kq x18_2 l0_2 (l0_2.length : Int) x18_2 x32_12 a0_0 a0_1 l0_2 ((rd_T53 l0_2 x18_2).f0) ((rd_T53 l0_2 x18_2).f1.f0) ((rd_T53 l0_2 x18_2).f1.f1) = some r) ∧ Aside0 (kq ≤ k2) ∧ Aside0 (wc.heap[gb113]? = some (.cells #[.int .i64 a0_0, .bool a0_1, (.slice (some ad115) l0_2.length c0_2)] 24 (0, 0))) ∧ Aside0 (wc.heap[gb116]? = some (.cells #[.int .i64 ((rd_T53 l0_2 x18_2).f0), .int .i64 ((rd_T53 l0_2 x18_2).f1.f0), .int .i64 ((rd_T53 l0_2 x18_2).f1.f1)] 53 (0, 0))) ∧ Aside0 (Below w.heap.size w wc))
        case first =>
         have H := HC13.out
         clear HC13
         replace H := bdI H
         obtain ⟨t117, A17, H⟩ := H
         (try dsimp only at H)
         by_cases c18 : t117 = true
         ·subst c18
          rw [if_pos rfl] at H
          replace H := bdI H
          obtain ⟨t118, A19, H⟩ := H
          (try dsimp only at H)
          have H' := sd H
          clear H
          have hnb20 := NB116_113.out
          have hnc20 := NB113_116.out
          obtain ⟨_, _, _, _, _, _⟩ := bk3 BK116
          go_wp2_with (first | ((with_reducible refine gate_callee (f := 26) rfl ?_); refine gL 25 Tryd.func26 #[.int .i64 ((rd_T53 l0_2 x18_2).f0)] ?_; (with_reducible refine (terms_inYear.calls ((rd_T53 l0_2 x18_2).f0) true _ A17.out).mono ?_); rintro e w' ⟨rfl, ⟨nd, rfl⟩⟩; refine ⟨_, rfl, ?_⟩) | (go_at_call 27; (with_reducible refine (terms_proper.calls k2 ((rd_T53 l0_2 x18_2).f1.f0) ((rd_T53 l0_2 x18_2).f1.f1) t118 _ A19.out).mono ?_); rintro e w22 ⟨rfl, hb⟩; replace BK113 := sd (blk_below (g := gb113) (o := .cells #[.int .i64 a0_0, .bool a0_1, .slice (some ad115) l0_2.length c0_2] 24 (0, 0)) (by (with_reducible repeat (first | refine blk_drewN ?_ _ | refine blk_drew ?_ | refine blk_alloc ?_ _)); refine blk_far ?_ NB113_116.out _; (with_reducible repeat (first | refine blk_drewN ?_ _ | refine blk_drew ?_ | refine blk_alloc ?_ _)); refine blk_far ?_ NB113_116.out _; (with_reducible repeat (first | refine blk_drewN ?_ _ | refine blk_drew ?_ | refine blk_alloc ?_ _)); refine blk_far ?_ NB113_116.out _; (with_reducible repeat (first | refine blk_drewN ?_ _ | refine blk_drew ?_ | refine blk_alloc ?_ _)); exact BK113.out) hb); replace BK116 := sd (blk_below (g := gb116) (o := .cells #[.int .i64 ((rd_T53 l0_2 x18_2).f0), .int .i64 ((rd_T53 l0_2 x18_2).f1.f0), .int .i64 ((rd_T53 l0_2 x18_2).f1.f1)] 53 (0, 0)) (by (with_reducible repeat (first | refine blk_drewN ?_ _ | refine blk_drew ?_ | refine blk_alloc ?_ _)); refine blk_put (cs := #[.int .i64 ((rd_T53 l0_2 x18_2).f0), .int .i64 ((rd_T53 l0_2 x18_2).f1.f0), .int .i64 0]) ?_ 2 _ rfl; (with_reducible repeat (first | refine blk_drewN ?_ _ | refine blk_drew ?_ | refine blk_alloc ?_ _)); refine blk_put (cs := #[.int .i64 ((rd_T53 l0_2 x18_2).f0), .int .i64 0, .int .i64 0]) ?_ 1 _ rfl; (with_reducible repeat (first | refine blk_drewN ?_ _ | refine blk_drew ?_ | refine blk_alloc ?_ _)); refine blk_put (cs := #[.int .i64 0, .int .i64 0, .int .i64 0]) ?_ 0 _ rfl; (with_reducible repeat (first | refine blk_drewN ?_ _ | refine blk_drew ?_ | refine blk_alloc ?_ _)); exact BK116.out) hb); replace HB := hbm HB hb; clear hb))
          go_meet
          case rel => exact ⟨_, (!t118), zq1, H', ⟨zq28⟩, ⟨zq103⟩, ⟨by (with_reducible repeat (first | refine blk_drewN ?_ _ | refine blk_drew ?_ | refine blk_alloc ?_ _)); exact BK116.out⟩, ⟨zq105⟩⟩
         replace c18 := Bool.eq_false_iff.mpr c18
         subst c18
         rw [if_neg Bool.false_ne_true] at H
         have H' := sd H
         clear H
         have hnb23 := NB116_113.out
         have hnc23 := NB113_116.out
         obtain ⟨_, _, _, _, _, _⟩ := bk3 BK116
         go_wp2_with (first | ((with_reducible refine gate_callee (f := 26) rfl ?_); refine gL 25 Tryd.func26 #[.int .i64 ((rd_T53 l0_2 x18_2).f0)] ?_; (with_reducible refine (terms_inYear.calls ((rd_T53 l0_2 x18_2).f0) false _ A17.out).mono ?_); rintro e w' ⟨rfl, ⟨nd, rfl⟩⟩; refine ⟨_, rfl, ?_⟩))
         go_meet
         case rel => exact ⟨_, (true), zq1, H', ⟨zq28⟩, ⟨by (with_reducible repeat (first | refine blk_drewN ?_ _ | refine blk_drew ?_ | refine blk_alloc ?_ _)); refine blk_far ?_ NB113_116.out _; (with_reducible repeat (first | refine blk_drewN ?_ _ | refine blk_drew ?_ | refine blk_alloc ?_ _)); refine blk_far ?_ NB113_116.out _; (with_reducible repeat (first | refine blk_drewN ?_ _ | refine blk_drew ?_ | refine blk_alloc ?_ _)); refine blk_far ?_ NB113_116.out _; (with_reducible repeat (first | refine blk_drewN ?_ _ | refine blk_drew ?_ | refine blk_alloc ?_ _)); exact BK113.out⟩, ⟨by (with_reducible repeat (first | refine blk_drewN ?_ _ | refine blk_drew ?_ | refine blk_alloc ?_ _)); refine blk_put (cs := #[.int .i64 ((rd_T53 l0_2 x18_2).f0), .int .i64 ((rd_T53 l0_2 x18_2).f1.f0), .int .i64 0]) ?_ 2 _ rfl; (with_reducible repeat (first | refine blk_drewN ?_ _ | refine blk_drew ?_ | refine blk_alloc ?_ _)); refine blk_put (cs := #[.int .i64 ((rd_T53 l0_2 x18_2).f0), .int .i64 0, .int .i64 0]) ?_ 1 _ rfl; (with_reducible repeat (first | refine blk_drewN ?_ _ | refine blk_drew ?_ | refine blk_alloc ?_ _)); refine blk_put (cs := #[.int .i64 0, .int .i64 0, .int .i64 0]) ?_ 0 _ rfl; (with_reducible repeat (first | refine blk_drewN ?_ _ | refine blk_drew ?_ | refine blk_alloc ?_ _)); exact BK116.out⟩, ⟨zq105⟩⟩
        case rest =>
         clear HC13
         try clear c1
         try clear p1
         try clear q1
         try clear hx1
         try clear c2
         try clear p2
         try clear c5
         try clear c8
         try clear c10
         try clear c10b0
         try clear c11
         try clear c11b0
         try clear p11
         try clear q11
         try clear hx11
         try clear c12
         try clear c12b0
         try clear c15
         try clear c18
         try clear c20
         try clear c23
         try clear hcz16_0
         try clear hcz16_1
         try clear hcz16_2
         try clear hcz21_0
         try clear hcz21_1
         try clear hcz21_2
         try clear hcz24_0
         try clear hcz24_1
         try clear hcz24_2
         try clear hcz6_0
         try clear hcz6_1
         try clear hcz6_2
         try clear hcz7_0
         try clear hcz7_1
         try clear hcz7_2
         try clear hcz9_0
         try clear hcz9_1
         try clear hcz9_2
         try clear hfz16_0
         try clear hfz16_1
         try clear hfz16_2
         try clear hfz21_0
         try clear hfz21_1
         try clear hfz21_2
         try clear hfz24_0
         try clear hfz24_1
         try clear hfz24_2
         try clear hfz6_0
         try clear hfz6_1
         try clear hfz6_2
         try clear hfz7_0
         try clear hfz7_1
         try clear hfz7_2
         try clear hfz9_0
         try clear hfz9_1
         try clear hfz9_2
         try clear hx115_0
         try clear hx115_1
         try clear hx115_2
         try clear p115
         try clear p2
         try clear q115
         obtain ⟨kq, x32_12, rfl, HA, HJ12, BK113, BK116, HB⟩ := hcut
         cases kq with
         | zero => exact absurd HA.out (by simp [terms_Right.j2])
         | succ kj12 =>
          have H := HA.out
          clear HA
          simp only [terms_Right.j2] at H
          by_cases c25 : x32_12 = true
          ·subst c25
           rw [if_pos rfl] at H
           obtain rfl := Option.some.inj H
           go_wp2
           go_ret
           exact ⟨zq8, zq105⟩
          replace c25 := Bool.eq_false_iff.mpr c25
          subst c25
          rw [if_neg Bool.false_ne_true] at H
          replace H := ifI H
          rcases H with ⟨c26, H⟩ | ⟨c26, H⟩
          ·have c26b0 : decide (0 < x18_2) = true := decide_eq_true c26
           clear c26
           obtain ⟨ji27, hji27⟩ : ∃ j_ : Int, (wrap64 (x18_2 - 1)) = j_ := ⟨_, rfl⟩
           replace H : (if 0 ≤ (ji27) then (if (ji27) < (l0_2.length : Int) then (if ((rd_T53 l0_2 (ji27)).f0) ≥ ((rd_T53 l0_2 x18_2).f0) then (some false) else ((frac_Cmp.f kj12 ((rd_T53 l0_2 (ji27)).f1.f0) ((rd_T53 l0_2 (ji27)).f1.f1) ((rd_T53 l0_2 x18_2).f1.f0) ((rd_T53 l0_2 x18_2).f1.f1)).bind fun t121 => (if t121 ≤ 0 then (some false) else (terms_Right.l0 kj12 l0_2 (l0_2.length : Int) (wrap64 (x18_2 + 1)) a0_0 a0_1 l0_2)))) else (none)) else (none)) = some r := by first | (rw [hji27] at H; exact H) | (simp only [hji27] at H ⊢; exact H)
           have hji27w : (IntKind.i64.wrap (x18_2 - 1)) = ji27 := (i64_w _).trans hji27
           replace H := ifI H
           rcases H with ⟨c28, H⟩ | ⟨c28, H⟩
           ·have c28b0 : decide (0 ≤ (ji27)) = true := decide_eq_true c28
            clear c28
            replace H := ifI H
            rcases H with ⟨c29, H⟩ | ⟨c29, H⟩
            ·have c29b0 : decide ((ji27) < (l0_2.length : Int)) = true := decide_eq_true c29
             clear c29
             replace H := ifI H
             rcases H with ⟨c30, H⟩ | ⟨c30, H⟩
             ·have c30b0 : decide (((rd_T53 l0_2 x18_2).f0) ≤ ((rd_T53 l0_2 (ji27)).f0)) = true := decide_eq_true c30
              clear c30
              obtain rfl := Option.some.inj H
              try go_wp2
              replace BK113 := sd (blk_drew BK113.out)
              replace BK116 := sd (blk_drew BK116.out)
              replace HB := sd (below_drew1 HB.out)
              have p119 : 0 ≤ ((ji27) : Int) := od
              have q119 : (ji27) < (l0_2.length : Int) := od
              obtain ⟨ad119, e119, hx119_0, hx119_1, hx119_2⟩ := at_T53 HR0_2.out (ji27) p119 q119
              have hw119_2 := hx119_2
              have hw119_1 := hx119_1
              have hw119_0 := hx119_0
              obtain rfl : ad115 = ad119 := (by injection e119)
              replace hx119_0 := (HB.out.cell (World.block_lt_of_cell? w _ hx119_0)).trans hx119_0
              replace hx119_1 := (HB.out.cell (World.block_lt_of_cell? w _ hx119_1)).trans hx119_1
              replace hx119_2 := (HB.out.cell (World.block_lt_of_cell? w _ hx119_2)).trans hx119_2
              replace p119 := eq_true p119
              replace q119 := eq_true q119
              refine start_ (n := 27) (S := fun w' => w'.cell? ⟨gb113, 0, none⟩ = some (.int .i64 a0_0) ∧ w'.cell? ⟨gb113, 1, none⟩ = some (.bool a0_1) ∧ w'.cell? ⟨gb113, 2, none⟩ = some (.slice (some ad115) l0_2.length c0_2) ∧ w'.cell? ⟨gb116, 0, none⟩ = some (.int .i64 ((rd_T53 l0_2 x18_2).f0)) ∧ w'.cell? ⟨gb116, 1, none⟩ = some (.int .i64 ((rd_T53 l0_2 x18_2).f1.f0)) ∧ w'.cell? ⟨gb116, 2, none⟩ = some (.int .i64 ((rd_T53 l0_2 x18_2).f1.f1)) ∧ w'.cell? (ad115.add (((ji27)).toNat * 3)) = some (.int .i64 ((rd_T53 l0_2 (ji27)).f0)) ∧ w'.cell? ⟨(ad115.add (((ji27)).toNat * 3)).block, (ad115.add (((ji27)).toNat * 3)).off + 1, none⟩ = some (.int .i64 ((rd_T53 l0_2 (ji27)).f1.f0)) ∧ w'.cell? ⟨(ad115.add (((ji27)).toNat * 3)).block, (ad115.add (((ji27)).toNat * 3)).off + 2, none⟩ = some (.int .i64 ((rd_T53 l0_2 (ji27)).f1.f1))) (ds := []) #[false, false, false, false, false, false, false, false, false, false, false, false, false, false, false, false, false, false, false, false, false, false, false, false, false, false, false] (by kernel_rfl) rfl rfl ⟨(blk_cell BK113.out 0).trans rfl, (blk_cell BK113.out 1).trans rfl, (blk_cell BK113.out 2).trans rfl, (blk_cell BK116.out 0).trans rfl, (blk_cell BK116.out 1).trans rfl, (blk_cell BK116.out 2).trans rfl, ((HB.out.cell (World.block_lt_of_cell? w _ hw119_0)).trans hw119_0), ((HB.out.cell (World.block_lt_of_cell? w _ hw119_1)).trans hw119_1), ((HB.out.cell (World.block_lt_of_cell? w _ hw119_2)).trans hw119_2)⟩ (fun hHeld => ?_); refine with_tabW terms_Right.tab8 terms_Right.bits8 (fun HT_ HW_ => ?_)
              generalize wc.drew = w31 at BK113 BK116 HB hx119_0 hx119_1 hx119_2 hHeld ⊢
              refine pA 0 33 HT_.out ?_
              refine pA 1 34 HT_.out ?_
              refine pA 2 35 HT_.out ?_
              refine pA 3 36 HT_.out ?_
              refine pA 5 38 HT_.out ?_
              refine pA 6 39 HT_.out ?_
              refine pA 10 43 HT_.out ?_
              refine tA 4 37 HT_.out HW_.out hHeld ?_
              refine pA 7 40 HT_.out ?_
              refine pA 8 41 HT_.out ?_
              refine tA 9 42 HT_.out HW_.out hHeld ?_
              refine tA 11 44 HT_.out HW_.out hHeld ?_
              refine pA 12 45 HT_.out ?_
              refine pA 13 46 HT_.out ?_
              refine oA 14 47 HT_.out ?_
              refine oA 15 48 HT_.out ?_
              refine oA 16 49 HT_.out ?_
              refine oA 17 50 HT_.out ?_
              refine oA 18 51 HT_.out ?_
              refine oA 19 52 HT_.out ?_
              refine oA 20 53 HT_.out ?_
              refine oA 21 54 HT_.out ?_
              refine oA 22 55 HT_.out ?_
              refine oA 23 56 HT_.out ?_
              refine oA 24 57 HT_.out ?_
              refine pA 25 58 HT_.out ?_
              refine pA 26 59 HT_.out ?_
              refine done_ (done_of HT_.out (by kernel_rfl)) ?_
              try go_wp2
              go_ret
              exact ⟨by first | rfl | (simp [errW_none, errW_some] <;> rfl) | (simp only [← hji27]; first | rfl | (simp [errW_none, errW_some] <;> rfl)) | (simp [*, errW_none, errW_some] <;> rfl), zq105⟩
             have c30b0 : decide (((rd_T53 l0_2 x18_2).f0) ≤ ((rd_T53 l0_2 (ji27)).f0)) = false := decide_eq_false c30
             clear c30
             replace H := bdI H
             obtain ⟨t121, A32, H⟩ := H
             (try dsimp only at H)
             replace H := ifI H
             rcases H with ⟨c33, H⟩ | ⟨c33, H⟩
             ·have c33b0 : decide (t121 ≤ 0) = true := decide_eq_true c33
              clear c33
              obtain rfl := Option.some.inj H
              try go_wp2
              replace BK113 := sd (blk_drew BK113.out)
              replace BK116 := sd (blk_drew BK116.out)
              replace HB := sd (below_drew1 HB.out)
              have p119 : 0 ≤ ((ji27) : Int) := od
              have q119 : (ji27) < (l0_2.length : Int) := od
              obtain ⟨ad119, e119, hx119_0, hx119_1, hx119_2⟩ := at_T53 HR0_2.out (ji27) p119 q119
              have hw119_2 := hx119_2
              have hw119_1 := hx119_1
              have hw119_0 := hx119_0
              obtain rfl : ad115 = ad119 := (by injection e119)
              replace hx119_0 := (HB.out.cell (World.block_lt_of_cell? w _ hx119_0)).trans hx119_0
              replace hx119_1 := (HB.out.cell (World.block_lt_of_cell? w _ hx119_1)).trans hx119_1
              replace hx119_2 := (HB.out.cell (World.block_lt_of_cell? w _ hx119_2)).trans hx119_2
              replace p119 := eq_true p119
              replace q119 := eq_true q119
              have p120 : 0 ≤ ((ji27) : Int) := od
              have q120 : (ji27) < (l0_2.length : Int) := od
              obtain ⟨ad120, e120, hx120_0, hx120_1, hx120_2⟩ := at_T53 HR0_2.out (ji27) p120 q120
              have hw120_2 := hx120_2
              have hw120_1 := hx120_1
              have hw120_0 := hx120_0
              obtain rfl : ad115 = ad120 := (by injection e120)
              replace hx120_0 := (HB.out.cell (World.block_lt_of_cell? w _ hx120_0)).trans hx120_0
              replace hx120_1 := (HB.out.cell (World.block_lt_of_cell? w _ hx120_1)).trans hx120_1
              replace hx120_2 := (HB.out.cell (World.block_lt_of_cell? w _ hx120_2)).trans hx120_2
              replace p120 := eq_true p120
              replace q120 := eq_true q120
              refine start_ (n := 27) (S := fun w' => w'.cell? ⟨gb113, 0, none⟩ = some (.int .i64 a0_0) ∧ w'.cell? ⟨gb113, 1, none⟩ = some (.bool a0_1) ∧ w'.cell? ⟨gb113, 2, none⟩ = some (.slice (some ad115) l0_2.length c0_2) ∧ w'.cell? ⟨gb116, 0, none⟩ = some (.int .i64 ((rd_T53 l0_2 x18_2).f0)) ∧ w'.cell? ⟨gb116, 1, none⟩ = some (.int .i64 ((rd_T53 l0_2 x18_2).f1.f0)) ∧ w'.cell? ⟨gb116, 2, none⟩ = some (.int .i64 ((rd_T53 l0_2 x18_2).f1.f1)) ∧ w'.cell? (ad115.add (((ji27)).toNat * 3)) = some (.int .i64 ((rd_T53 l0_2 (ji27)).f0)) ∧ w'.cell? ⟨(ad115.add (((ji27)).toNat * 3)).block, (ad115.add (((ji27)).toNat * 3)).off + 1, none⟩ = some (.int .i64 ((rd_T53 l0_2 (ji27)).f1.f0)) ∧ w'.cell? ⟨(ad115.add (((ji27)).toNat * 3)).block, (ad115.add (((ji27)).toNat * 3)).off + 2, none⟩ = some (.int .i64 ((rd_T53 l0_2 (ji27)).f1.f1)) ∧ w'.cell? (ad115.add (((ji27)).toNat * 3)) = some (.int .i64 ((rd_T53 l0_2 (ji27)).f0)) ∧ w'.cell? ⟨(ad115.add (((ji27)).toNat * 3)).block, (ad115.add (((ji27)).toNat * 3)).off + 1, none⟩ = some (.int .i64 ((rd_T53 l0_2 (ji27)).f1.f0)) ∧ w'.cell? ⟨(ad115.add (((ji27)).toNat * 3)).block, (ad115.add (((ji27)).toNat * 3)).off + 2, none⟩ = some (.int .i64 ((rd_T53 l0_2 (ji27)).f1.f1))) (ds := []) #[false, false, false, false, false, false, false, false, false, false, false, false, false, false, false, false, false, false, false, false, false, false, false, false, false, false, false] (by kernel_rfl) rfl rfl ⟨(blk_cell BK113.out 0).trans rfl, (blk_cell BK113.out 1).trans rfl, (blk_cell BK113.out 2).trans rfl, (blk_cell BK116.out 0).trans rfl, (blk_cell BK116.out 1).trans rfl, (blk_cell BK116.out 2).trans rfl, ((HB.out.cell (World.block_lt_of_cell? w _ hw119_0)).trans hw119_0), ((HB.out.cell (World.block_lt_of_cell? w _ hw119_1)).trans hw119_1), ((HB.out.cell (World.block_lt_of_cell? w _ hw119_2)).trans hw119_2), ((HB.out.cell (World.block_lt_of_cell? w _ hw120_0)).trans hw120_0), ((HB.out.cell (World.block_lt_of_cell? w _ hw120_1)).trans hw120_1), ((HB.out.cell (World.block_lt_of_cell? w _ hw120_2)).trans hw120_2)⟩ (fun hHeld => ?_); refine with_tabW terms_Right.tab8 terms_Right.bits8 (fun HT_ HW_ => ?_)
              generalize wc.drew = w34 at BK113 BK116 HB hx119_0 hx119_1 hx119_2 hx120_0 hx120_1 hx120_2 hHeld ⊢
              refine pA 0 33 HT_.out ?_
              refine pA 1 34 HT_.out ?_
              refine pA 2 35 HT_.out ?_
              refine pA 3 36 HT_.out ?_
              refine pA 5 38 HT_.out ?_
              refine pA 6 39 HT_.out ?_
              refine pA 10 43 HT_.out ?_
              refine tA 4 37 HT_.out HW_.out hHeld ?_
              refine pA 7 40 HT_.out ?_
              refine pA 8 41 HT_.out ?_
              refine tA 9 42 HT_.out HW_.out hHeld ?_
              refine tA 11 44 HT_.out HW_.out hHeld ?_
              refine pA 12 45 HT_.out ?_
              refine pA 13 46 HT_.out ?_
              refine pA 14 47 HT_.out ?_
              refine pA 16 49 HT_.out ?_
              refine pA 17 50 HT_.out ?_
              refine pA 21 54 HT_.out ?_
              refine tA 15 48 HT_.out HW_.out hHeld ?_
              refine pA 18 51 HT_.out ?_
              refine pA 19 52 HT_.out ?_
              refine tA 20 53 HT_.out HW_.out hHeld ?_
              refine tA 22 55 HT_.out HW_.out hHeld ?_
              refine one_ (i := 23) (N := some 56) #[true, true, true, true, true, true, true, true, true, true, true, true, true, true, true, true, true, true, true, true, true, true, true, true, false, false, false] rfl rfl (one_of HT_.out (by kernel_rfl)) (by decide) (fun K hK => ?_)
              refine goes_ Tryd.func28 (by kernel_rfl) rfl #[.agg #[.int .i64 ((rd_T53 l0_2 (ji27)).f1.f0), .int .i64 ((rd_T53 l0_2 (ji27)).f1.f1)], .agg #[.int .i64 ((rd_T53 l0_2 x18_2).f1.f0), .int .i64 ((rd_T53 l0_2 x18_2).f1.f1)]] (by rfl) rfl rfl (by (try simp only [List.map_toArray, List.map_cons, List.map_nil]); first | done | (simp only [hji27]; rfl) | rfl | (simp only [List.length_drop, List.length_take]; rfl)) ?_
              with_reducible refine (frac_Cmp.calls kj12 ((rd_T53 l0_2 (ji27)).f1.f0) ((rd_T53 l0_2 (ji27)).f1.f1) ((rd_T53 l0_2 x18_2).f1.f0) ((rd_T53 l0_2 x18_2).f1.f1) t121 _ A32.out).mono ?_
              rintro e w35 ⟨rfl, hb⟩
              refine ⟨_, rfl, ?_⟩
              replace BK113 := bkm BK113 hb
              replace BK116 := bkm BK116 hb
              replace HB := hbm HB hb
              clear hb
              refine hK.out _ _ ⟨(blk_cell BK113.out 0).trans rfl, (blk_cell BK113.out 1).trans rfl, (blk_cell BK113.out 2).trans rfl, (blk_cell BK116.out 0).trans rfl, (blk_cell BK116.out 1).trans rfl, (blk_cell BK116.out 2).trans rfl, ((HB.out.cell (World.block_lt_of_cell? w _ hw119_0)).trans hw119_0), ((HB.out.cell (World.block_lt_of_cell? w _ hw119_1)).trans hw119_1), ((HB.out.cell (World.block_lt_of_cell? w _ hw119_2)).trans hw119_2), ((HB.out.cell (World.block_lt_of_cell? w _ hw120_0)).trans hw120_0), ((HB.out.cell (World.block_lt_of_cell? w _ hw120_1)).trans hw120_1), ((HB.out.cell (World.block_lt_of_cell? w _ hw120_2)).trans hw120_2)⟩ (fun hHeld => ?_)
              clear hK K
              refine nA 56 ?_
              refine pA 24 57 HT_.out ?_
              refine pA 25 58 HT_.out ?_
              refine pA 26 59 HT_.out ?_
              refine done_ (done_of HT_.out (by kernel_rfl)) ?_
              try go_wp2
              go_ret
              exact ⟨by first | rfl | (simp [errW_none, errW_some] <;> rfl) | (simp only [← hji27]; first | rfl | (simp [errW_none, errW_some] <;> rfl)) | (simp [*, errW_none, errW_some] <;> rfl), zq105⟩
             have c33b0 : decide (t121 ≤ 0) = false := decide_eq_false c33
             clear c33
             have H' := sd H
             clear H
             try go_wp2
             replace BK113 := sd (blk_drew BK113.out)
             replace BK116 := sd (blk_drew BK116.out)
             replace HB := sd (below_drew1 HB.out)
             have p119 : 0 ≤ ((ji27) : Int) := od
             have q119 : (ji27) < (l0_2.length : Int) := od
             obtain ⟨ad119, e119, hx119_0, hx119_1, hx119_2⟩ := at_T53 HR0_2.out (ji27) p119 q119
             have hw119_2 := hx119_2
             have hw119_1 := hx119_1
             have hw119_0 := hx119_0
             obtain rfl : ad115 = ad119 := (by injection e119)
             replace hx119_0 := (HB.out.cell (World.block_lt_of_cell? w _ hx119_0)).trans hx119_0
             replace hx119_1 := (HB.out.cell (World.block_lt_of_cell? w _ hx119_1)).trans hx119_1
             replace hx119_2 := (HB.out.cell (World.block_lt_of_cell? w _ hx119_2)).trans hx119_2
             replace p119 := eq_true p119
             replace q119 := eq_true q119
             have p120 : 0 ≤ ((ji27) : Int) := od
             have q120 : (ji27) < (l0_2.length : Int) := od
             obtain ⟨ad120, e120, hx120_0, hx120_1, hx120_2⟩ := at_T53 HR0_2.out (ji27) p120 q120
             have hw120_2 := hx120_2
             have hw120_1 := hx120_1
             have hw120_0 := hx120_0
             obtain rfl : ad115 = ad120 := (by injection e120)
             replace hx120_0 := (HB.out.cell (World.block_lt_of_cell? w _ hx120_0)).trans hx120_0
             replace hx120_1 := (HB.out.cell (World.block_lt_of_cell? w _ hx120_1)).trans hx120_1
             replace hx120_2 := (HB.out.cell (World.block_lt_of_cell? w _ hx120_2)).trans hx120_2
             replace p120 := eq_true p120
             replace q120 := eq_true q120
             refine start_ (n := 27) (S := fun w' => w'.cell? ⟨gb113, 0, none⟩ = some (.int .i64 a0_0) ∧ w'.cell? ⟨gb113, 1, none⟩ = some (.bool a0_1) ∧ w'.cell? ⟨gb113, 2, none⟩ = some (.slice (some ad115) l0_2.length c0_2) ∧ w'.cell? ⟨gb116, 0, none⟩ = some (.int .i64 ((rd_T53 l0_2 x18_2).f0)) ∧ w'.cell? ⟨gb116, 1, none⟩ = some (.int .i64 ((rd_T53 l0_2 x18_2).f1.f0)) ∧ w'.cell? ⟨gb116, 2, none⟩ = some (.int .i64 ((rd_T53 l0_2 x18_2).f1.f1)) ∧ w'.cell? (ad115.add (((ji27)).toNat * 3)) = some (.int .i64 ((rd_T53 l0_2 (ji27)).f0)) ∧ w'.cell? ⟨(ad115.add (((ji27)).toNat * 3)).block, (ad115.add (((ji27)).toNat * 3)).off + 1, none⟩ = some (.int .i64 ((rd_T53 l0_2 (ji27)).f1.f0)) ∧ w'.cell? ⟨(ad115.add (((ji27)).toNat * 3)).block, (ad115.add (((ji27)).toNat * 3)).off + 2, none⟩ = some (.int .i64 ((rd_T53 l0_2 (ji27)).f1.f1)) ∧ w'.cell? (ad115.add (((ji27)).toNat * 3)) = some (.int .i64 ((rd_T53 l0_2 (ji27)).f0)) ∧ w'.cell? ⟨(ad115.add (((ji27)).toNat * 3)).block, (ad115.add (((ji27)).toNat * 3)).off + 1, none⟩ = some (.int .i64 ((rd_T53 l0_2 (ji27)).f1.f0)) ∧ w'.cell? ⟨(ad115.add (((ji27)).toNat * 3)).block, (ad115.add (((ji27)).toNat * 3)).off + 2, none⟩ = some (.int .i64 ((rd_T53 l0_2 (ji27)).f1.f1))) (ds := []) #[false, false, false, false, false, false, false, false, false, false, false, false, false, false, false, false, false, false, false, false, false, false, false, false, false, false, false] (by kernel_rfl) rfl rfl ⟨(blk_cell BK113.out 0).trans rfl, (blk_cell BK113.out 1).trans rfl, (blk_cell BK113.out 2).trans rfl, (blk_cell BK116.out 0).trans rfl, (blk_cell BK116.out 1).trans rfl, (blk_cell BK116.out 2).trans rfl, ((HB.out.cell (World.block_lt_of_cell? w _ hw119_0)).trans hw119_0), ((HB.out.cell (World.block_lt_of_cell? w _ hw119_1)).trans hw119_1), ((HB.out.cell (World.block_lt_of_cell? w _ hw119_2)).trans hw119_2), ((HB.out.cell (World.block_lt_of_cell? w _ hw120_0)).trans hw120_0), ((HB.out.cell (World.block_lt_of_cell? w _ hw120_1)).trans hw120_1), ((HB.out.cell (World.block_lt_of_cell? w _ hw120_2)).trans hw120_2)⟩ (fun hHeld => ?_); refine with_tabW terms_Right.tab8 terms_Right.bits8 (fun HT_ HW_ => ?_)
             generalize wc.drew = w36 at BK113 BK116 HB hx119_0 hx119_1 hx119_2 hx120_0 hx120_1 hx120_2 hHeld ⊢
             refine pA 0 33 HT_.out ?_
             refine pA 1 34 HT_.out ?_
             refine pA 2 35 HT_.out ?_
             refine pA 3 36 HT_.out ?_
             refine pA 5 38 HT_.out ?_
             refine pA 6 39 HT_.out ?_
             refine pA 10 43 HT_.out ?_
             refine tA 4 37 HT_.out HW_.out hHeld ?_
             refine pA 7 40 HT_.out ?_
             refine pA 8 41 HT_.out ?_
             refine tA 9 42 HT_.out HW_.out hHeld ?_
             refine tA 11 44 HT_.out HW_.out hHeld ?_
             refine pA 12 45 HT_.out ?_
             refine pA 13 46 HT_.out ?_
             refine pA 14 47 HT_.out ?_
             refine pA 16 49 HT_.out ?_
             refine pA 17 50 HT_.out ?_
             refine pA 21 54 HT_.out ?_
             refine tA 15 48 HT_.out HW_.out hHeld ?_
             refine pA 18 51 HT_.out ?_
             refine pA 19 52 HT_.out ?_
             refine tA 20 53 HT_.out HW_.out hHeld ?_
             refine tA 22 55 HT_.out HW_.out hHeld ?_
             refine one_ (i := 23) (N := some 56) #[true, true, true, true, true, true, true, true, true, true, true, true, true, true, true, true, true, true, true, true, true, true, true, true, false, false, false] rfl rfl (one_of HT_.out (by kernel_rfl)) (by decide) (fun K hK => ?_)
             refine goes_ Tryd.func28 (by kernel_rfl) rfl #[.agg #[.int .i64 ((rd_T53 l0_2 (ji27)).f1.f0), .int .i64 ((rd_T53 l0_2 (ji27)).f1.f1)], .agg #[.int .i64 ((rd_T53 l0_2 x18_2).f1.f0), .int .i64 ((rd_T53 l0_2 x18_2).f1.f1)]] (by rfl) rfl rfl (by (try simp only [List.map_toArray, List.map_cons, List.map_nil]); first | done | (simp only [hji27]; rfl) | rfl | (simp only [List.length_drop, List.length_take]; rfl)) ?_
             with_reducible refine (frac_Cmp.calls kj12 ((rd_T53 l0_2 (ji27)).f1.f0) ((rd_T53 l0_2 (ji27)).f1.f1) ((rd_T53 l0_2 x18_2).f1.f0) ((rd_T53 l0_2 x18_2).f1.f1) t121 _ A32.out).mono ?_
             rintro e w37 ⟨rfl, hb⟩
             refine ⟨_, rfl, ?_⟩
             replace BK113 := bkm BK113 hb
             replace BK116 := bkm BK116 hb
             replace HB := hbm HB hb
             clear hb
             refine hK.out _ _ ⟨(blk_cell BK113.out 0).trans rfl, (blk_cell BK113.out 1).trans rfl, (blk_cell BK113.out 2).trans rfl, (blk_cell BK116.out 0).trans rfl, (blk_cell BK116.out 1).trans rfl, (blk_cell BK116.out 2).trans rfl, ((HB.out.cell (World.block_lt_of_cell? w _ hw119_0)).trans hw119_0), ((HB.out.cell (World.block_lt_of_cell? w _ hw119_1)).trans hw119_1), ((HB.out.cell (World.block_lt_of_cell? w _ hw119_2)).trans hw119_2), ((HB.out.cell (World.block_lt_of_cell? w _ hw120_0)).trans hw120_0), ((HB.out.cell (World.block_lt_of_cell? w _ hw120_1)).trans hw120_1), ((HB.out.cell (World.block_lt_of_cell? w _ hw120_2)).trans hw120_2)⟩ (fun hHeld => ?_)
             clear hK K
             refine nA 56 ?_
             refine pA 24 57 HT_.out ?_
             refine pA 25 58 HT_.out ?_
             refine pA 26 59 HT_.out ?_
             refine done_ (done_of HT_.out (by kernel_rfl)) ?_
             try go_wp2
             go_roundg kj12
             case measure => have := HJ1.out; have := HK2.out; have := HJ12.out; omega
             case rel => exact ⟨(wrap64 (x18_2 + 1)), zq1, H', ⟨by have := HJ1.out; have := HK2.out; have := HJ12.out; omega⟩, ⟨zq103⟩, ⟨zq105⟩⟩
            exact absurd H (by simp)
           exact absurd H (by simp)
          have c26b0 : decide (0 < x18_2) = false := decide_eq_false c26
          clear c26
          have H' := sd H
          clear H
          try go_wp2
          replace BK113 := sd (blk_drew BK113.out)
          replace BK116 := sd (blk_drew BK116.out)
          replace HB := sd (below_drew1 HB.out)
          refine start_ (n := 27) (S := fun w' => True) (ds := []) #[false, false, false, false, false, false, false, false, false, false, false, false, false, false, false, false, false, false, false, false, false, false, false, false, false, false, false] (by kernel_rfl) rfl rfl trivial (fun hHeld => ?_); refine with_tabW terms_Right.tab8 terms_Right.bits8 (fun HT_ HW_ => ?_)
          generalize wc.drew = w38 at BK113 BK116 HB hHeld ⊢
          refine pA 0 33 HT_.out ?_
          refine pA 1 34 HT_.out ?_
          refine pA 2 35 HT_.out ?_
          refine oA 3 36 HT_.out ?_
          refine oA 4 37 HT_.out ?_
          refine oA 5 38 HT_.out ?_
          refine oA 6 39 HT_.out ?_
          refine oA 7 40 HT_.out ?_
          refine oA 8 41 HT_.out ?_
          refine oA 9 42 HT_.out ?_
          refine oA 10 43 HT_.out ?_
          refine oA 11 44 HT_.out ?_
          refine oA 12 45 HT_.out ?_
          refine oA 13 46 HT_.out ?_
          refine oA 14 47 HT_.out ?_
          refine oA 15 48 HT_.out ?_
          refine oA 16 49 HT_.out ?_
          refine oA 17 50 HT_.out ?_
          refine oA 18 51 HT_.out ?_
          refine oA 19 52 HT_.out ?_
          refine oA 20 53 HT_.out ?_
          refine oA 21 54 HT_.out ?_
          refine oA 22 55 HT_.out ?_
          refine oA 23 56 HT_.out ?_
          refine oA 24 57 HT_.out ?_
          refine oA 25 58 HT_.out ?_
          refine pA 26 59 HT_.out ?_
          refine done_ (done_of HT_.out (by kernel_rfl)) ?_
          try go_wp2
          go_roundg kj12
          case measure => have := HJ1.out; have := HK2.out; have := HJ12.out; omega
          case rel => exact ⟨(wrap64 (x18_2 + 1)), zq1, H', ⟨by have := HJ1.out; have := HK2.out; have := HJ12.out; omega⟩, ⟨zq103⟩, ⟨zq105⟩⟩
       exact absurd H (by simp)
      exact absurd H (by simp)
     have c10b0 : decide (x18_2 < (l0_2.length : Int)) = false := decide_eq_false c10
     clear c10
     obtain rfl := Option.some.inj H
     go_wp2
     go_ret
     exact ⟨zq8, zq104⟩
def num_size.f (a0 : Int) : Option (Int) := if I64 a0 then some (a0.natAbs : Int) else none
theorem num_size.same (a0 : Int) (hb : I64 a0) (w : World) :
  Calls Tryd.prog 42 #[.int .i64 a0] w fun e w' => e = .returned (.int .u64 (a0.natAbs : Int)) ∧ w = w' := by
 obtain ⟨h0, h1⟩ := hb
 by_cases h : a0 < 0
 ·go_enter Tryd.func42, Tryd.ntmps42
  go_wp2
  go_ret
  exact ⟨ret_int (by rw [wu64, wu64]; omega), rfl⟩
 go_enter Tryd.func42, Tryd.ntmps42
 go_wp2
 go_ret
 exact ⟨ret_int (by omega), rfl⟩
theorem num_size.calls (a0 r : Int) (w : World) (h : num_size.f a0 = some r) :
  Calls Tryd.prog 42 #[.int .i64 a0] w fun e w' => e = .returned (.int .u64 r) ∧ Drawn0 w w' := by
 unfold num_size.f at h
 split at h <;> simp only [Option.some.injEq, reduceCtorEq] at h
 rename_i hb
 subst h
 refine (num_size.same a0 hb w).mono ?_
 rintro e w' ⟨rfl, rfl⟩
 exact ⟨rfl, Drawn0.refl _⟩
theorem sl20 (W : World) (b m : Nat) (z : Int) (hz : z = (m : Int)) (h : m < 20) :
  (Instr.sliceAt 75 (.pointer (some ⟨b, 0, none⟩)) (some (.int .i64 z)) none none).run Tryd.prog W = .ok (.slice (some ⟨b, m, none⟩) (20 - m) (20 - m)) W := by
 subst hz
 have e1 : Tryd.prog.arrayLen 75 = 20 := by kernel_rfl
 have e2 : Tryd.prog.elem 75 = 5 := by kernel_rfl
 rw [run_sliceAt_array_l W 75 ⟨b, 0, none⟩ (by rw [e1, e2]; exact Tryd.underlying75) .i64 (m : Int) (by omega) (by rw [e1]; omega), e1, e2]
 have e3 : (Go.sizeOf 5).run Tryd.prog W = .ok 1 W := by kernel_rfl
 rw [e3]
 simp only [Result.andThen, slicedAt, Int.toNat_natCast, if_neg (show ¬ 20 = m by omega), Nat.mul_one, add_plain']
end Go.Proofs.YtelfiofnhchmbaaDoor.A
