-- By gen.py, a program of this session's, over the print's forms: not the print's own text.
import Derived.Test.YtoenhagbgfkihaaB1
import Derived.Test.YtoenhagbgfkihaaB9
import Derived.LoopN
import Derived.BigQuiet
import Derived.Deep.QuietTactic
import Derived.Deep.RegionWith
import Derived.Laws.IdiomStrings
namespace Go.Proofs.Ytoenhagbgfkihaa.B
open Go.Lib Go.RowKit Go.Proofs.YtoenhagbgfkihaaW.PrintWords Go.Proofs.YtoenhagbgfkihaaW.PrintLast Go.Proofs.YtoenhagbgfkihaaW.PrintMore
def rightS (n d : Int) : Bool := decide (1 ≤ d) && decide (d ≤ 1000000) && decide (n.natAbs ≤ 1000000) && decide (Nat.gcd n.natAbs d.natAbs = 1)
def makeS (n d : Int) : Int × Int × Int := if d = 0 then (0, 0, 2) else
  if 1000000 < n.natAbs / Nat.gcd n.natAbs d.natAbs ∨ 1000000 < d.natAbs / Nat.gcd n.natAbs d.natAbs then (0, 0, 4) else
  (if (decide (n < 0) != decide (d < 0)) = true then -((n.natAbs / Nat.gcd n.natAbs d.natAbs : Nat) : Int) else ((n.natAbs / Nat.gcd n.natAbs d.natAbs : Nat) : Int), ((d.natAbs / Nat.gcd n.natAbs d.natAbs : Nat) : Int), 0)
theorem tmod_nat (x y : Nat) : Int.tmod (x : Int) (y : Int) = ((x % y : Nat) : Int) := by
  rw [Int.tmod_eq_emod_of_nonneg (by omega), Int.natCast_emod]
theorem tdiv_nat (x y : Nat) : Int.tdiv (x : Int) (y : Int) = ((x / y : Nat) : Int) := by
  rw [Int.tdiv_eq_ediv_of_nonneg (by omega), Int.natCast_ediv]
theorem size_wrap (a : Int) (ha : I64 a) : (if a < 0 then some (IntKind.u64.wrap (-(IntKind.u64.wrap a))) else some (IntKind.u64.wrap a)) = some (a.natAbs : Int) := by
  unfold I64 at ha
  simp only [wu64]
  by_cases h : a < 0
  · rw [if_pos h]; congr 1; omega
  · rw [if_neg h]; congr 1; omega
theorem gcd_of (l0 : Nat → Int → Int → Option Int) (hl : ∀ k x y, l0 (k + 1) x y = if y = 0 then some x else l0 k y (Int.tmod x y)) : ∀ n x y : Nat, y ≤ n → Ev (fun k => l0 k (x : Int) (y : Int)) ((Nat.gcd x y : Nat) : Int)
  | 0, x, y, h => by
    obtain rfl : y = 0 := by omega
    refine Ev.step (fun k => hl k _ _) (Ev.yes (by omega) (Ev.is (by rw [Nat.gcd_zero_right])))
  | n + 1, x, y, h => by
    refine Ev.step (fun k => hl k _ _) ?_
    by_cases h0 : y = 0
    · subst h0; exact Ev.yes (by omega) (Ev.is (by rw [Nat.gcd_zero_right]))
    · refine Ev.no (by omega) ?_
      rw [tmod_nat]
      have hlt : x % y < y := Nat.mod_lt _ (by omega)
      have := gcd_of l0 hl n y (x % y) (by omega)
      rwa [show Nat.gcd y (x % y) = Nat.gcd x y by rw [Nat.gcd_comm x y, Nat.gcd_rec y x, Nat.gcd_comm]] at this
theorem gcd_pos_of {n d : Nat} (h : d ≠ 0) : 0 < Nat.gcd n d := Nat.gcd_pos_of_pos_right _ (by omega)
theorem div_u64 (a b : Nat) (h : a ≤ 9223372036854775808) : IntKind.u64.wrap (Int.tdiv (a : Int) (b : Int)) = ((a / b : Nat) : Int) := by
  rw [tdiv_nat, wu64]
  have := Nat.div_le_self a b
  generalize a / b = q at *
  omega
theorem i64_wrap (x : Int) : I64 (wrap64 x) := by unfold I64 wrap64; omega
def joinS (a b c d p q : Int) : Int × Int × Int := if rightS a b = true then (if rightS c d = true then makeS p q else (0, 0, 2)) else (0, 0, 2)
/-- The order of two numbers of two words. -/
def cmp2 (a b c d : Int) : Int := if a = c then (if b = d then 0 else if b < d then -1 else 1) else if a < c then -1 else 1
def cmpS (a b c d : Int) : Int := if a * b < c * d then -1 else if c * d < a * b then 1 else 0
def dirS (a b : Int) : Int := if a = 0 ∨ b = 0 then 0 else if (decide (a < 0) != decide (b < 0)) = true then -1 else 1
theorem dirS_mul (a b : Int) : (dirS a b = 0 ∧ a * b = 0) ∨ (dirS a b = 1 ∧ 0 < a * b) ∨ (dirS a b = -1 ∧ a * b < 0) := by
  unfold dirS
  by_cases h0 : a = 0 ∨ b = 0
  · rw [if_pos h0]; exact .inl ⟨rfl, Int.mul_eq_zero.mpr h0⟩
  · rw [if_neg h0]
    have hne : a * b ≠ 0 := fun h => h0 (Int.mul_eq_zero.mp h)
    cases hs : (decide (a < 0) != decide (b < 0))
    · have := mul_sign' a b hs
      rw [if_neg (by decide)]; exact .inr (.inl ⟨rfl, by omega⟩)
    · have := mul_sign a b hs
      rw [if_pos rfl]; exact .inr (.inr ⟨rfl, by omega⟩)
theorem cmp2_eq (p q ph pl qh ql : Nat) (h1 : p / 18446744073709551616 = ph) (h2 : p % 18446744073709551616 = pl) (h3 : q / 18446744073709551616 = qh) (h4 : q % 18446744073709551616 = ql) :
    cmp2 (ph : Int) (pl : Int) (qh : Int) (ql : Int) = if p = q then 0 else if p < q then -1 else 1 := by
  unfold cmp2
  (repeat' split) <;> omega
theorem cmp_fin (a b c d : Int) (ph pl qh ql : Nat) (h1 : a.natAbs * b.natAbs / 18446744073709551616 = ph) (h2 : a.natAbs * b.natAbs % 18446744073709551616 = pl) (h3 : c.natAbs * d.natAbs / 18446744073709551616 = qh) (h4 : c.natAbs * d.natAbs % 18446744073709551616 = ql) :
    cmpS a b c d = if dirS a b < dirS c d then -1 else if dirS c d < dirS a b then 1 else if dirS a b < 0 then cmp2 (qh : Int) (ql : Int) (ph : Int) (pl : Int) else cmp2 (ph : Int) (pl : Int) (qh : Int) (ql : Int) := by
  rw [cmp2_eq _ _ ph pl qh ql h1 h2 h3 h4, cmp2_eq _ _ qh ql ph pl h3 h4 h1 h2, ← natAbs_mul', ← natAbs_mul']
  unfold cmpS
  have e1 := dirS_mul a b
  have e2 := dirS_mul c d
  generalize a * b = m at *
  generalize c * d = n at *
  generalize dirS a b = l at *
  generalize dirS c d = r at *
  clear h1 h2 h3 h4
  rcases e1 with ⟨rfl, e1⟩ | ⟨rfl, e1⟩ | ⟨rfl, e1⟩ <;> rcases e2 with ⟨rfl, e2⟩ | ⟨rfl, e2⟩ | ⟨rfl, e2⟩ <;> simp <;> (repeat' split) <;> omega
theorem far2 {k g p : Nat} (h : k ≠ g ∧ k ≠ g + 1) (hp : p = g ∨ p = g + 1) : k ≠ p := by omega
theorem cell_drew' (W : World) (a : Addr) : W.drew.cell? a = W.cell? a := rfl
theorem frozen_drew' (W : World) (a : Addr) : W.drew.frozen? a = W.frozen? a := rfl
theorem four_cells (W : World) (g : Nat) (a b c d a' b' c' d' : Value) (k0 : W.cell? ⟨g, 0, none⟩ = some a) (k1 : W.cell? ⟨g, 1, none⟩ = some b) (k2 : W.cell? ⟨g + 1, 0, none⟩ = some c) (k3 : W.cell? ⟨g + 1, 1, none⟩ = some d) :
    ((((W.setCell ⟨g, 0, none⟩ a').setCell ⟨g, 1, none⟩ b').setCell ⟨g + 1, 0, none⟩ c').setCell ⟨g + 1, 1, none⟩ d').drew.cell? ⟨g, 0, none⟩ = some a' ∧
    ((((W.setCell ⟨g, 0, none⟩ a').setCell ⟨g, 1, none⟩ b').setCell ⟨g + 1, 0, none⟩ c').setCell ⟨g + 1, 1, none⟩ d').drew.cell? ⟨g, 1, none⟩ = some b' ∧
    ((((W.setCell ⟨g, 0, none⟩ a').setCell ⟨g, 1, none⟩ b').setCell ⟨g + 1, 0, none⟩ c').setCell ⟨g + 1, 1, none⟩ d').drew.cell? ⟨g + 1, 0, none⟩ = some c' ∧
    ((((W.setCell ⟨g, 0, none⟩ a').setCell ⟨g, 1, none⟩ b').setCell ⟨g + 1, 0, none⟩ c').setCell ⟨g + 1, 1, none⟩ d').drew.cell? ⟨g + 1, 1, none⟩ = some d' := by
  have n1 : (⟨g, 1, none⟩ : Addr) ≠ ⟨g, 0, none⟩ := by simp
  have n2 : (⟨g + 1, 0, none⟩ : Addr) ≠ ⟨g, 0, none⟩ := by simp
  have n3 : (⟨g + 1, 0, none⟩ : Addr) ≠ ⟨g, 1, none⟩ := by simp
  have n4 : (⟨g + 1, 1, none⟩ : Addr) ≠ ⟨g, 0, none⟩ := by simp
  have n5 : (⟨g + 1, 1, none⟩ : Addr) ≠ ⟨g, 1, none⟩ := by simp
  have n6 : (⟨g + 1, 1, none⟩ : Addr) ≠ ⟨g + 1, 0, none⟩ := by simp
  have s1 : (W.setCell ⟨g, 0, none⟩ a').cell? ⟨g, 1, none⟩ = some b := by rw [World.cell?_setCell_other (h := n1.symm)]; exact k1
  have s2 : ((W.setCell ⟨g, 0, none⟩ a').setCell ⟨g, 1, none⟩ b').cell? ⟨g + 1, 0, none⟩ = some c := by rw [World.cell?_setCell_other (h := n3.symm), World.cell?_setCell_other (h := n2.symm)]; exact k2
  have s3 : (((W.setCell ⟨g, 0, none⟩ a').setCell ⟨g, 1, none⟩ b').setCell ⟨g + 1, 0, none⟩ c').cell? ⟨g + 1, 1, none⟩ = some d := by rw [World.cell?_setCell_other (h := n6.symm), World.cell?_setCell_other (h := n5.symm), World.cell?_setCell_other (h := n4.symm)]; exact k3
  refine ⟨(cell_drew' _ _).trans ?_, (cell_drew' _ _).trans ?_, (cell_drew' _ _).trans ?_, (cell_drew' _ _).trans ?_⟩
  · rw [World.cell?_setCell_other (h := n4), World.cell?_setCell_other (h := n2), World.cell?_setCell_other (h := n1)]; exact World.cell?_setCell_same _ _ _ k0
  · rw [World.cell?_setCell_other (h := n5), World.cell?_setCell_other (h := n3)]; exact World.cell?_setCell_same _ _ _ s1
  · rw [World.cell?_setCell_other (h := n6)]; exact World.cell?_setCell_same _ _ _ s2
  · exact World.cell?_setCell_same _ _ _ s3
theorem four_marks (W : World) (g : Nat) (a' b' c' d' : Value) (k0 : W.frozen? ⟨g, 0, none⟩ = false) (k1 : W.frozen? ⟨g, 1, none⟩ = false) (k2 : W.frozen? ⟨g + 1, 0, none⟩ = false) (k3 : W.frozen? ⟨g + 1, 1, none⟩ = false) :
    ((((W.setCell ⟨g, 0, none⟩ a').setCell ⟨g, 1, none⟩ b').setCell ⟨g + 1, 0, none⟩ c').setCell ⟨g + 1, 1, none⟩ d').drew.frozen? ⟨g, 0, none⟩ = false ∧
    ((((W.setCell ⟨g, 0, none⟩ a').setCell ⟨g, 1, none⟩ b').setCell ⟨g + 1, 0, none⟩ c').setCell ⟨g + 1, 1, none⟩ d').drew.frozen? ⟨g, 1, none⟩ = false ∧
    ((((W.setCell ⟨g, 0, none⟩ a').setCell ⟨g, 1, none⟩ b').setCell ⟨g + 1, 0, none⟩ c').setCell ⟨g + 1, 1, none⟩ d').drew.frozen? ⟨g + 1, 0, none⟩ = false ∧
    ((((W.setCell ⟨g, 0, none⟩ a').setCell ⟨g, 1, none⟩ b').setCell ⟨g + 1, 0, none⟩ c').setCell ⟨g + 1, 1, none⟩ d').drew.frozen? ⟨g + 1, 1, none⟩ = false := by
  refine ⟨(frozen_drew' _ _).trans ?_, (frozen_drew' _ _).trans ?_, (frozen_drew' _ _).trans ?_, (frozen_drew' _ _).trans ?_⟩ <;> simp only [World.frozen?_setCell]
  · exact k0
  · exact k1
  · exact k2
  · exact k3
/-- A round of the subtraction: the digit, before it is set into its range. -/
def mnDigit (a b : ByteArray) (br i : Int) : Int := bt a ((a.size : Int) - i) - 48 - br - (if i ≤ (b.size : Int) then bt b ((b.size : Int) - i) - 48 else 0)
def MinR (W : World) (g : Nat) (o : List Int) : Prop := ∀ j (h : j < o.length), W.cell? ⟨g, j, none⟩ = some (.int .u8 o[j]) ∧ W.frozen? ⟨g, j, none⟩ = false
theorem MinR.set {W : World} {g : Nat} {o : List Int} (h : MinR W g o) (j : Nat) (hj : j < o.length) (v : Int) : MinR (W.setCell ⟨g, j, none⟩ (.int .u8 v)) g (o.set j v) := by
  intro i hi
  rw [List.length_set] at hi
  rw [World.frozen?_setCell, List.getElem_set]
  refine ⟨?_, (h i hi).2⟩
  by_cases e : j = i
  · subst e
    rw [if_pos rfl]
    exact World.cell?_setCell_same _ _ _ (h j hj).1
  · rw [if_neg e, World.cell?_setCell_other (h := by rw [Ne, Addr.mk.injEq]; exact fun h => e h.2.1)]
    exact (h i hi).1
theorem MinR.C {W : World} {g : Nat} {o : List Int} (h : MinR W g o) (hl : o.length ≤ 9223372036854775807) : Kd.C (Kd.int .u8) W (some ⟨g, 0, none⟩) o.length o := by
  refine ⟨rfl, hl, fun h0 => ⟨⟨g, 0, none⟩, rfl, fun j p hj => ?_⟩⟩
  obtain ⟨hj1, rfl⟩ := List.getElem?_eq_some_iff.1 hj
  refine ⟨[.int .u8 o[j]], rfl, rfl, fun i u hi => ?_⟩
  cases i with
  | zero =>
    simp only [List.getElem?_cons_zero, Option.some.injEq] at hi
    subst hi
    rw [add_plain', show j * (Kd.int .u8).sz + 0 = j from by show j * 1 + 0 = j; omega]
    exact (h j hj1).1
  | succ i => simp at hi
theorem bytesRow_le (s : ByteArray) (cap : Nat) : s.size ≤ (bytesRow s cap).size := by
  unfold bytesRow
  rw [Array.size_append, Array.size_map]
  exact Nat.le_add_right _ _
theorem MinR.start (e5 : TypeId) (w : World) (s : ByteArray) (cap m : Nat) (hm : s.size ≤ m) : MinR ((w.alloc (.cells (bytesRow s cap) e5 (m, m + 1))).drew) w.heap.size (bytesOf s) := by
  intro j hj
  rw [bytesOf_length] at hj
  have h1 : ((w.alloc (.cells (bytesRow s cap) e5 (m, m + 1))).drew).cell? ⟨w.heap.size, j, none⟩ = (bytesRow s cap)[j]? := World.cell?_alloc_mark w _ _ _ j
  have h2 : ((w.alloc (.cells (bytesRow s cap) e5 (m, m + 1))).drew).frozen? ⟨w.heap.size, j, none⟩ = (decide (m ≤ j) && decide (j < m + 1)) := World.frozen?_alloc_mark w _ _ _ _ j
  rw [h1, h2, bytesRow_at s cap j hj, decide_eq_false (by omega)]
  exact ⟨by simp [bytesOf], rfl⟩
end Go.Proofs.Ytoenhagbgfkihaa.B
