-- By gen.py, a program of this session's, over the print's forms: not the print's own text.
import Derived.Lib.ItoaNum
import Derived.Lib.Mul64
import Derived.Laws.BytesArg
import Derived.WalkKit
import Derived.Lib.IndexBytes
import Derived.Test.YthmpapnhomngnaaDoorWWords
import Derived.Laws.Externs
import Derived.Lib.Hide
import Derived.Lib.Walk
namespace Go.Proofs.YthmpapnhomngnaaDoor.B
open Go.Lib Go.RowKit Go.Proofs.YthmpapnhomngnaaDoorW.PrintWords

/-- An integer that fits in 64 bits. -/
def I64 (n : Int) : Prop := -9223372036854775808 ≤ n ∧ n ≤ 9223372036854775807
instance (n : Int) : Decidable (I64 n) := by unfold I64; infer_instance
/-- What the checked operations return. -/
def fit (n : Int) : Int × Bool := if I64 n then (n, true) else (0, false)
theorem fit_yes {n : Int} (h : I64 n) : fit n = (n, true) := if_pos h
theorem fit_no {n : Int} (h : ¬ I64 n) : fit n = (0, false) := if_neg h

theorem wu64 (x : Int) : IntKind.u64.wrap x = x % 18446744073709551616 := by simp [IntKind.wrap, IntKind.signed, IntKind.bits]
theorem wi64 (x : Int) : IntKind.i64.wrap x = if x % 18446744073709551616 ≥ 9223372036854775808 then x % 18446744073709551616 - 18446744073709551616 else x % 18446744073709551616 := by
  simp [IntKind.wrap, IntKind.signed, IntKind.bits]
theorem ret_int {k : IntKind} {a b : Int} (h : a = b) : Ending.returned (.int k a) = .returned (.int k b) := by rw [h]

/-- The row of num.Text: from place a on the digits of u, ahead of it zeros. -/
def trow (u a : Nat) : Array Value := Array.ofFn (n := 20) fun t => if a ≤ t.val then .int .u8 ((48 + u / 10 ^ (19 - t.val) % 10 : Nat) : Int) else .int .u8 0
theorem trow_size (u a : Nat) : (trow u a).size = 20 := by simp [trow]
theorem trow_at (u a i : Nat) (h : i < 20) : (trow u a)[i]? = some (.int .u8 (if a ≤ i then ((48 + u / 10 ^ (19 - i) % 10 : Nat) : Int) else 0)) := by
  simp only [trow, Array.getElem?_ofFn, h, dif_pos]
  split <;> rfl
theorem trow_start (u : Nat) : trow u 20 = Array.replicate 20 (.int .u8 0) := by
  apply Array.ext_getElem?
  intro i
  by_cases h : i < 20
  · rw [trow_at u 20 i h, if_neg (by omega), Array.getElem?_replicate, if_pos h]
  · rw [Array.getElem?_eq_none (by simp [trow_size]; omega), Array.getElem?_eq_none (by simp; omega)]
theorem trow_set (u a k : Nat) (v : Int) (h : a + k = 19) (hv : v = ((48 + u / 10 ^ k % 10 : Nat) : Int)) : (trow u (a + 1)).setIfInBounds a (.int .u8 v) = trow u a := by
  apply Array.ext_getElem?
  intro i
  by_cases hi : i < 20
  · rw [Array.getElem?_setIfInBounds, trow_at u a i hi, trow_at u (a + 1) i hi, trow_size]
    by_cases e : a = i
    · subst e; rw [if_pos rfl, if_pos hi, if_pos (Nat.le_refl _), hv, show 19 - a = k by omega]
    · rw [if_neg e]
      by_cases h2 : a ≤ i
      · rw [if_pos h2, if_pos (by omega)]
      · rw [if_neg h2, if_neg (by omega)]
  · rw [Array.getElem?_eq_none (by simp [trow_size]; omega), Array.getElem?_eq_none (by simp [trow_size]; omega)]

theorem nDigits_of (u k : Nat) (h1 : u / 10 ^ (k + 1) = 0) (h2 : k = 0 ∨ u / 10 ^ k ≠ 0) : nDigits u = k + 1 := by
  have hp : 0 < 10 ^ k := Nat.pow_pos (by decide)
  have hq : 0 < 10 ^ (k + 1) := Nat.pow_pos (by decide)
  have hu : u < 10 ^ (k + 1) := (Nat.div_eq_zero_iff_lt hq).mp h1
  rcases h2 with rfl | h2
  · exact nDigits_small (by simpa using hu)
  · refine nDigits_unique k u ?_ hu
    rcases Nat.lt_or_ge u (10 ^ k) with h | h
    · exact absurd (Nat.div_eq_of_lt h) h2
    · exact h

/-- What the row holds from place m on: the decimal digits of u. -/
theorem trow_digits (u m k : Nat) (hmk : m + k = 19) (h1 : u / 10 ^ (k + 1) = 0) (h2 : k = 0 ∨ u / 10 ^ k ≠ 0) :
    (decDigits u).length = 20 - m ∧ ∀ i, i < (decDigits u).length → (trow u m)[m + i]? = some (.int .u8 (((decDigits u).getD i 0).toNat : Int)) := by
  have hn := nDigits_of u k h1 h2
  have hl : (decDigits u).length = 20 - m := by rw [decDigits_length, hn]; omega
  refine ⟨hl, fun i hi => ?_⟩
  rw [trow_at u m (m + i) (by omega), if_pos (by omega)]
  have : (decDigits u).getD i 0 = dg u (19 - (m + i)) := by
    rw [decDigits_eq, List.getD_eq_getElem?_getD, List.getElem?_map, List.getElem?_range (by rw [hn]; omega), hn]
    simp only [Option.map_some, Option.getD_some]
    congr 1; omega
  rw [this, dg]
  simp only [UInt8.toNat_ofNat']
  rw [Nat.mod_eq_of_lt (show 48 + u / 10 ^ (19 - (m + i)) % 10 < 2 ^ 8 by omega)]

/-- A row of bytes, cut at m, as a string. -/
theorem conv_row {P : Program} (w : World) (T src dst e : TypeId) (hs : P.underlying src = some (.slice e)) (he : P.underlying e = some (.int .u8)) (hd : P.underlying dst = some .string)
    (Y : Array Value) (m len cap : Nat) (l : List UInt8) (hl : l.length = len) (h : ∀ i, i < l.length → Y[m + i]? = some (.int .u8 ((l.getD i 0).toNat : Int))) :
    (convert src dst (.slice (some ⟨w.heap.size, m, none⟩) len cap)).run P (w.alloc (.cells Y T)) = .ok (.string ⟨l.toArray⟩) (w.alloc (.cells Y T)) := by
  rw [run_convert_bytes_arg (w.alloc (.cells Y T)) src e hs he w.heap.size m len cap (l.map fun b => (b.toNat : Int)) (by simpa using hl) (fun i hi => by
    rw [World.cell?_alloc_new, h i (by omega)]
    congr 2
    simp [List.getD_eq_getElem?_getD, List.getElem?_map]
    rw [List.getElem?_eq_getElem (by omega : i < l.length)]; rfl) dst hd]
  congr 3
  simp only [strOfNums, List.map_map]
  congr 2
  conv => rhs; rw [← List.map_id l]
  refine List.map_congr_left fun b _ => ?_
  simp

theorem add_plain' (b j : Nat) : (⟨b, 0, none⟩ : Addr).add j = ⟨b, j, none⟩ := by
  unfold Addr.add
  split
  · rename_i h; subst h; rfl
  · simp

theorem itoa_pos {n : Int} (h : ¬ n < 0) : itoa n = decDigits n.natAbs := by rw [itoa, if_neg h]; congr 1; omega
theorem itoa_neg' {n : Int} (h : n < 0) : itoa n = 45 :: decDigits n.natAbs := by rw [itoa, if_pos h]

/-- A product of sizes: what num.Mul looks at. -/
theorem natAbs_mul' (a b : Int) : (a * b).natAbs = a.natAbs * b.natAbs := Int.natAbs_mul a b
theorem mul_sign (a b : Int) : (decide (a < 0) != decide (b < 0)) = true → a * b ≤ 0 := by
  intro h
  by_cases ha : a < 0
  · by_cases hb : b < 0
    · simp [ha, hb] at h
    · exact Int.mul_nonpos_of_nonpos_of_nonneg (by omega) (by omega)
  · by_cases hb : b < 0
    · exact Int.mul_nonpos_of_nonneg_of_nonpos (by omega) (by omega)
    · simp [ha, hb] at h
theorem mul_sign' (a b : Int) : (decide (a < 0) != decide (b < 0)) = false → 0 ≤ a * b := by
  intro h
  by_cases ha : a < 0
  · by_cases hb : b < 0
    · exact Int.mul_nonneg_of_nonpos_of_nonpos (by omega) (by omega)
    · simp [ha, hb] at h
  · by_cases hb : b < 0
    · simp [ha, hb] at h
    · exact Int.mul_nonneg (by omega) (by omega)
/-! the bytes of a string -/
theorem Ev.yes {α : Type} {c : Prop} [Decidable c] {A B : Nat → Option α} {r : α} (h : c) (k : Ev A r) : Ev (fun n => if c then A n else B n) r := by simpa only [if_pos h] using k
theorem Ev.no {α : Type} {c : Prop} [Decidable c] {A B : Nat → Option α} {r : α} (h : ¬ c) (k : Ev B r) : Ev (fun n => if c then A n else B n) r := by simpa only [if_neg h] using k
theorem Ev.both {α : Type} {c : Prop} [Decidable c] {A B : Nat → Option α} {r : α} (k : c → Ev A r) (l : ¬ c → Ev B r) : Ev (fun n => if c then A n else B n) r := by
  by_cases h : c
  · exact Ev.yes h (k h)
  · exact Ev.no h (l h)
theorem Ev.is {α : Type} {a r : α} (h : a = r) : Ev (fun _ => some a) r := h ▸ Ev.now _
theorem bt_eq (s : ByteArray) (i : Int) : bt s i = ((s.data.toList.getD i.toNat 0).toNat : Int) := by
  unfold bt
  split
  · rename_i h
    have h' : i.toNat < s.data.toList.length := by rw [data_length]; exact h
    rw [List.getD_eq_getElem?_getD, List.getElem?_eq_getElem h']
    rfl
  · rename_i h
    rw [List.getD_eq_getElem?_getD, List.getElem?_eq_none (by rw [data_length]; omega)]
    rfl
theorem size_eq' (s : ByteArray) : s.size = s.data.toList.length := (data_length s).symm

theorem byte_is (c d : UInt8) : (c.toNat : Int) = (d.toNat : Int) ↔ c = d := by
  constructor
  · intro h; exact UInt8.toNat_inj.mp (by omega)
  · rintro rfl; rfl
def isDig (c : UInt8) : Bool := 48 ≤ c && c ≤ 57
theorem isDig_iff (c : UInt8) : isDig c = true ↔ 48 ≤ (c.toNat : Int) ∧ (c.toNat : Int) ≤ 57 := by
  simp [isDig, UInt8.le_iff_toNat_le]; omega
def negOf (l : List UInt8) : Bool := l.head? == some 45
def magOf (l : List UInt8) : List UInt8 := if negOf l then l.tail else l
def formedL (l : List UInt8) : Bool := !(magOf l).isEmpty && !((magOf l).head? == some 48 && (negOf l || decide (1 < (magOf l).length))) && (magOf l).all isDig
def formedM (m : List UInt8) (b : Bool) : Bool := !m.isEmpty && !(m.head? == some 48 && (b || decide (1 < m.length))) && m.all isDig
def dval (l : List UInt8) : Nat := l.foldl (fun v c => 10 * v + (c.toNat - 48)) 0
theorem dval_snoc (l : List UInt8) (c : UInt8) : dval (l ++ [c]) = 10 * dval l + (c.toNat - 48) := by simp [dval, List.foldl_append]
theorem dval_nil : dval [] = 0 := rfl
/-- A prefix's number is not greater. -/
theorem dval_append_le (l m : List UInt8) : dval l ≤ dval (l ++ m) := by
  have key : ∀ (m : List UInt8) (v : Nat), v ≤ m.foldl (fun v c => 10 * v + (c.toNat - 48)) v := by
    intro m
    induction m with
    | nil => intro v; exact Nat.le_refl _
    | cons c m ih => intro v; exact Nat.le_trans (by omega) (ih (10 * v + (c.toNat - 48)))
  unfold dval
  rw [List.foldl_append]
  exact key m _
def sgn (b : Bool) (n : Nat) : Int := if b then -(n : Int) else n
theorem sgn_big (b : Bool) {n m : Nat} (h : n ≤ m) (hn : ¬ I64 (sgn b n)) : ¬ I64 (sgn b m) := by
  unfold sgn I64 at *
  cases b <;> simp only [Bool.false_eq_true, if_false, if_true] at * <;> omega
theorem sgn_big_append (b : Bool) (l m : List UInt8) (hn : ¬ I64 (sgn b (dval l))) : ¬ I64 (sgn b (dval (l ++ m))) := sgn_big b (dval_append_le l m) hn
def valOf (l : List UInt8) : Int := sgn (negOf l) (dval (magOf l))
def parseL (l : List UInt8) (lo hi : Int) : Int × Int := if formedL l = true then (if I64 (valOf l) ∧ lo ≤ valOf l ∧ valOf l ≤ hi then (valOf l, 0) else (0, 3)) else (0, 5)
/-- What num.Parse's loop keeps: j digits of m have been read. -/
def PInv (neg : Bool) (m : List UInt8) (j : Nat) (n : Int) (ok : Bool) : Prop :=
  (ok = true ∧ n = sgn neg (dval (m.take j)) ∧ I64 n) ∨ (ok = false ∧ n = 0 ∧ ¬ I64 (sgn neg (dval (m.take j))))

theorem slot_ok {m : List UInt8} {neg : Bool} {j : Nat} {n : Int} (h : PInv neg m j n true) : n = sgn neg (dval (m.take j)) ∧ I64 n := by
  rcases h with ⟨_, h⟩ | ⟨h, _⟩
  · exact h
  · cases h

/-- A digit that is read. -/
theorem formed_digits {l : List UInt8} (h : formedL l = true) : (magOf l).all isDig = true := by
  unfold formedL at h; simp only [Bool.and_eq_true] at h; exact h.2
theorem formed_some {l : List UInt8} (h : formedL l = true) : magOf l ≠ [] := by
  intro e; unfold formedL at h; rw [e] at h; simp at h
theorem PInv.start (neg : Bool) (m : List UInt8) : PInv neg m 0 0 true := .inl ⟨rfl, by cases neg <;> rfl, by unfold I64; omega⟩
theorem dval_take (m : List UInt8) (j : Nat) (h : j < m.length) : dval (m.take (j + 1)) = 10 * dval (m.take j) + (m[j].toNat - 48) := by
  rw [List.take_succ_eq_append_getElem h, dval_snoc]
theorem sgn_times (neg : Bool) (v : Nat) : sgn neg (10 * v) = sgn neg v * 10 := by unfold sgn; cases neg <;> simp <;> omega
theorem sgn_plus (neg : Bool) (v d : Nat) : sgn neg (v + d) = if neg then sgn neg v - d else sgn neg v + d := by unfold sgn; cases neg <;> simp; omega
/-- One round: Mul did not fit. -/
theorem PInv.over {neg : Bool} {m : List UInt8} {j : Nat} {n : Int} (h : PInv neg m j n true) (hj : j < m.length) (ho : ¬ I64 (n * 10)) : PInv neg m (j + 1) 0 false := by
  obtain ⟨e, _⟩ := slot_ok h
  refine .inr ⟨rfl, rfl, ?_⟩
  rw [dval_take m j hj]
  rw [e, ← sgn_times] at ho
  exact sgn_big neg (by omega) ho
theorem PInv.next {neg : Bool} {m : List UInt8} {j : Nat} {n : Int} (h : PInv neg m j n true) (hj : j < m.length) (hd : isDig m[j] = true) {x : Int} (hx : x = if neg then n * 10 - ((m[j].toNat : Int) - 48) else n * 10 + ((m[j].toNat : Int) - 48)) :
    PInv neg m (j + 1) (fit x).1 (fit x).2 := by
  obtain ⟨e, _⟩ := slot_ok h
  have hd' := (isDig_iff _).mp hd
  have ex : x = sgn neg (dval (m.take (j + 1))) := by
    rw [dval_take m j hj, sgn_plus, sgn_times, ← e, hx]
    cases neg <;> simp <;> omega
  by_cases hi : I64 x
  · rw [fit_yes hi]; exact .inl ⟨rfl, ex, hi⟩
  · rw [fit_no hi]; exact .inr ⟨rfl, rfl, by rw [← ex]; exact hi⟩
/-- The end: all digits have been read, or it doesn't fit. -/
theorem PInv.stop {neg : Bool} {m : List UInt8} {j : Nat} {n : Int} (h : PInv neg m j n false) : ¬ I64 (sgn neg (dval m)) := by
  rcases h with ⟨h, _⟩ | ⟨_, _, h⟩
  · cases h
  · have := sgn_big_append neg (m.take j) (m.drop j) h
    rwa [List.take_append_drop] at this
theorem PInv.whole {neg : Bool} {m : List UInt8} {j : Nat} {n : Int} (h : PInv neg m j n true) (hj : m.length ≤ j) : n = sgn neg (dval m) ∧ I64 n := by
  have := slot_ok h
  rwa [List.take_of_length_le hj] at this

theorem parse_stop {l : List UInt8} (hf : formedL l = true) {j : Nat} {n : Int} (h : PInv (negOf l) (magOf l) j n false) (lo hi : Int) : parseL l lo hi = (0, 3) := by
  unfold parseL
  rw [if_pos hf, if_neg]
  intro hh
  exact h.stop hh.1
theorem parse_whole {l : List UInt8} (hf : formedL l = true) {j : Nat} {n : Int} (h : PInv (negOf l) (magOf l) j n true) (hj : (magOf l).length ≤ j) (lo hi : Int) : parseL l lo hi = if n < lo ∨ hi < n then (0, 3) else (n, 0) := by
  obtain ⟨e, hi64⟩ := h.whole hj
  unfold parseL valOf
  rw [if_pos hf, ← e]
  by_cases h1 : lo ≤ n ∧ n ≤ hi
  · rw [if_pos ⟨hi64, h1⟩, if_neg (by omega)]
  · rw [if_neg (fun hh => h1 hh.2), if_pos (by omega)]
def sumL (l : List Int) : Int := l.foldl (· + ·) 0
theorem sumL_snoc (l : List Int) (x : Int) : sumL (l ++ [x]) = sumL l + x := by simp [sumL, List.foldl_append]
def allI64 (l : List Int) : Bool := l.all fun x => decide (I64 x)
/-- What the two words hold of a sum. -/
structure SumInv (l : List Int) (k : Nat) (hi lo : Int) : Prop where
  lo_eq : lo = sumL (l.take k) % 18446744073709551616
  hi_eq : hi = sumL (l.take k) / 18446744073709551616 % 18446744073709551616
  low : -9223372036854775808 * (k : Int) ≤ sumL (l.take k)
  high : sumL (l.take k) ≤ 9223372036854775807 * (k : Int)
theorem sum_step (S x lo hi : Int) (h1 : lo = S % 18446744073709551616) (h2 : hi = S / 18446744073709551616 % 18446744073709551616) (hx1 : -9223372036854775808 ≤ x) (hx2 : x ≤ 9223372036854775807) :
    (lo + x % 18446744073709551616 + 0) % 18446744073709551616 = (S + x) % 18446744073709551616 ∧
    (hi + x / 9223372036854775808 % 18446744073709551616 + (lo + x % 18446744073709551616 + 0) / 18446744073709551616) % 18446744073709551616 = (S + x) / 18446744073709551616 % 18446744073709551616 := by
  obtain ⟨q, hq⟩ : ∃ q, q = S / 18446744073709551616 := ⟨_, rfl⟩
  obtain ⟨e, he⟩ : ∃ e, e = x / 9223372036854775808 := ⟨_, rfl⟩
  obtain ⟨c, hc⟩ : ∃ c, c = (lo + x % 18446744073709551616 + 0) / 18446744073709551616 := ⟨_, rfl⟩
  have h3 : (S + x) / 18446744073709551616 = q + e + c := by omega
  have h4 : (S + x) % 18446744073709551616 = (lo + x % 18446744073709551616 + 0) % 18446744073709551616 := by omega
  refine ⟨h4.symm, ?_⟩
  rw [h3, ← hc, ← he, h2, ← hq]
  omega
theorem SumInv.next {l : List Int} {k : Nat} {hi lo : Int} (h : SumInv l k hi lo) (hk : k < l.length) (hx : I64 l[k]) :
    SumInv l (k + 1) ((hi + l[k] / 9223372036854775808 % 18446744073709551616 + (lo + l[k] % 18446744073709551616 + 0) / 18446744073709551616) % 18446744073709551616) ((lo + l[k] % 18446744073709551616 + 0) % 18446744073709551616) := by
  have e : sumL (l.take (k + 1)) = sumL (l.take k) + l[k] := by rw [List.take_succ_eq_append_getElem hk, sumL_snoc]
  obtain ⟨hx1, hx2⟩ := hx
  obtain ⟨a, b⟩ := sum_step (sumL (l.take k)) l[k] lo hi h.lo_eq h.hi_eq hx1 hx2
  have := h.low; have := h.high
  exact ⟨by rw [e, a], by rw [e, b], by rw [e]; omega, by rw [e]; omega⟩
theorem sum_end {l : List Int} {hi lo : Int} (h : SumInv l l.length hi lo) (hl : l.length ≤ 17592186044416) :
    (if lo < 9223372036854775808 then (if hi = 0 then (lo, true) else (0, false)) else if hi = 18446744073709551615 then (lo - 18446744073709551616, true) else (0, false)) = fit (sumL l) := by
  have h1 := h.lo_eq; have h2 := h.hi_eq; have h3 := h.low; have h4 := h.high
  rw [List.take_length] at h1 h2 h3 h4
  generalize sumL l = S at *
  by_cases hS : I64 S
  · rw [fit_yes hS]
    obtain ⟨a, b⟩ := hS
    by_cases hlo : lo < 9223372036854775808
    · rw [if_pos hlo, if_pos (by omega)]; congr 1; omega
    · rw [if_neg hlo, if_pos (by omega)]; congr 1; omega
  · rw [fit_no hS]
    unfold I64 at hS
    by_cases hlo : lo < 9223372036854775808
    · rw [if_pos hlo, if_neg (by omega)]
    · rw [if_neg hlo, if_neg (by omega)]
theorem fit_of_mul_neg {a b : Int} {p : Nat} (hp : p = a.natAbs * b.natAbs) (h : (decide (a < 0) != decide (b < 0)) = true) (h2 : p ≤ 9223372036854775808) : fit (a * b) = (a * b, true) := by
  have := mul_sign a b h
  have e := natAbs_mul' a b
  exact fit_yes ⟨by omega, by omega⟩
theorem fit_of_mul_pos {a b : Int} {p : Nat} (hp : p = a.natAbs * b.natAbs) (h : (decide (a < 0) != decide (b < 0)) = false) (h2 : p ≤ 9223372036854775807) : fit (a * b) = (a * b, true) := by
  have := mul_sign' a b h
  have e := natAbs_mul' a b
  exact fit_yes ⟨by omega, by omega⟩
theorem fit_of_mul_neg' {a b : Int} {p : Nat} (hp : p = a.natAbs * b.natAbs) (h : (decide (a < 0) != decide (b < 0)) = true) (h2 : ¬ p ≤ 9223372036854775808) : fit (a * b) = (0, false) := by
  have := mul_sign a b h
  have e := natAbs_mul' a b
  exact fit_no (by unfold I64; omega)
theorem fit_of_mul_pos' {a b : Int} {p : Nat} (hp : p = a.natAbs * b.natAbs) (h : (decide (a < 0) != decide (b < 0)) = false) (h2 : ¬ p ≤ 9223372036854775807) : fit (a * b) = (0, false) := by
  have := mul_sign' a b h
  have e := natAbs_mul' a b
  exact fit_no (by unfold I64; omega)
theorem mul_ways {a0 a1 : Int} {m : Int × Bool} (hm : m = fit (a0 * a1)) {x y : Int} (hx : x = ((a0.natAbs * a1.natAbs : Nat) : Int) / 18446744073709551616) (hy : y = ((a0.natAbs * a1.natAbs : Nat) : Int) % 18446744073709551616) (s : Bool)
    (hs : (decide (a0 < 0) != decide (a1 < 0)) = s) :
    (m = (a0 * a1, true) ∧ wrap64 (a0 * a1) = a0 * a1 ∧ x ≤ 0 ∧ y ≤ (if s = true then 9223372036854775808 else 9223372036854775807)) ∨ (m = (0, false) ∧ 0 < x) ∨ (m = (0, false) ∧ x ≤ 0 ∧ (if s = true then 9223372036854775808 else 9223372036854775807) < y) := by
  obtain ⟨p, hp⟩ : ∃ p : Nat, p = a0.natAbs * a1.natAbs := ⟨_, rfl⟩
  have q1 := @fit_of_mul_neg a0 a1 p hp
  have q2 := @fit_of_mul_neg' a0 a1 p hp
  have q3 := @fit_of_mul_pos a0 a1 p hp
  have q4 := @fit_of_mul_pos' a0 a1 p hp
  rw [← hp] at hx hy
  rw [← hm] at q1 q2 q3 q4
  have hw : m = (a0 * a1, true) → wrap64 (a0 * a1) = a0 * a1 := fun h => by
    have h2 := hm.symm.trans h
    unfold fit at h2; split at h2
    · rename_i h3; unfold I64 at h3; unfold wrap64; omega
    · simp at h2
  cases s
  · by_cases hle : p ≤ 9223372036854775807
    · exact .inl ⟨q3 hs hle, hw (q3 hs hle), by omega, by simp; omega⟩
    · have := q4 hs hle
      by_cases h0 : 0 < x
      · exact .inr (.inl ⟨this, h0⟩)
      · exact .inr (.inr ⟨this, by omega, by simp; omega⟩)
  · by_cases hle : p ≤ 9223372036854775808
    · exact .inl ⟨q1 hs hle, hw (q1 hs hle), by omega, by simp; omega⟩
    · have := q2 hs hle
      by_cases h0 : 0 < x
      · exact .inr (.inl ⟨this, h0⟩)
      · exact .inr (.inr ⟨this, by omega, by simp; omega⟩)
theorem ret_tup {k : IntKind} {a b : Int} {c : Value} (h : a = b) : Ending.returned (.tuple #[.int k a, c]) = .returned (.tuple #[.int k b, c]) := by rw [h]
end Go.Proofs.YthmpapnhomngnaaDoor.B

