-- By gen.py, a program of this session's, over the print's forms: not the print's own text.
import Derived.Test.YthmpapnhomngnaaDoorB1
import Derived.Lib.ItoaLen
import Derived.IntWalk
import Derived.Lib.LaidTab
import Derived.Test.YthmpapnhomngnaaDoorProg
namespace Go.Proofs.YthmpapnhomngnaaDoor.B
open Go.Lib Go.RowKit Go.Proofs.YthmpapnhomngnaaDoorW.PrintWords
theorem decode_over (s : ByteArray) (pos : Nat) (h : pos < s.size) (hb : 128 ≤ (s[pos]'h).toNat) : ∃ c width, Utf8.decode s pos = (c, width) ∧ 128 ≤ c := by
  have e : s.get! (pos + 0) = s[pos]'h := by
    show s.get! pos = _
    simp [ByteArray.get!, getElem!_pos, h]
    rfl
  obtain ⟨r, hr⟩ : ∃ r, r = Utf8.decode s pos := ⟨_, rfl⟩
  refine ⟨r.1, r.2, hr.symm, ?_⟩
  have h0 : ¬ (s[pos]'h).toNat < 128 := by omega
  simp only [Utf8.decode, e, if_neg h0] at hr
  subst hr
  have hre : Utf8.runeError = 65533 := rfl
  repeat' split
  all_goals first | (simp only [hre]; omega) | (rename_i hc; simp only [ge_iff_le, Bool.and_eq_true, decide_eq_true_eq] at hc; omega) | skip
theorem run_next_over {P : Program} (w : World) (s : ByteArray) (pos : Nat) (ty : TypeId) (h : pos < s.size) {c width : Nat} (hd : Utf8.decode s pos = (c, width)) :
    (Instr.next (.pointer (some ⟨w.heap.size, 0, none⟩)) true ty).run P (w.iter s pos) = .ok (.tuple #[.bool true, .int .i64 pos, .int .i32 c]) (w.iter s (pos + width)) := by
  simp only [Instr.next, getObj, setObj, Sem.run_bind, Sem.run, World.iter_heap, Result.andThen, h, if_true, hd, World.iter_set]
  simp [goInt]

def isUp (c : UInt8) : Bool := 65 ≤ c && c ≤ 90
theorem isUp_iff (c : UInt8) : isUp c = true ↔ 65 ≤ (c.toNat : Int) ∧ (c.toNat : Int) ≤ 90 := by
  simp [isUp, UInt8.le_iff_toNat_le]; omega
def codeL (l : List UInt8) : Bool := l.all isUp && decide (l.length = 3)
theorem codeL_bad {l : List UInt8} {i : Nat} (h : i < l.length) (hu : isUp l[i] = false) : codeL l = false := by
  unfold codeL
  rw [Bool.and_eq_false_iff]; left
  rw [Bool.eq_false_iff]; intro hh
  have := List.all_eq_true.mp hh l[i] (List.getElem_mem h)
  rw [hu] at this; cases this
theorem list_at (s : ByteArray) (i : Nat) (_h : i < s.size) (h' : i < s.data.toList.length) : s.data.toList[i] = s[i] := by simp; rfl

/-- The notation of an amount without a sign: whole part, decimals, is it one? -/
def splitL (l : List UInt8) : List UInt8 × List UInt8 × Bool :=
  match l.dropWhile isDig with
  | [] => (l, [], !l.isEmpty)
  | c :: r => if c = 46 ∧ r.all isDig = true then (l.takeWhile isDig, r, !(l.takeWhile isDig).isEmpty && !r.isEmpty) else ([], [], false)
theorem span_at {l : List UInt8} {i : Nat} (h : i < l.length) (hd : ∀ j, (hj : j < i) → isDig (l[j]'(by omega)) = true) (hn : isDig l[i] = false) : l.takeWhile isDig = l.take i ∧ l.dropWhile isDig = l[i] :: l.drop (i + 1) := by
  induction l generalizing i with
  | nil => simp at h
  | cons c r ih =>
    cases i with
    | zero => simp at hn; simp [hn]
    | succ i =>
      have h0 : isDig c = true := hd 0 (by omega)
      obtain ⟨a, b⟩ := ih (i := i) (by simpa using h) (fun j hj => by have := hd (j + 1) (by omega); simpa using this) (by simpa using hn)
      simp [h0, a, b]
theorem span_all {l : List UInt8} (hd : l.all isDig = true) : l.dropWhile isDig = [] := by
  induction l with
  | nil => rfl
  | cons c r ih => rw [List.all_cons, Bool.and_eq_true] at hd; simp [hd.1, ih hd.2]
/-- Where a sign that is neither a digit nor the first point stands. -/
theorem splitL_bad0 {l : List UInt8} {i : Nat} (h : i < l.length) (hd : ∀ j, (hj : j < i) → isDig (l[j]'(by omega)) = true) (hn : isDig l[i] = false) (hp : l[i] ≠ 46) : splitL l = ([], [], false) := by
  obtain ⟨a, b⟩ := span_at h hd hn
  unfold splitL
  rw [b]
  simp [hp]
theorem splitL_bad1 {l : List UInt8} {i j : Nat} (h : i < l.length) (hd : ∀ j, (hj : j < i) → isDig (l[j]'(by omega)) = true) (hp : l[i] = 46) (hj : i < j) (hj2 : j < l.length) (hn : isDig l[j] = false) : splitL l = ([], [], false) := by
  obtain ⟨a, b⟩ := span_at h hd (by rw [hp]; rfl)
  unfold splitL
  rw [b]
  have : (l.drop (i + 1)).all isDig = false := by
    rw [Bool.eq_false_iff]; intro hh
    have := List.all_eq_true.mp hh l[j] (by
      rw [show l[j] = (l.drop (i + 1))[j - (i + 1)]'(by rw [List.length_drop]; omega) by simp; congr 1; omega]
      exact List.getElem_mem _)
    rw [hn] at this; cases this
  simp [this]
theorem splitL_good {l : List UInt8} {i : Nat} (h : i < l.length) (hd : ∀ j, (hj : j < i) → isDig (l[j]'(by omega)) = true) (hp : l[i] = 46) (hr : ∀ j, i < j → (hj : j < l.length) → isDig l[j] = true) :
    splitL l = (l.take i, l.drop (i + 1), !(l.take i).isEmpty && !(l.drop (i + 1)).isEmpty) := by
  obtain ⟨a, b⟩ := span_at h hd (by rw [hp]; rfl)
  unfold splitL
  rw [b, a]
  have : (l.drop (i + 1)).all isDig = true := by
    rw [List.all_eq_true]; intro x hx
    obtain ⟨k, hk, rfl⟩ := List.getElem_of_mem hx
    rw [List.getElem_drop]
    exact hr _ (by omega) _
  simp [hp, this]
theorem splitL_plain {l : List UInt8} (hd : l.all isDig = true) : splitL l = (l, [], !l.isEmpty) := by
  unfold splitL; rw [span_all hd]

/-- What split's loop keeps: p bytes have been read. -/
def SInv (s : ByteArray) (p : Nat) (whole rest : ByteArray) (points : Int) (after : Int) : Prop :=
  (points = 0 ∧ whole.data.toList = [] ∧ rest.data.toList = [] ∧ (∀ j, (h : j < p) → (h' : j < s.size) → isDig s[j] = true) ∧ (p = 0 → after = 0) ∧ (p ≠ 0 → 48 ≤ after ∧ after ≤ 57)) ∨
  (points = 1 ∧ ∃ i, ∃ (hi : i < s.size), i < p ∧ whole = s.extract 0 i ∧ rest = s.extract (i + 1) s.size ∧ s[i] = 46 ∧ (∀ j, (h : j < i) → (h' : j < s.size) → isDig s[j] = true) ∧ (∀ j, i < j → j < p → (h' : j < s.size) → isDig s[j] = true) ∧ (p = i + 1 → after = 46) ∧ (i + 1 < p → 48 ≤ after ∧ after ≤ 57))
theorem SInv.digit {s : ByteArray} {p : Nat} {whole rest : ByteArray} {points after : Int} (h : SInv s p whole rest points after) (hp : p < s.size) (hd : isDig s[p] = true) : SInv s (p + 1) whole rest points (s[p].toNat : Int) := by
  have hd' := (isDig_iff _).mp hd
  rcases h with ⟨h1, h2, h3, h4, h5, h6⟩ | ⟨h1, i, hi, h2, h3, h4, h5, h6, h7, h8, h9⟩
  · refine .inl ⟨h1, h2, h3, fun j hj hj' => ?_, by omega, fun _ => hd'⟩
    rcases Nat.lt_or_ge j p with h | h
    · exact h4 j h hj'
    · obtain rfl : j = p := by omega
      exact hd
  · refine .inr ⟨h1, i, hi, by omega, h3, h4, h5, h6, fun j hj hj2 hj' => ?_, by omega, fun _ => hd'⟩
    rcases Nat.lt_or_ge j p with h | h
    · exact h7 j hj h hj'
    · obtain rfl : j = p := by omega
      exact hd
theorem SInv.point {s : ByteArray} {p : Nat} {whole rest : ByteArray} {after : Int} (h : SInv s p whole rest 0 after) (hp : p < s.size) (hd : s[p] = 46) : SInv s (p + 1) (s.extract 0 p) (s.extract (p + 1) s.size) 1 46 := by
  rcases h with ⟨h1, h2, h3, h4, h5, h6⟩ | ⟨h1, _⟩
  · exact .inr ⟨rfl, p, hp, by omega, rfl, rfl, hd, fun j hj hj' => h4 j hj hj', fun j hj hj2 _ => by omega, fun _ => rfl, fun h => by omega⟩
  · exact absurd h1 (by decide)
theorem SInv.bad {s : ByteArray} {p : Nat} {whole rest : ByteArray} {points after : Int} (h : SInv s p whole rest points after) (hp : p < s.size) (hd : isDig s[p] = false) (h46 : s[p] = 46 → points ≠ 0) : splitL s.data.toList = ([], [], false) := by
  have hsz := size_eq' s
  rcases h with ⟨h1, h2, h3, h4, h5, h6⟩ | ⟨h1, i, hi, h2, h3, h4, h5, h6, h7, h8, h9⟩
  · refine splitL_bad0 (i := p) (by omega) (fun j hj => ?_) (by rw [list_at s p hp]; exact hd) (fun e => ?_)
    · rw [list_at s j (by omega)]; exact h4 j hj (by omega)
    · rw [list_at s p hp] at e; exact h46 e h1
  · refine splitL_bad1 (i := i) (j := p) (by omega) (fun j hj => ?_) (by rw [list_at s i hi]; exact h5) h2 (by omega) (by rw [list_at s p hp]; exact hd)
    rw [list_at s j (by omega)]; exact h6 j hj (by omega)
/-- What is returned behind the loop. -/
theorem SInv.fin {s : ByteArray} {whole rest : ByteArray} {points after : Int} (h : SInv s s.size whole rest points after) :
    (points = 0 → splitL s.data.toList = (s.data.toList, [], decide (48 ≤ after) && decide (after ≤ 57) && decide (s.data.toList ≠ []))) ∧
    (points ≠ 0 → points = 1 ∧ splitL s.data.toList = (whole.data.toList, rest.data.toList, decide (48 ≤ after) && decide (after ≤ 57) && decide (whole.data.toList ≠ []) && decide (rest.data.toList ≠ []))) := by
  have hsz := size_eq' s
  rcases h with ⟨h1, h2, h3, h4, h5, h6⟩ | ⟨h1, i, hi, h2, h3, h4, h5, h6, h7, h8, h9⟩
  · refine ⟨fun _ => ?_, fun h => absurd h1 h⟩
    rw [splitL_plain (by
      rw [List.all_eq_true]; intro x hx
      obtain ⟨j, hj, rfl⟩ := List.getElem_of_mem hx
      rw [list_at s j (by omega)]; exact h4 j (by omega) (by omega))]
    cases hl : s.data.toList with
    | nil => simp
    | cons c r =>
      rw [hl, List.length_cons] at hsz
      have := h6 (by omega)
      simp [this.1, this.2]
  · refine ⟨fun h => absurd (h1.symm.trans h) (by decide), fun _ => ⟨h1, ?_⟩⟩
    have e1 : whole.data.toList = s.data.toList.take i := by rw [h3]; simp
    have e2 : rest.data.toList = s.data.toList.drop (i + 1) := by rw [h4]; exact Lib.extract_to_end s (i + 1)
    rw [e1, e2, splitL_good (i := i) (by omega) (fun j hj => by rw [list_at s j (by omega)]; exact h6 j hj (by omega)) (by rw [list_at s i hi]; exact h5) (fun j hj hj2 => by rw [list_at s j (by omega)]; exact h7 j hj (by omega) (by omega))]
    congr 2
    by_cases hlast : s.size = i + 1
    · have := h8 hlast
      have hnil : s.data.toList.drop (i + 1) = [] := List.drop_eq_nil_of_le (by omega)
      simp [hnil]
    · have hc := h9 (by omega)
      have hne : s.data.toList.drop (i + 1) ≠ [] := by
        intro h; have := congrArg List.length h; rw [List.length_drop, List.length_nil] at this; omega
      cases ht : s.data.toList.take i <;> cases hr : s.data.toList.drop (i + 1) <;> simp_all

def ofL (l : List UInt8) : ByteArray := ⟨l.toArray⟩
theorem ofL_data (s : ByteArray) : ofL s.data.toList = s := by cases s; simp [ofL]
theorem ofL_of {s : ByteArray} {l : List UInt8} (h : s.data.toList = l) : s = ofL l := by rw [← h, ofL_data]
theorem isDig_eq (c : UInt8) : isDig c = (decide (48 ≤ (c.toNat : Int)) && decide ((c.toNat : Int) ≤ 57)) := by
  rw [Bool.eq_iff_iff, isDig_iff, Bool.and_eq_true, decide_eq_true_iff, decide_eq_true_iff]
/-- The variable g (an array of integers) holds the list l. -/
def TabAt (g : Nat) (l : List Int) (w : World) : Prop := g < w.heap.size ∧ ∀ i (h : i < l.length), w.cell? ⟨g, i, none⟩ = some (.int .i64 l[i])
theorem TabAt.below {g : Nat} {l : List Int} {w w' : World} (h : TabAt g l w) (hb : Below w.heap.size w w') : TabAt g l w' := by
  refine ⟨Nat.lt_of_lt_of_le h.1 hb.size, fun i hi => ?_⟩
  rw [← h.2 i hi]
  exact hb.cell (p := ⟨g, i, none⟩) h.1
def pow10 (d : Nat) : Int := ((10 ^ d : Nat) : Int)
def Gl (w : World) : Prop := TabAt 0 [1, 10, 100, 1000, 10000] w
theorem gl_below {w w' : World} (h : Gl w) (hb : Below w.heap.size w w') : Gl w' := TabAt.below h hb
theorem Gl.pow {w : World} (h : Gl w) (d : Int) (h0 : 0 ≤ d) (h4 : d ≤ 4) : w.cell? ⟨0, d.toNat, none⟩ = some (.int .i64 (pow10 d.toNat)) := by
  have hd : d.toNat < 5 := by omega
  generalize d.toNat = k at *
  have := h.2 k hd
  rw [this]
  match k, hd with
  | 0, _ => rfl
  | 1, _ => rfl
  | 2, _ => rfl
  | 3, _ => rfl
  | 4, _ => rfl
theorem lt_of_cell {w : World} {a : Addr} {v : Value} (h : w.cell? a = some v) : a.block < w.heap.size := by
  unfold World.cell? at h
  cases hh : w.heap[a.block]? with
  | none => rw [hh] at h; cases h
  | some o => exact (Array.getElem?_eq_some_iff.1 hh).1
theorem tabAt_of {P : Program} {W : World} {name : String} {g : Nat} {zs : List Int} (h : Lib.TabIs P W name .i64 zs) (hg : P.globalNamed name = some g) (hz : 0 < zs.length) : TabAt g zs W := by
  refine ⟨lt_of_cell (h.cell hg 0 hz), fun i hi => ?_⟩
  rw [h.cell hg i hi, List.getD_eq_getElem?_getD, List.getElem?_eq_getElem hi]; rfl
theorem gl_of_laid {W : World} (h : laidMet Tryd.prog [("accounting/money.powers", Lib.tabData .i64 [1, 10, 100, 1000, 10000])] W) : Gl W :=
  tabAt_of (Lib.tabIs_of_head (g := 0) (t := 46) (e := 3) (n := 5) (by kernel_rfl) (by kernel_rfl) Tryd.underlying46 Tryd.underlying3 (by kernel_rfl) (by kernel_rfl) h) (by kernel_rfl) (by decide)
def fitsB (c : Int) : Bool := decide (0 ≤ c) && decide (c ≤ 4)
def farB (c : Int) : Bool := decide (1000000000000000 < c) || decide (c < -1000000000000000)
def scaleS (a f t m : Int) : Int × Int := if m < 1 ∨ 5 < m then (0, 10) else if (fitsB f && fitsB t) = false then (0, 2) else if farB a = true then (0, 4) else
  if (mulDivS a (pow10 t.toNat) (pow10 f.toNat) m).2 ≠ 0 ∨ farB (mulDivS a (pow10 t.toNat) (pow10 f.toNat) m).1 = true then (0, 4) else ((mulDivS a (pow10 t.toNat) (pow10 f.toNat) m).1, 0)
theorem fitsB_iff (c : Int) : fitsB c = true ↔ 0 ≤ c ∧ c ≤ 4 := by simp [fitsB]
theorem pow10_I64 (c : Int) (h : c ≤ 4) : I64 (pow10 c.toNat) := by
  have : c.toNat < 5 := by omega
  generalize c.toNat = k at *
  match k, this with
  | 0, _ => decide
  | 1, _ => decide
  | 2, _ => decide
  | 3, _ => decide
  | 4, _ => decide

def itB (n : Int) : ByteArray := ⟨(Lib.itoa n).toArray⟩
theorem itB_size (n : Int) (h : I64 n) : (itB n).size ≤ 21 := by
  unfold itB; rw [size_eq']; exact Lib.itoa_length_le n h.1 h.2
theorem itB_pos (n : Int) : 1 ≤ (itB n).size := by
  unfold itB; rw [size_eq']
  show 1 ≤ (Lib.itoa n).length
  by_cases h : n < 0
  · rw [itoa_neg' h, List.length_cons]; omega
  · rw [itoa_pos h, Lib.decDigits_length]
    by_cases h2 : n.natAbs < 10
    · rw [Lib.nDigits_small h2]; omega
    · rw [Lib.nDigits_big (by omega)]; omega
def textB (sg : ByteArray) (x : Nat) (d : Int) : ByteArray :=
  if d = 0 then sg ++ itB ((x / 10 ^ d.toNat : Nat) : Int) else sg ++ itB ((x / 10 ^ d.toNat : Nat) : Int) ++ ⟨#[46]⟩ ++ (itB ((10 ^ d.toNat + x % 10 ^ d.toNat : Nat) : Int)).extract 1 (itB ((10 ^ d.toNat + x % 10 ^ d.toNat : Nat) : Int)).size
def textS (a d : Int) : ByteArray × Int := if fitsB d = false then (⟨#[]⟩, 2) else if farB a = true then (⟨#[]⟩, 4) else (textB (if a < 0 then ⟨#[45]⟩ else ⟨#[]⟩) a.natAbs d, 0)
theorem farB_iff (c : Int) : farB c = true ↔ 1000000000000000 < c ∨ c < -1000000000000000 := by simp [farB]
theorem pow_le4 (k : Nat) (h : k ≤ 4) : 1 ≤ 10 ^ k ∧ 10 ^ k ≤ 10000 := by
  match k, h with
  | 0, _ => decide
  | 1, _ => decide
  | 2, _ => decide
  | 3, _ => decide
  | 4, _ => decide

end Go.Proofs.YthmpapnhomngnaaDoor.B
