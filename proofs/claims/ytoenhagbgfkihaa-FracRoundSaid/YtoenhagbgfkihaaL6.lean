/- Numbers of any size as their decimal digits, the most significant first. -/

import Derived.Test.YtoenhagbgfkihaaB3
namespace Go.Proofs.Ytoenhagbgfkihaa.A
open Go.RowKit Go.Proofs.Ytoenhagbgfkihaa.B Go.Proofs.YtoenhagbgfkihaaW.PrintWords Go.Proofs.YtoenhagbgfkihaaW.PrintLast Go.Proofs.YtoenhagbgfkihaaW.PrintMore
set_option linter.unusedVariables false
set_option linter.unusedSimpArgs false
def nv (l : List Nat) : Nat := l.foldl (fun a d => 10 * a + d) 0
theorem nv_from (l : List Nat) : ∀ a, l.foldl (fun a d => 10 * a + d) a = a * 10 ^ l.length + nv l := by
  induction l with
  | nil => intro a; simp [nv]
  | cons x l ih =>
    intro a
    unfold nv
    rw [List.foldl_cons, List.foldl_cons, ih, ih (10 * 0 + x), List.length_cons, Nat.pow_succ, Nat.add_mul, Nat.mul_zero, Nat.zero_add, Nat.add_assoc, Nat.mul_comm 10 a, Nat.mul_assoc, Nat.mul_comm 10]
theorem nv_nil : nv [] = 0 := rfl
theorem nv_cons (x : Nat) (l : List Nat) : nv (x :: l) = x * 10 ^ l.length + nv l := by
  show (x :: l).foldl _ 0 = _
  rw [List.foldl_cons, nv_from]; congr 2; omega
theorem nv_append (l m : List Nat) : nv (l ++ m) = nv l * 10 ^ m.length + nv m := by
  unfold nv; rw [List.foldl_append]; exact nv_from m _
theorem nv_snoc (l : List Nat) (d : Nat) : nv (l ++ [d]) = 10 * nv l + d := by
  rw [nv_append]; simp [nv]; omega
def Digs (l : List Nat) : Prop := ∀ d ∈ l, d < 10
theorem Digs.cons {x : Nat} {l : List Nat} (h : Digs (x :: l)) : x < 10 ∧ Digs l := ⟨h x (List.mem_cons_self ..), fun d hd => h d (List.mem_cons_of_mem _ hd)⟩
theorem Digs.mk {x : Nat} {l : List Nat} (h : x < 10) (h' : Digs l) : Digs (x :: l) := fun d hd => by
  rcases List.mem_cons.mp hd with rfl | hd
  · exact h
  · exact h' d hd
theorem Digs.append {l m : List Nat} (h : Digs l) (h' : Digs m) : Digs (l ++ m) := fun d hd => by
  rcases List.mem_append.mp hd with hd | hd
  · exact h d hd
  · exact h' d hd
theorem Digs.left {l m : List Nat} (h : Digs (l ++ m)) : Digs l := fun d hd => h d (List.mem_append_left _ hd)
theorem Digs.right {l m : List Nat} (h : Digs (l ++ m)) : Digs m := fun d hd => h d (List.mem_append_right _ hd)
theorem Digs.nil : Digs [] := fun d hd => by cases hd
theorem nv_lt {l : List Nat} (h : Digs l) : nv l < 10 ^ l.length := by
  induction l with
  | nil => exact Nat.one_pos
  | cons x l ih =>
    obtain ⟨h1, h2⟩ := h.cons
    have h3 := ih h2
    rw [nv_cons, List.length_cons, Nat.pow_succ]
    have h4 : x * 10 ^ l.length + 10 ^ l.length ≤ 10 * 10 ^ l.length := by
      have : (x + 1) * 10 ^ l.length ≤ 10 * 10 ^ l.length := Nat.mul_le_mul_right _ h1
      rw [Nat.add_mul, Nat.one_mul] at this; exact this
    rw [Nat.mul_comm (10 ^ l.length) 10]
    omega
/-- Without leading zeros. -/
def tr : List Nat → List Nat
  | [] => []
  | 0 :: l => tr l
  | (n + 1) :: l => (n + 1) :: l
theorem tr_cons (d : Nat) (l : List Nat) : tr (d :: l) = if d = 0 then tr l else d :: l := by
  cases d <;> rfl
theorem nv_tr (l : List Nat) : nv (tr l) = nv l := by
  induction l with
  | nil => rfl
  | cons x l ih =>
    rw [tr_cons]
    split
    · rename_i h; subst h; rw [ih, nv_cons, Nat.zero_mul, Nat.zero_add]
    · rfl
theorem Digs.tr {l : List Nat} (h : Digs l) : Digs (tr l) := by
  induction l with
  | nil => exact h
  | cons x l ih =>
    rw [tr_cons]
    split
    · exact ih h.cons.2
    · exact h
def Trim (l : List Nat) : Prop := ∀ x l', l = x :: l' → x ≠ 0
theorem trim_tr (l : List Nat) : Trim (tr l) := by
  induction l with
  | nil => intro x l' h; cases h
  | cons x l ih =>
    rw [tr_cons]
    split
    · exact ih
    · rename_i h0; intro y l' h; obtain ⟨rfl, rfl⟩ := List.cons.inj h; exact h0
theorem tr_of_trim {l : List Nat} (h : Trim l) : tr l = l := by
  cases l with
  | nil => rfl
  | cons x l => rw [tr_cons, if_neg (h x l rfl)]
theorem Trim.nil : Trim [] := fun x l' h => by cases h
theorem trim_ge {l : List Nat} (h : Trim l) (h0 : l ≠ []) : 10 ^ (l.length - 1) ≤ nv l := by
  cases l with
  | nil => exact absurd rfl h0
  | cons x l =>
    have hx := h x l rfl
    rw [nv_cons, List.length_cons, Nat.add_sub_cancel]
    exact Nat.le_trans (Nat.le_mul_of_pos_left _ (by omega)) (Nat.le_add_right _ _)
theorem pow10_mono {m n : Nat} (h : m ≤ n) : 10 ^ m ≤ 10 ^ n := Nat.pow_le_pow_right (by decide) h
theorem trim_shorter {a b : List Nat} (hb : Trim b) (da : Digs a) (h : a.length < b.length) : nv a < nv b := by
  have h1 := nv_lt da
  have h2 := trim_ge hb (by intro h0; subst h0; simp at h)
  have h3 : 10 ^ a.length ≤ 10 ^ (b.length - 1) := pow10_mono (by omega)
  omega
/-- Digits of one length, compared from the left. -/
def lexN : List Nat → List Nat → Bool
  | _, [] => false
  | [], _ :: _ => true
  | a :: x, b :: y => decide (a < b) || (a == b && lexN x y)
theorem lexN_iff : ∀ {a b : List Nat}, Digs a → Digs b → a.length = b.length → (lexN a b = true ↔ nv a < nv b)
  | [], [], _, _, _ => by simp [lexN, nv]
  | x :: a, y :: b, ha, hb, h => by
    obtain ⟨hx, ha⟩ := ha.cons
    obtain ⟨hy, hb⟩ := hb.cons
    have hl : a.length = b.length := by simpa using h
    have ih := lexN_iff ha hb hl
    have h1 := nv_lt ha
    have h2 := nv_lt hb
    rw [nv_cons, nv_cons, hl]
    rw [hl] at h1
    unfold lexN
    rw [Bool.or_eq_true, Bool.and_eq_true, decide_eq_true_iff, beq_iff_eq, ih]
    generalize 10 ^ b.length = P at *
    constructor
    · rintro (h | ⟨rfl, h⟩)
      · have : (x + 1) * P ≤ y * P := Nat.mul_le_mul_right _ h
        rw [Nat.add_mul, Nat.one_mul] at this; omega
      · omega
    · intro h
      by_cases hxy : x < y
      · exact .inl hxy
      · refine .inr ?_
        by_cases hyx : y < x
        · have : (y + 1) * P ≤ x * P := Nat.mul_le_mul_right _ hyx
          rw [Nat.add_mul, Nat.one_mul] at this; omega
        · obtain rfl : x = y := by omega
          exact ⟨rfl, by omega⟩
  | [], _ :: _, _, _, h => by simp at h
  | _ :: _, [], _, _, h => by simp at h
def lessN (a b : List Nat) : Bool := if a.length = b.length then lexN a b else decide (a.length < b.length)
theorem lessN_eq {a b : List Nat} (da : Digs a) (db : Digs b) (ta : Trim a) (tb : Trim b) : lessN a b = decide (nv a < nv b) := by
  unfold lessN
  by_cases h : a.length = b.length
  · rw [if_pos h, Bool.eq_iff_iff, lexN_iff da db h, decide_eq_true_iff]
  · rw [if_neg h, Bool.eq_iff_iff, decide_eq_true_iff, decide_eq_true_iff]
    constructor
    · exact trim_shorter tb da
    · intro h1
      rcases Nat.lt_or_gt_of_ne h with h2 | h2
      · exact h2
      · have := trim_shorter ta db h2; omega
/-- One list of digits a number. -/
theorem nv_inj_len : ∀ {a b : List Nat}, Digs a → Digs b → a.length = b.length → nv a = nv b → a = b
  | [], [], _, _, _, _ => rfl
  | x :: a, y :: b, ha, hb, h, he => by
    obtain ⟨hx, ha⟩ := ha.cons
    obtain ⟨hy, hb⟩ := hb.cons
    have hl : a.length = b.length := by simpa using h
    have h1 := nv_lt ha
    have h2 := nv_lt hb
    rw [nv_cons, nv_cons, hl] at he
    rw [hl] at h1
    obtain ⟨P, hP⟩ : ∃ P, 10 ^ b.length = P := ⟨_, rfl⟩
    rw [hP] at he h1 h2
    have hxy : x = y := by
      rcases Nat.lt_trichotomy x y with h3 | h3 | h3
      · have : (x + 1) * P ≤ y * P := Nat.mul_le_mul_right _ h3
        rw [Nat.add_mul, Nat.one_mul] at this; omega
      · exact h3
      · have : (y + 1) * P ≤ x * P := Nat.mul_le_mul_right _ h3
        rw [Nat.add_mul, Nat.one_mul] at this; omega
    have e := nv_inj_len ha hb hl (by rw [hxy] at he; omega)
    rw [hxy, e]
  | [], _ :: _, _, _, h, _ => by simp at h
  | _ :: _, [], _, _, h, _ => by simp at h
theorem nv_inj {a b : List Nat} (da : Digs a) (db : Digs b) (ta : Trim a) (tb : Trim b) (h : nv a = nv b) : a = b := by
  rcases Nat.lt_trichotomy a.length b.length with h1 | h1 | h1
  · have := trim_shorter tb da h1; omega
  · exact nv_inj_len da db h1 h
  · have := trim_shorter ta db h1; omega
/-- The digits of a number, without leading zeros; 0 has none. -/
def dg (n : Nat) : List Nat := if h : n = 0 then [] else dg (n / 10) ++ [n % 10]
termination_by n
decreasing_by omega
theorem dg_zero : dg 0 = [] := by rw [dg]; rfl
theorem dg_pos {n : Nat} (h : n ≠ 0) : dg n = dg (n / 10) ++ [n % 10] := by rw [dg, dif_neg h]
theorem dg_spec (n : Nat) : nv (dg n) = n ∧ Digs (dg n) ∧ Trim (dg n) := by
  induction n using Nat.strongRecOn with
  | ind n ih =>
    by_cases h : n = 0
    · subst h; rw [dg_zero]; exact ⟨rfl, Digs.nil, Trim.nil⟩
    · obtain ⟨h1, h2, h3⟩ := ih (n / 10) (by omega)
      rw [dg_pos h]
      refine ⟨by rw [nv_snoc, h1]; omega, h2.append (Digs.mk (by omega) Digs.nil), ?_⟩
      intro x l' e
      cases hd : dg (n / 10) with
      | nil =>
        rw [hd] at e h1
        simp only [List.nil_append, List.cons.injEq] at e
        rw [← e.1]
        rw [nv_nil] at h1
        omega
      | cons y m =>
        rw [hd, List.cons_append] at e
        rw [← (List.cons.inj e).1]
        exact h3 y m hd
theorem nv_dg (n : Nat) : nv (dg n) = n := (dg_spec n).1
theorem digs_dg (n : Nat) : Digs (dg n) := (dg_spec n).2.1
theorem trim_dg (n : Nat) : Trim (dg n) := (dg_spec n).2.2
theorem tr_eq_dg {l : List Nat} (h : Digs l) : tr l = dg (nv l) :=
  nv_inj h.tr (digs_dg _) (trim_tr l) (trim_dg _) (by rw [nv_tr, nv_dg])
theorem trim_eq_dg {l : List Nat} (h : Digs l) (ht : Trim l) : l = dg (nv l) :=
  nv_inj h (digs_dg _) ht (trim_dg _) (by rw [nv_dg])
theorem dg_nil_iff (n : Nat) : dg n = [] ↔ n = 0 := by
  constructor
  · intro h; have := nv_dg n; rw [h] at this; exact this.symm
  · intro h; subst h; exact dg_zero
theorem lessN_dg (a b : Nat) : lessN (dg a) (dg b) = decide (a < b) := by
  rw [lessN_eq (digs_dg a) (digs_dg b) (trim_dg a) (trim_dg b), nv_dg, nv_dg]
theorem dg_length_le (n k : Nat) (h : n < 10 ^ k) : (dg n).length ≤ k := by
  rcases Nat.lt_or_ge k (dg n).length with h1 | h1
  · have h2 := trim_ge (trim_dg n) (by intro h0; rw [h0] at h1; simp at h1)
    rw [nv_dg] at h2
    have h3 : 10 ^ k ≤ 10 ^ ((dg n).length - 1) := pow10_mono (by omega)
    omega
  · exact h1
theorem dg_length_gt (n k : Nat) (h : k < (dg n).length) : 10 ^ k ≤ n := by
  rcases Nat.lt_or_ge n (10 ^ k) with h1 | h1
  · have := dg_length_le n k h1; omega
  · exact h1
/-- The value of the last j digits. -/
theorem nv_drop_last (l : List Nat) (j : Nat) (hj : j < l.length) : nv (l.drop (l.length - (j + 1))) = l.getD (l.length - 1 - j) 0 * 10 ^ j + nv (l.drop (l.length - j)) := by
  have h1 : l.length - (j + 1) < l.length := by omega
  rw [List.drop_eq_getElem_cons h1, nv_cons, show l.length - (j + 1) + 1 = l.length - j by omega, List.length_drop, show l.length - (l.length - j) = j by omega]
  congr 2
  rw [List.getD_eq_getElem?_getD, show l.length - 1 - j = l.length - (j + 1) by omega, List.getElem?_eq_getElem h1]; rfl
def bsL (l : List Nat) : List UInt8 := l.map (fun (d : Nat) => UInt8.ofNat (48 + d))
def bs (l : List Nat) : ByteArray := ⟨(bsL l).toArray⟩
theorem bs_data (l : List Nat) : (bs l).data.toList = bsL l := rfl
theorem bs_toList (l : List Nat) : (bs l).toList = bsL l := by rw [ByteArray.toList_eq]; rfl
theorem bsL_length (l : List Nat) : (bsL l).length = l.length := by unfold bsL; rw [List.length_map]
theorem bs_size (l : List Nat) : (bs l).size = l.length := by
  show (bsL l).toArray.size = _
  rw [List.size_toArray, bsL_length]
theorem ba_eq {s t : ByteArray} (h : s.data.toList = t.data.toList) : s = t := by
  cases s; cases t; congr 1; exact Array.toList_inj.mp h
theorem bs_append (l m : List Nat) : bs l ++ bs m = bs (l ++ m) := by
  apply ba_eq; rw [ByteArray.data_append, Array.toList_append, bs_data, bs_data, bs_data]; unfold bsL; rw [List.map_append]
theorem ext_list (s : ByteArray) (a b : Nat) : (s.extract a b).data.toList = (s.data.toList.take b).drop a := by
  rw [ByteArray.data_extract, Array.toList_extract, List.extract_eq_take_drop, List.take_drop, List.drop_take]
  rcases Nat.le_total a b with h | h
  · rw [show a + (b - a) = b by omega]; rw [List.drop_take]
  · rw [show b - a = 0 by omega]; simp; omega
theorem bs_extract (l : List Nat) (a b : Nat) : (bs l).extract a b = bs ((l.take b).drop a) := by
  apply ba_eq; rw [ext_list, bs_data, bs_data]; unfold bsL; rw [List.map_drop, List.map_take]
theorem bs_tail (l : List Nat) (a : Nat) : (bs l).extract a (bs l).size = bs (l.drop a) := by
  rw [bs_extract, bs_size, List.take_length]
end Go.Proofs.Ytoenhagbgfkihaa.A
