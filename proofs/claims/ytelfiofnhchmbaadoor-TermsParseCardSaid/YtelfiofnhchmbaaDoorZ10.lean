-- By pack.py, a program of this session's: declarations of this seat's texts, put together for a claim.
import Derived.Test.YtelfiofnhchmbaaDoorZ9
namespace Go.Proofs.YtelfiofnhchmbaaDoor.B
open Go.Lib Go.RowKit Go.Proofs.YtelfiofnhchmbaaDoorW.PrintWords
theorem dval_nil : dval [] = 0 := rfl
end Go.Proofs.YtelfiofnhchmbaaDoor.B
namespace Go.Proofs.YtelfiofnhchmbaaDoor.A
open Go.RowKit Go.Proofs.YtelfiofnhchmbaaDoor.B Go.Proofs.YtelfiofnhchmbaaDoorW.PrintWords Go.Proofs.YtelfiofnhchmbaaDoorW.PrintLast Go.Proofs.YtelfiofnhchmbaaDoorW.PrintMore
theorem parseL_eq (l : List UInt8) (lo hi : Int) : parseL l lo hi = (if formedM (magOf l) (negOf l) = true then (if I64 (sgn (negOf l) (dval (magOf l))) ∧ lo ≤ sgn (negOf l) (dval (magOf l)) ∧ sgn (negOf l) (dval (magOf l)) ≤ hi then (sgn (negOf l) (dval (magOf l)), 0) else (0, 3)) else (0, 5)) := rfl
theorem dval_snoc_digit (l : List UInt8) (d : Nat) (h : d < 10) : dval (l ++ [UInt8.ofNat (48 + d)]) = 10 * dval l + d := by
  rw [dval_snoc]
  have : (UInt8.ofNat (48 + d)).toNat = 48 + d := by rw [UInt8.toNat_ofNat']; omega
  omega
theorem isDig_ofNat (d : Nat) (h : d < 10) : isDig (UInt8.ofNat (48 + d)) = true := by
  rw [isDig_iff, UInt8.toNat_ofNat']; omega
theorem decDigits_spec (u : Nat) : dval (Lib.decDigits u) = u ∧ (Lib.decDigits u).all isDig = true ∧ Lib.decDigits u ≠ [] ∧ ((Lib.decDigits u).head? = some 48 → u = 0 ∧ (Lib.decDigits u).length = 1) := by
  induction u using Nat.strongRecOn with
  | _ u ih =>
    by_cases h : u < 10
    · rw [Lib.decDigits_one h]
      refine ⟨?_, ?_, by simp, ?_⟩
      · have := dval_snoc_digit [] u h
        simpa [dval_nil] using this
      · rw [List.all_cons, isDig_ofNat u h]; rfl
      · intro hh
        simp only [List.head?_cons, Option.some_inj] at hh
        have h2 := congrArg UInt8.toNat hh
        rw [UInt8.toNat_ofNat'] at h2
        have : (48 : UInt8).toNat = 48 := rfl
        refine ⟨by omega, rfl⟩
    · obtain ⟨h1, h2, h3, h4⟩ := ih (u / 10) (by omega)
      rw [Lib.decDigits, dif_neg h]
      refine ⟨?_, ?_, by simp, ?_⟩
      · rw [dval_snoc_digit _ _ (by omega), h1]; omega
      · rw [List.all_append, h2, List.all_cons, isDig_ofNat (u % 10) (by omega)]; rfl
      · intro hh
        cases hl : Lib.decDigits (u / 10) with
        | nil => exact absurd hl h3
        | cons c r =>
          rw [hl] at hh h4
          have := (h4 hh).1
          omega
theorem decDigits_not_minus (u : Nat) : negOf (Lib.decDigits u) = false := by
  obtain ⟨_, h2, h3, _⟩ := decDigits_spec u
  cases hl : Lib.decDigits u with
  | nil => rfl
  | cons c r =>
    rw [hl, List.all_cons, Bool.and_eq_true] at h2
    have := (isDig_iff c).mp h2.1
    unfold negOf
    rw [List.head?_cons, beq_eq_false_iff_ne]
    intro h
    injection h with h
    subst h
    have : ((45 : UInt8).toNat : Int) = 45 := rfl
    omega
theorem parse_itoa (n lo hi : Int) (h : I64 n) (hl : lo ≤ n) (hh : n ≤ hi) : parseL (Lib.itoa n) lo hi = (n, 0) := by
  rw [parseL_eq]
  obtain ⟨h1, h2, h3, h4⟩ := decDigits_spec n.natAbs
  by_cases h0 : n < 0
  · rw [itoa_neg' h0]
    have hn : negOf (45 :: Lib.decDigits n.natAbs) = true := rfl
    have hm : magOf (45 :: Lib.decDigits n.natAbs) = Lib.decDigits n.natAbs := by simp [magOf, hn]
    have hf : formedM (Lib.decDigits n.natAbs) true = true := by
      unfold formedM
      rw [h2, Bool.and_true, Bool.and_eq_true]
      refine ⟨by simpa using h3, ?_⟩
      rw [Bool.true_or, Bool.and_true, Bool.not_eq_true', beq_eq_false_iff_ne]
      intro hh2
      have := (h4 hh2).1
      omega
    have hv : sgn true (dval (Lib.decDigits n.natAbs)) = n := by rw [h1]; simp [sgn]; omega
    rw [hm, hn, hf, hv, if_pos rfl, if_pos ⟨h, hl, hh⟩]
  · rw [itoa_pos h0]
    have hn := decDigits_not_minus n.natAbs
    have hm : magOf (Lib.decDigits n.natAbs) = Lib.decDigits n.natAbs := by simp [magOf, hn]
    have hf : formedM (Lib.decDigits n.natAbs) false = true := by
      unfold formedM
      rw [h2, Bool.and_true, Bool.and_eq_true]
      refine ⟨by simpa using h3, ?_⟩
      rw [Bool.false_or, Bool.not_eq_true', Bool.and_eq_false_iff]
      by_cases hh2 : (Lib.decDigits n.natAbs).head? = some 48
      · right
        rw [(h4 hh2).2]; rfl
      · left
        rw [beq_eq_false_iff_ne]; exact hh2
    have hv : sgn false (dval (Lib.decDigits n.natAbs)) = n := by rw [h1]; simp [sgn]; omega
    rw [hm, hn, hf, hv, if_pos rfl, if_pos ⟨h, hl, hh⟩]
theorem num_Parse_at (s : ByteArray) (lo hi : Int) (hs : s.size ≤ 140737488351232) : num_Parse.f s lo hi = some (parseL s.data.toList lo hi) := by
  unfold num_Parse.f; rw [if_pos hs]
end Go.Proofs.YtelfiofnhchmbaaDoor.A
namespace Go.Proofs.YtelfiofnhchmbaaDoor.B
open Go.Deep Go.ChangeShapes Go.WideShapes Go.ChangeAt Go.Joins Go.Proofs.YtelfiofnhchmbaaDoorW.PrintWords
theorem Opens.string {P : Program} {t : TypeId} (ht : P.underlying t = some .string) (hc : P.cellsOf t = 1) : Opens P t Kd.string (fun s => s.size ≤ 140737488351232) where
  size := hc
  get h hw := by
    obtain ⟨x, rfl, rfl, _⟩ := DataW.trod_string ht h
    refine ⟨x, rfl, ?_⟩
    have := hw x.data.toList.length (by simp [DataW.weights])
    rw [data_length] at this
    exact this
end Go.Proofs.YtelfiofnhchmbaaDoor.B
namespace Go.Proofs.YtelfiofnhchmbaaDoor.A
open Go.RowKit Go.Proofs.YtelfiofnhchmbaaDoor.B Go.Proofs.YtelfiofnhchmbaaDoorW.PrintWords Go.Proofs.YtelfiofnhchmbaaDoorW.PrintLast Go.Proofs.YtelfiofnhchmbaaDoorW.PrintMore
set_option linter.unusedVariables false
set_option linter.unusedSimpArgs false
def nv (l : List Nat) : Nat := l.foldl (fun a d => 10 * a + d) 0
theorem nv_from (l : List Nat) : ∀ a, l.foldl (fun a d => 10 * a + d) a = a * 10 ^ l.length + nv l := by
  induction l with
  | nil => intro a; simp [nv]
  | cons x l ih =>
    intro a
    unfold nv
    rw [List.foldl_cons, List.foldl_cons, ih, ih (10 * 0 + x), List.length_cons, Nat.pow_succ, Nat.add_mul, Nat.mul_zero, Nat.zero_add, Nat.add_assoc, Nat.mul_comm 10 a, Nat.mul_assoc, Nat.mul_comm 10]
theorem nv_nil : nv [] = 0 := rfl
theorem nv_cons (x : Nat) (l : List Nat) : nv (x :: l) = x * 10 ^ l.length + nv l := by
  show (x :: l).foldl _ 0 = _
  rw [List.foldl_cons, nv_from]; congr 2; omega
theorem nv_append (l m : List Nat) : nv (l ++ m) = nv l * 10 ^ m.length + nv m := by
  unfold nv; rw [List.foldl_append]; exact nv_from m _
theorem nv_snoc (l : List Nat) (d : Nat) : nv (l ++ [d]) = 10 * nv l + d := by
  rw [nv_append]; simp [nv]; omega
def Digs (l : List Nat) : Prop := ∀ d ∈ l, d < 10
theorem Digs.cons {x : Nat} {l : List Nat} (h : Digs (x :: l)) : x < 10 ∧ Digs l := ⟨h x (List.mem_cons_self ..), fun d hd => h d (List.mem_cons_of_mem _ hd)⟩
theorem Digs.mk {x : Nat} {l : List Nat} (h : x < 10) (h' : Digs l) : Digs (x :: l) := fun d hd => by
  rcases List.mem_cons.mp hd with rfl | hd
  · exact h
  · exact h' d hd
theorem Digs.append {l m : List Nat} (h : Digs l) (h' : Digs m) : Digs (l ++ m) := fun d hd => by
  rcases List.mem_append.mp hd with hd | hd
  · exact h d hd
  · exact h' d hd
theorem Digs.nil : Digs [] := fun d hd => by cases hd
theorem nv_lt {l : List Nat} (h : Digs l) : nv l < 10 ^ l.length := by
  induction l with
  | nil => exact Nat.one_pos
  | cons x l ih =>
    obtain ⟨h1, h2⟩ := h.cons
    have h3 := ih h2
    rw [nv_cons, List.length_cons, Nat.pow_succ]
    have h4 : x * 10 ^ l.length + 10 ^ l.length ≤ 10 * 10 ^ l.length := by
      have : (x + 1) * 10 ^ l.length ≤ 10 * 10 ^ l.length := Nat.mul_le_mul_right _ h1
      rw [Nat.add_mul, Nat.one_mul] at this; exact this
    rw [Nat.mul_comm (10 ^ l.length) 10]
    omega
def tr : List Nat → List Nat
  | [] => []
  | 0 :: l => tr l
  | (n + 1) :: l => (n + 1) :: l
theorem tr_cons (d : Nat) (l : List Nat) : tr (d :: l) = if d = 0 then tr l else d :: l := by
  cases d <;> rfl
theorem nv_tr (l : List Nat) : nv (tr l) = nv l := by
  induction l with
  | nil => rfl
  | cons x l ih =>
    rw [tr_cons]
    split
    · rename_i h; subst h; rw [ih, nv_cons, Nat.zero_mul, Nat.zero_add]
    · rfl
theorem Digs.tr {l : List Nat} (h : Digs l) : Digs (tr l) := by
  induction l with
  | nil => exact h
  | cons x l ih =>
    rw [tr_cons]
    split
    · exact ih h.cons.2
    · exact h
def Trim (l : List Nat) : Prop := ∀ x l', l = x :: l' → x ≠ 0
theorem trim_tr (l : List Nat) : Trim (tr l) := by
  induction l with
  | nil => intro x l' h; cases h
  | cons x l ih =>
    rw [tr_cons]
    split
    · exact ih
    · rename_i h0; intro y l' h; obtain ⟨rfl, rfl⟩ := List.cons.inj h; exact h0
theorem Trim.nil : Trim [] := fun x l' h => by cases h
theorem trim_ge {l : List Nat} (h : Trim l) (h0 : l ≠ []) : 10 ^ (l.length - 1) ≤ nv l := by
  cases l with
  | nil => exact absurd rfl h0
  | cons x l =>
    have hx := h x l rfl
    rw [nv_cons, List.length_cons, Nat.add_sub_cancel]
    exact Nat.le_trans (Nat.le_mul_of_pos_left _ (by omega)) (Nat.le_add_right _ _)
theorem pow10_mono {m n : Nat} (h : m ≤ n) : 10 ^ m ≤ 10 ^ n := Nat.pow_le_pow_right (by decide) h
theorem trim_shorter {a b : List Nat} (hb : Trim b) (da : Digs a) (h : a.length < b.length) : nv a < nv b := by
  have h1 := nv_lt da
  have h2 := trim_ge hb (by intro h0; subst h0; simp at h)
  have h3 : 10 ^ a.length ≤ 10 ^ (b.length - 1) := pow10_mono (by omega)
  omega
def lexN : List Nat → List Nat → Bool
  | _, [] => false
  | [], _ :: _ => true
  | a :: x, b :: y => decide (a < b) || (a == b && lexN x y)
theorem lexN_iff : ∀ {a b : List Nat}, Digs a → Digs b → a.length = b.length → (lexN a b = true ↔ nv a < nv b)
  | [], [], _, _, _ => by simp [lexN, nv]
  | x :: a, y :: b, ha, hb, h => by
    obtain ⟨hx, ha⟩ := ha.cons
    obtain ⟨hy, hb⟩ := hb.cons
    have hl : a.length = b.length := by simpa using h
    have ih := lexN_iff ha hb hl
    have h1 := nv_lt ha
    have h2 := nv_lt hb
    rw [nv_cons, nv_cons, hl]
    rw [hl] at h1
    unfold lexN
    rw [Bool.or_eq_true, Bool.and_eq_true, decide_eq_true_iff, beq_iff_eq, ih]
    generalize 10 ^ b.length = P at *
    constructor
    · rintro (h | ⟨rfl, h⟩)
      · have : (x + 1) * P ≤ y * P := Nat.mul_le_mul_right _ h
        rw [Nat.add_mul, Nat.one_mul] at this; omega
      · omega
    · intro h
      by_cases hxy : x < y
      · exact .inl hxy
      · refine .inr ?_
        by_cases hyx : y < x
        · have : (y + 1) * P ≤ x * P := Nat.mul_le_mul_right _ hyx
          rw [Nat.add_mul, Nat.one_mul] at this; omega
        · obtain rfl : x = y := by omega
          exact ⟨rfl, by omega⟩
  | [], _ :: _, _, _, h => by simp at h
  | _ :: _, [], _, _, h => by simp at h
def lessN (a b : List Nat) : Bool := if a.length = b.length then lexN a b else decide (a.length < b.length)
theorem lessN_eq {a b : List Nat} (da : Digs a) (db : Digs b) (ta : Trim a) (tb : Trim b) : lessN a b = decide (nv a < nv b) := by
  unfold lessN
  by_cases h : a.length = b.length
  · rw [if_pos h, Bool.eq_iff_iff, lexN_iff da db h, decide_eq_true_iff]
  · rw [if_neg h, Bool.eq_iff_iff, decide_eq_true_iff, decide_eq_true_iff]
    constructor
    · exact trim_shorter tb da
    · intro h1
      rcases Nat.lt_or_gt_of_ne h with h2 | h2
      · exact h2
      · have := trim_shorter ta db h2; omega
theorem nv_inj_len : ∀ {a b : List Nat}, Digs a → Digs b → a.length = b.length → nv a = nv b → a = b
  | [], [], _, _, _, _ => rfl
  | x :: a, y :: b, ha, hb, h, he => by
    obtain ⟨hx, ha⟩ := ha.cons
    obtain ⟨hy, hb⟩ := hb.cons
    have hl : a.length = b.length := by simpa using h
    have h1 := nv_lt ha
    have h2 := nv_lt hb
    rw [nv_cons, nv_cons, hl] at he
    rw [hl] at h1
    obtain ⟨P, hP⟩ : ∃ P, 10 ^ b.length = P := ⟨_, rfl⟩
    rw [hP] at he h1 h2
    have hxy : x = y := by
      rcases Nat.lt_trichotomy x y with h3 | h3 | h3
      · have : (x + 1) * P ≤ y * P := Nat.mul_le_mul_right _ h3
        rw [Nat.add_mul, Nat.one_mul] at this; omega
      · exact h3
      · have : (y + 1) * P ≤ x * P := Nat.mul_le_mul_right _ h3
        rw [Nat.add_mul, Nat.one_mul] at this; omega
    have e := nv_inj_len ha hb hl (by rw [hxy] at he; omega)
    rw [hxy, e]
  | [], _ :: _, _, _, h, _ => by simp at h
  | _ :: _, [], _, _, h, _ => by simp at h
theorem nv_inj {a b : List Nat} (da : Digs a) (db : Digs b) (ta : Trim a) (tb : Trim b) (h : nv a = nv b) : a = b := by
  rcases Nat.lt_trichotomy a.length b.length with h1 | h1 | h1
  · have := trim_shorter tb da h1; omega
  · exact nv_inj_len da db h1 h
  · have := trim_shorter ta db h1; omega
def dg (n : Nat) : List Nat := if h : n = 0 then [] else dg (n / 10) ++ [n % 10]
termination_by n
decreasing_by omega
theorem dg_zero : dg 0 = [] := by rw [dg]; rfl
theorem dg_pos {n : Nat} (h : n ≠ 0) : dg n = dg (n / 10) ++ [n % 10] := by rw [dg, dif_neg h]
theorem dg_spec (n : Nat) : nv (dg n) = n ∧ Digs (dg n) ∧ Trim (dg n) := by
  induction n using Nat.strongRecOn with
  | ind n ih =>
    by_cases h : n = 0
    · subst h; rw [dg_zero]; exact ⟨rfl, Digs.nil, Trim.nil⟩
    · obtain ⟨h1, h2, h3⟩ := ih (n / 10) (by omega)
      rw [dg_pos h]
      refine ⟨by rw [nv_snoc, h1]; omega, h2.append (Digs.mk (by omega) Digs.nil), ?_⟩
      intro x l' e
      cases hd : dg (n / 10) with
      | nil =>
        rw [hd] at e h1
        simp only [List.nil_append, List.cons.injEq] at e
        rw [← e.1]
        rw [nv_nil] at h1
        omega
      | cons y m =>
        rw [hd, List.cons_append] at e
        rw [← (List.cons.inj e).1]
        exact h3 y m hd
theorem nv_dg (n : Nat) : nv (dg n) = n := (dg_spec n).1
theorem digs_dg (n : Nat) : Digs (dg n) := (dg_spec n).2.1
theorem trim_dg (n : Nat) : Trim (dg n) := (dg_spec n).2.2
theorem tr_eq_dg {l : List Nat} (h : Digs l) : tr l = dg (nv l) :=
  nv_inj h.tr (digs_dg _) (trim_tr l) (trim_dg _) (by rw [nv_tr, nv_dg])
theorem dg_nil_iff (n : Nat) : dg n = [] ↔ n = 0 := by
  constructor
  · intro h; have := nv_dg n; rw [h] at this; exact this.symm
  · intro h; subst h; exact dg_zero
theorem lessN_dg (a b : Nat) : lessN (dg a) (dg b) = decide (a < b) := by
  rw [lessN_eq (digs_dg a) (digs_dg b) (trim_dg a) (trim_dg b), nv_dg, nv_dg]
theorem dg_length_le (n k : Nat) (h : n < 10 ^ k) : (dg n).length ≤ k := by
  rcases Nat.lt_or_ge k (dg n).length with h1 | h1
  · have h2 := trim_ge (trim_dg n) (by intro h0; rw [h0] at h1; simp at h1)
    rw [nv_dg] at h2
    have h3 : 10 ^ k ≤ 10 ^ ((dg n).length - 1) := pow10_mono (by omega)
    omega
  · exact h1
theorem nv_drop_last (l : List Nat) (j : Nat) (hj : j < l.length) : nv (l.drop (l.length - (j + 1))) = l.getD (l.length - 1 - j) 0 * 10 ^ j + nv (l.drop (l.length - j)) := by
  have h1 : l.length - (j + 1) < l.length := by omega
  rw [List.drop_eq_getElem_cons h1, nv_cons, show l.length - (j + 1) + 1 = l.length - j by omega, List.length_drop, show l.length - (l.length - j) = j by omega]
  congr 2
  rw [List.getD_eq_getElem?_getD, show l.length - 1 - j = l.length - (j + 1) by omega, List.getElem?_eq_getElem h1]; rfl
def bsL (l : List Nat) : List UInt8 := l.map (fun (d : Nat) => UInt8.ofNat (48 + d))
theorem bsL_length (l : List Nat) : (bsL l).length = l.length := by unfold bsL; rw [List.length_map]
theorem ba_eq {s t : ByteArray} (h : s.data.toList = t.data.toList) : s = t := by
  cases s; cases t; congr 1; exact Array.toList_inj.mp h
theorem ext_list (s : ByteArray) (a b : Nat) : (s.extract a b).data.toList = (s.data.toList.take b).drop a := by
  rw [ByteArray.data_extract, Array.toList_extract, List.extract_eq_take_drop, List.take_drop, List.drop_take]
  rcases Nat.le_total a b with h | h
  · rw [show a + (b - a) = b by omega]; rw [List.drop_take]
  · rw [show b - a = 0 by omega]; simp; omega
def im (l : List Nat) : List Int := l.map (fun (d : Nat) => (d : Int))
theorem im_length (l : List Nat) : (im l).length = l.length := by unfold im; rw [List.length_map]
theorem im_append (l m : List Nat) : im (l ++ m) = im l ++ im m := by unfold im; rw [List.map_append]
theorem im_drop (l : List Nat) (n : Nat) : (im l).drop n = im (l.drop n) := by unfold im; rw [List.map_drop]
theorem im_set (l : List Nat) (n v : Nat) : (im l).set n (v : Int) = im (l.set n v) := by unfold im; rw [List.map_set]
theorem rd_im (l : List Nat) (i : Nat) : rd (im l) (i : Int) = ((l.getD i 0 : Nat) : Int) := by
  unfold rd im
  rw [Int.toNat_natCast, List.getD_eq_getElem?_getD, List.getD_eq_getElem?_getD, List.getElem?_map]
  cases l[i]? <;> rfl
theorem ftrim_ev (l : List Nat) : Ev (fun k => frac_digits_trim.f k (im l)) (im (tr l)) := by
  unfold frac_digits_trim.f
  induction l with
  | nil =>
    refine Ev.step (fun k => by rw [frac_digits_trim.l0]) ?_
    exact Ev.no (by rw [im_length]; decide) (Ev.is rfl)
  | cons x l ih =>
    refine Ev.step (fun k => by rw [frac_digits_trim.l0]) (Ev.yes (by rw [im_length, List.length_cons]; omega) (Ev.yes (by rw [im_length, List.length_cons]; omega) ?_))
    have e : rd (im (x :: l)) 0 = (x : Int) := by have := rd_im (x :: l) 0; simpa using this
    rw [e, tr_cons]
    refine Ev.both (fun h => Ev.yes (by rw [im_length, List.length_cons]; omega) ?_) (fun h => Ev.is (by rw [if_neg (by omega)]))
    rw [if_pos (by omega), im_drop]
    exact ih
theorem ofNat_lt {x y : Nat} (hx : x < 256) (hy : y < 256) : (UInt8.ofNat x < UInt8.ofNat y) ↔ x < y := by
  rw [UInt8.lt_iff_toNat_lt, UInt8.toNat_ofNat', UInt8.toNat_ofNat', Nat.mod_eq_of_lt hx, Nat.mod_eq_of_lt hy]
theorem ofNat_eq {x y : Nat} (hx : x < 256) (hy : y < 256) : (UInt8.ofNat x = UInt8.ofNat y) ↔ x = y := by
  constructor
  · intro h
    have := congrArg UInt8.toNat h
    rwa [UInt8.toNat_ofNat', UInt8.toNat_ofNat', Nat.mod_eq_of_lt hx, Nat.mod_eq_of_lt hy] at this
  · intro h; rw [h]
theorem bytesLess_lex (c : Nat) (hc : c ≤ 100) : ∀ a b : List Nat, Digs a → Digs b → Op.bytesLess (a.map fun d => UInt8.ofNat (c + d)) (b.map fun d => UInt8.ofNat (c + d)) = lexN a b
  | [], [], _, _ => rfl
  | _ :: _, [], _, _ => rfl
  | [], _ :: _, _, _ => rfl
  | x :: a, y :: b, ha, hb => by
    obtain ⟨hx, ha⟩ := ha.cons
    obtain ⟨hy, hb⟩ := hb.cons
    simp only [List.map_cons, Op.bytesLess, lexN]
    rw [bytesLess_lex c hc a b ha hb]
    have e1 : decide (UInt8.ofNat (c + x) < UInt8.ofNat (c + y)) = decide (x < y) := by rw [decide_eq_decide, ofNat_lt (by omega) (by omega)]; omega
    have e2 : (UInt8.ofNat (c + x) == UInt8.ofNat (c + y)) = (x == y) := by rw [Bool.eq_iff_iff, beq_iff_eq, beq_iff_eq, ofNat_eq (by omega) (by omega)]; omega
    rw [e1, e2]
theorem strOf_im (l : List Nat) : (strOfNums (im l)).toList = l.map fun d => UInt8.ofNat (0 + d) := by
  rw [ByteArray.toList_eq]
  unfold strOfNums im
  rw [List.map_map]
  apply List.map_congr_left
  intro d _
  show UInt8.ofNat (d : Int).toNat = _
  rw [Int.toNat_natCast, Nat.zero_add]
theorem fless_eq (a b : List Nat) (da : Digs a) (db : Digs b) : frac_digits_less.f (im a) (im b) = some (lessN a b) := by
  unfold frac_digits_less.f lessN
  rw [im_length, im_length, strOf_im, strOf_im, bytesLess_lex 0 (by omega) a b da db]
  by_cases h : a.length = b.length
  · rw [if_pos (by omega), if_pos h]
  · rw [if_neg (by omega), if_neg h, Option.some.injEq, decide_eq_decide]; omega
theorem Digs.set {l : List Nat} (h : Digs l) (i v : Nat) (hv : v < 10) : Digs (l.set i v) := fun d hd => by
  rcases List.mem_or_eq_of_mem_set hd with hd | rfl
  · exact h d hd
  · exact hv
theorem Digs.getD {l : List Nat} (h : Digs l) (i : Nat) : l.getD i 0 < 10 := by
  rw [List.getD_eq_getElem?_getD]
  cases e : l[i]? with
  | none => decide
  | some x => exact h x (List.mem_of_getElem? e)
theorem place (n m j : Nat) (a b o : List Nat) (ha : a.length = n) (ho : o.length = n) (hb : b.length = m) (hj : j < n) (br br' dig : Nat) (x : Nat) (hx : x = if j < m then b.getD (m - 1 - j) 0 else 0)
    (h : nv (a.drop (n - j)) + br * 10 ^ j = nv (b.drop (m - j)) + nv (o.drop (n - j))) (hd : a.getD (n - 1 - j) 0 + 10 * br' = x + dig + br) :
    nv (a.drop (n - (j + 1))) + br' * 10 ^ (j + 1) = nv (b.drop (m - (j + 1))) + nv ((o.set (n - 1 - j) dig).drop (n - (j + 1))) := by
  have h1 := nv_drop_last a j (by omega)
  have h2 := nv_drop_last (o.set (n - 1 - j) dig) j (by rw [List.length_set]; omega)
  rw [List.length_set, ho] at h2
  rw [ha] at h1
  have e1 : (o.set (n - 1 - j) dig).getD (n - 1 - j) 0 = dig := by
    rw [List.getD_eq_getElem?_getD, List.getElem?_set_self (by omega)]; rfl
  have e2 : (o.set (n - 1 - j) dig).drop (n - j) = o.drop (n - j) := by
    rw [List.drop_set, if_pos (by omega)]
  rw [e1, e2] at h2
  have h3 : nv (b.drop (m - (j + 1))) = x * 10 ^ j + nv (b.drop (m - j)) := by
    by_cases hjm : j < m
    · rw [hx, if_pos hjm]
      have := nv_drop_last b j (by omega)
      rw [hb] at this; exact this
    · rw [hx, if_neg hjm, show m - (j + 1) = 0 by omega, show m - j = 0 by omega, Nat.zero_mul, Nat.zero_add]
  rw [h1, h2, h3, Nat.pow_succ]
  generalize 10 ^ j = P at *
  generalize a.getD (n - 1 - j) 0 = u at *
  generalize nv (a.drop (n - j)) = A at *
  generalize nv (b.drop (m - j)) = B at *
  generalize nv (o.drop (n - j)) = O at *
  have e3 : (u + 10 * br') * P = (x + dig + br) * P := by rw [hd]
  have e4 : u * P + br' * (P * 10) = x * P + dig * P + br * P := by
    rw [← Nat.add_mul, ← Nat.add_mul, ← e3, Nat.add_mul]; congr 1; rw [Nat.mul_comm P 10, ← Nat.mul_assoc, Nat.mul_comm br' 10]
  omega
theorem sub_end {n br : Nat} {a b o : List Nat} (ha : a.length = n) (ho : o.length = n) (hb : b.length ≤ n) (do_ : Digs o) (hle : nv b ≤ nv a)
    (h : nv (a.drop (n - n)) + br * 10 ^ n = nv (b.drop (b.length - n)) + nv (o.drop (n - n))) : nv o = nv a - nv b := by
  rw [Nat.sub_self, show b.length - n = 0 by omega, List.drop_zero, List.drop_zero, List.drop_zero] at h
  have h1 := nv_lt do_
  rw [ho] at h1
  rcases Nat.eq_zero_or_pos br with h0 | h0
  · subst h0; omega
  · have : 1 * 10 ^ n ≤ br * 10 ^ n := Nat.mul_le_mul_right _ h0
    omega
theorem w_in {x : Int} (h : -9000000000000000000 ≤ x ∧ x ≤ 9000000000000000000) : wrap64 x = x := by unfold wrap64; omega
theorem w_at (n j : Nat) (h : j < n) (hn : n ≤ 1000000) : wrap64 (wrap64 ((n : Int) - 1) - (j : Int)) = ((n - 1 - j : Nat) : Int) := by
  rw [w_in (x := (n : Int) - 1) (by omega), w_in (by omega)]; omega
theorem w_dig (u v br : Nat) (hu : u < 10) (hv : v < 10) (hb : br ≤ 1) : wrap64 (wrap64 (wrap64 (u : Int) - (br : Int)) - wrap64 (v : Int)) = (u : Int) - br - v := by
  rw [w_in (x := (u : Int)) (by omega), w_in (x := (v : Int)) (by omega), w_in (x := (u : Int) - br) (by omega), w_in (by omega)]
theorem w_dig0 (u br : Nat) (hu : u < 10) (hb : br ≤ 1) : wrap64 (wrap64 (u : Int) - (br : Int)) = (u : Int) - br := by
  rw [w_in (x := (u : Int)) (by omega), w_in (by omega)]
theorem w_ten (x : Int) (h : -20 ≤ x ∧ x < 0) (k : Nat) (hk : (k : Int) = x + 10) (hk' : k < 10) : wrap64 (x + 10) % 256 = (k : Int) := by
  rw [w_in (by omega)]; omega
theorem w_next (j : Nat) (h : j ≤ 1000000) : wrap64 ((j : Int) + 1) = ((j + 1 : Nat) : Int) := by rw [w_in (by omega)]; omega
theorem fminus_l0 (a b : List Nat) (n m : Nat) (ha : a.length = n) (hb : b.length = m) (hn : n ≤ 1000000) (hm : m ≤ n) (da : Digs a) (db : Digs b) (hle : nv b ≤ nv a) (d : Nat) : ∀ (j : Nat) (o : List Nat) (br : Nat), j + d = n → o.length = n → br ≤ 1 → Digs o →
    nv (a.drop (n - j)) + br * 10 ^ j = nv (b.drop (m - j)) + nv (o.drop (n - j)) →
    Ev (fun k => frac_digits_minus.l0 k (im a) (im b) (im o) (br : Int) (n : Int) (j : Int)) (im (dg (nv a - nv b))) := by
  induction d with
  | zero =>
    intro j o br hj ho hbr dO h
    obtain rfl : j = n := by omega
    refine Ev.step (fun k => by rw [frac_digits_minus.l0]) (Ev.no (by omega) (Ev.bind (ftrim_ev o) (Ev.is ?_)))
    rw [tr_eq_dg dO, sub_end ha ho (by omega) dO hle (by rw [hb]; exact h)]
  | succ d ih =>
    intro j o br hj ho hbr dO h
    have Hh := Aside0.mk h
    clear h
    have hja : j < n := by omega
    have ra : rd (im a) ((n - 1 - j : Nat) : Int) = ((a.getD (n - 1 - j) 0 : Nat) : Int) := rd_im _ _
    have la := da.getD (n - 1 - j)
    have lb := db.getD (m - 1 - j)
    have hj9 : j ≤ 1000000 := by omega
    have fin : ∀ (x dig br' : Nat), (x = if j < m then b.getD (m - 1 - j) 0 else 0) → dig < 10 → br' ≤ 1 → a.getD (n - 1 - j) 0 + 10 * br' = x + dig + br →
        Ev (fun k => frac_digits_minus.l0 k (im a) (im b) ((im o).set (n - 1 - j) (dig : Int)) (br' : Int) (n : Int) ((j + 1 : Nat) : Int)) (im (dg (nv a - nv b))) := by
      intro x dig br' hx hdig hbr' he
      rw [im_set]
      exact ih (j + 1) (o.set (n - 1 - j) dig) br' (by omega) (by rw [List.length_set]; exact ho) hbr' (dO.set _ _ hdig) (place n m j a b o ha ho hb hja br br' dig x hx Hh.out he)
    refine Ev.step (fun k => by rw [frac_digits_minus.l0]) (Ev.yes (by omega) ?_)
    rw [im_length, im_length, im_length, ha, hb, ho, w_at n j hja hn, w_next j hj9, ra, Int.toNat_natCast]
    refine Ev.yes (by omega) (Ev.yes (by omega) ?_)
    generalize hga : a.getD (n - 1 - j) 0 = u at *
    by_cases hjm : j < m
    · have hm9 : m ≤ 1000000 := by omega
      have rb : rd (im b) ((m - 1 - j : Nat) : Int) = ((b.getD (m - 1 - j) 0 : Nat) : Int) := rd_im _ _
      generalize b.getD (m - 1 - j) 0 = v at *
      refine Ev.yes (by omega) ?_
      rw [w_at m j hjm hm9, rb]
      refine Ev.yes (by omega) (Ev.yes (by omega) ?_)
      rw [w_dig u v br la lb hbr]
      refine Ev.both (fun hneg => Ev.yes (by omega) ?_) (fun hpos => Ev.yes (by omega) ?_)
      · rw [w_ten ((u : Int) - br - v) (by omega) (u + 10 - br - v) (by omega) (by omega)]
        exact fin v (u + 10 - br - v) 1 (by rw [if_pos hjm]) (by omega) (by omega) (by omega)
      · have w4 : ((u : Int) - br - v) % 256 = ((u - br - v : Nat) : Int) := by omega
        rw [w4]
        exact fin v (u - br - v) 0 (by rw [if_pos hjm]) (by omega) (by omega) (by omega)
    · refine Ev.no (by omega) ?_
      rw [w_dig0 u br la hbr]
      refine Ev.both (fun hneg => Ev.yes (by omega) ?_) (fun hpos => Ev.yes (by omega) ?_)
      · rw [w_ten ((u : Int) - br) (by omega) (u + 10 - br) (by omega) (by omega)]
        exact fin 0 (u + 10 - br) 1 (by rw [if_neg hjm]) (by omega) (by omega) (by omega)
      · have w4 : ((u : Int) - br) % 256 = ((u - br : Nat) : Int) := by omega
        rw [w4]
        exact fin 0 (u - br) 0 (by rw [if_neg hjm]) (by omega) (by omega) (by omega)
theorem Digs.replicate (n : Nat) : Digs (List.replicate n 0) := fun d hd => by rw [List.mem_replicate] at hd; omega
theorem dg_le_length {a b : Nat} (h : a ≤ b) : (dg a).length ≤ (dg b).length := by
  have h1 := nv_lt (digs_dg b)
  rw [nv_dg] at h1
  exact dg_length_le a _ (by omega)
theorem fminus_ev (a b : Nat) (hle : b ≤ a) (hn : (dg a).length ≤ 1000000) : Ev (fun k => frac_digits_minus.f k (im (dg a)) (im (dg b))) (im (dg (a - b))) := by
  unfold frac_digits_minus.f
  have hm := dg_le_length hle
  rw [im_length]
  refine Ev.yes (by omega) (Ev.yes (by omega) ?_)
  rw [Int.toNat_natCast, show List.replicate (dg a).length (0 : Int) = im (List.replicate (dg a).length 0) by unfold im; rw [List.map_replicate]; rfl]
  have := fminus_l0 (dg a) (dg b) _ _ rfl rfl hn hm (digs_dg a) (digs_dg b) (by rw [nv_dg, nv_dg]; exact hle) (dg a).length 0 (List.replicate (dg a).length 0) 0 (by omega) List.length_replicate (by omega) (Digs.replicate _) (by
    rw [Nat.sub_zero, List.drop_length, Nat.sub_zero, List.drop_length, show (List.replicate (dg a).length 0).drop (dg a).length = [] by
      apply List.drop_eq_nil_of_le; rw [List.length_replicate]; exact Nat.le_refl _]; rfl)
  rw [nv_dg, nv_dg] at this
  exact this
theorem w_q (q : Nat) (h : q ≤ 100000000) : wrap64 ((q : Int) + 1) = ((q + 1 : Nat) : Int) := by rw [w_in (by omega)]; omega
theorem w_by10 (q : Nat) (h : q ≤ 1000000) : wrap64 ((q : Int) * 10) = ((10 * q : Nat) : Int) := by rw [w_in (by omega)]; omega
theorem fdiv_l1 (b : Nat) (hb : 0 < b) (hlb : (dg b).length ≤ 1000) (L : List Int) (n i : Int) (res : Int × List Int × Bool) (t : Nat) : ∀ (R q : Nat), R / b = t → R < 10 * b → q + t ≤ 100000000 →
    Ev (fun k => if ((q + t : Nat) : Int) > 1000000 then some (0, ([] : List Int), false) else frac_digits_div.l0 k (im (dg b)) ((q + t : Nat) : Int) (im (dg (R % b))) L n (wrap64 (i + 1))) res →
    Ev (fun k => frac_digits_div.l1 k (im (dg b)) (q : Int) (im (dg R)) L n i) res := by
  induction t with
  | zero =>
    intro R q ht hR hq h
    have hlt : R < b := by
      rcases Nat.lt_or_ge R b with h1 | h1
      · exact h1
      · have := Nat.div_pos h1 hb; omega
    refine Ev.step (fun k => by rw [frac_digits_div.l1]) ?_
    rw [fless_eq _ _ (digs_dg R) (digs_dg b), lessN_dg, decide_eq_true hlt]
    simp only [Option.bind_some, if_true]
    rw [Nat.mod_eq_of_lt hlt] at h
    exact h
  | succ t ih =>
    intro R q ht hR hq h
    have hge : b ≤ R := by
      rcases Nat.lt_or_ge R b with h1 | h1
      · rw [Nat.div_eq_of_lt h1] at ht; omega
      · exact h1
    have hRl : (dg R).length ≤ 1000000 := by
      have h1 := nv_lt (digs_dg b)
      rw [nv_dg] at h1
      have h2 : R < 10 ^ ((dg b).length + 1) := by rw [Nat.pow_succ]; omega
      have := dg_length_le R _ h2
      omega
    refine Ev.step (fun k => by rw [frac_digits_div.l1]) ?_
    rw [fless_eq _ _ (digs_dg R) (digs_dg b), lessN_dg, decide_eq_false (by omega)]
    simp only [Option.bind_some, Bool.false_eq_true, if_false]
    refine Ev.bind (fminus_ev R b hge hRl) ?_
    rw [w_q q (by omega)]
    have ht' : (R - b) / b = t := by
      have : R / b = (R - b) / b + 1 := by
        conv => lhs; rw [show R = (R - b) + b by omega]
        rw [Nat.add_div_right _ hb]
      omega
    refine ih (R - b) (q + 1) ht' (by omega) (by omega) ?_
    rw [show q + 1 + t = q + (t + 1) by omega, show (R - b) % b = R % b from (Nat.mod_eq_sub_mod hge).symm]
    exact h
theorem nv_take_le (l : List Nat) (i : Nat) : nv (l.take i) ≤ nv l := by
  conv => rhs; rw [← List.take_append_drop i l]
  rw [nv_append]
  exact Nat.le_trans (Nat.le_mul_of_pos_right _ (Nat.pow_pos (by decide))) (Nat.le_add_right _ _)
theorem step_div (P x b : Nat) (hb : 0 < b) : (10 * P + x) / b = 10 * (P / b) + (10 * (P % b) + x) / b ∧ (10 * P + x) % b = (10 * (P % b) + x) % b := by
  have h := Nat.div_add_mod P b
  have e : 10 * P + x = (10 * (P % b) + x) + b * (10 * (P / b)) := by
    have : b * (10 * (P / b)) = 10 * (b * (P / b)) := by rw [← Nat.mul_assoc, Nat.mul_comm b 10, Nat.mul_assoc]
    omega
  constructor
  · conv => lhs; rw [e]
    rw [Nat.add_mul_div_left _ _ hb, Nat.add_comm]
  · conv => lhs; rw [e]
    rw [Nat.add_mul_mod_self_left]
def fdivS (v b : Nat) : Int × List Int × Bool := if v / b ≤ 1000000 then (((v / b : Nat) : Int), im (dg (v % b)), true) else (0, [], false)
theorem fdiv_l0 (b : Nat) (hb : 0 < b) (hlb : (dg b).length ≤ 1000) (l : List Nat) (hl : l.length ≤ 1000000) (dl : Digs l) (d : Nat) : ∀ i : Nat, i + d = l.length → nv (l.take i) / b ≤ 1000000 →
    Ev (fun k => frac_digits_div.l0 k (im (dg b)) ((nv (l.take i) / b : Nat) : Int) (im (dg (nv (l.take i) % b))) (im l) (l.length : Int) (i : Int)) (fdivS (nv l) b) := by
  induction d with
  | zero =>
    intro i hi hq
    refine Ev.step (fun k => by rw [frac_digits_div.l0]) (Ev.no (by omega) (Ev.is ?_))
    rw [List.take_of_length_le (by omega)] at *
    unfold fdivS
    rw [if_pos hq]
  | succ d ih =>
    intro i hi hq
    have hil : i < l.length := by omega
    have htk : l.take (i + 1) = l.take i ++ [l.getD i 0] := by
      rw [List.take_succ_eq_append_getElem hil, List.getD_eq_getElem?_getD, List.getElem?_eq_getElem hil]; rfl
    have hx := dl.getD i
    have hrd : rd (im l) (i : Int) = ((l.getD i 0 : Nat) : Int) := rd_im l i
    have hmod : nv (l.take i) % b < b := Nat.mod_lt _ hb
    have hlen : (dg (nv (l.take i) % b)).length ≤ 1000 := Nat.le_trans (dg_le_length (by omega)) hlb
    have hsd := step_div (nv (l.take i)) (l.getD i 0) b hb
    rw [← nv_snoc, ← htk] at hsd
    have hmono := nv_take_le l (i + 1)
    generalize hP : nv (l.take i) = P at *
    generalize l.getD i 0 = x at *
    refine Ev.step (fun k => by rw [frac_digits_div.l0]) (Ev.yes (by omega) (Ev.yes (by omega) (Ev.yes (by rw [im_length]; omega) ?_)))
    rw [show wrap64 (((im (dg (P % b))).length : Int) + 1) = (((dg (P % b)).length + 1 : Nat) : Int) by rw [im_length]; exact w_next _ (by omega)]
    refine Ev.yes (by omega) (Ev.yes (by rw [Int.toNat_natCast]; omega) ?_)
    simp only [Option.bind_some]
    refine Ev.yes (by rw [im_length, List.length_replicate]; omega) (Ev.yes (by rw [List.length_append, im_length, List.length_replicate]; omega) ?_)
    rw [hrd, show (List.replicate 0 (0 : Int) ++ im (dg (P % b)) ++ [(x : Int)]) = im (dg (P % b) ++ [x]) by rw [im_append]; rfl]
    have hD : Digs (dg (P % b) ++ [x]) := (digs_dg _).append (Digs.mk hx Digs.nil)
    refine Ev.bind (ftrim_ev _) ?_
    rw [tr_eq_dg hD, nv_snoc, nv_dg]
    rw [w_by10 (P / b) hq]
    have hR : 10 * (P % b) + x < 10 * b := by omega
    have ht : (10 * (P % b) + x) / b < 10 := by rw [Nat.div_lt_iff_lt_mul hb]; exact hR
    refine fdiv_l1 b hb hlb (im l) _ _ _ _ _ _ rfl hR (by omega) ?_
    rw [← hsd.1, ← hsd.2]
    rw [w_next i (by omega)]
    refine Ev.both (fun h => Ev.is ?_) (fun h => ih (i + 1) (by omega) (by omega))
    unfold fdivS
    have := Nat.div_le_div_right (c := b) hmono
    rw [if_neg (by omega)]
theorem fdiv_ev (b : Nat) (hb : 0 < b) (hlb : (dg b).length ≤ 1000) (l : List Nat) (hl : l.length ≤ 1000000) (dl : Digs l) : Ev (fun k => frac_digits_div.f k (im l) (im (dg b))) (fdivS (nv l) b) := by
  unfold frac_digits_div.f
  have := fdiv_l0 b hb hlb l hl dl l.length 0 (by omega) (by simp [nv])
  rw [List.take_zero, nv_nil, Nat.zero_div, Nat.zero_mod, dg_zero] at this
  rw [im_length]
  exact this
def reduceS (A B : Nat) : Int × Int × Bool := if A / Nat.gcd A B ≤ 1000000 ∧ B / Nat.gcd A B ≤ 1000000 then (((A / Nat.gcd A B : Nat) : Int), ((B / Nat.gcd A B : Nat) : Int), true) else (0, 0, false)
theorem big_part {A g q y : Nat} (hg : 0 < g) (hgy : g ≤ y) (h : q * y ≤ A) (hq : 1000000 < q) : ¬ A / g ≤ 1000000 := by
  have h1 : q * g ≤ A := Nat.le_trans (Nat.mul_le_mul_left _ hgy) h
  have : q ≤ A / g := (Nat.le_div_iff_mul_le hg).mpr h1
  omega
theorem reduceS_no {A B : Nat} (h : ¬ A / Nat.gcd A B ≤ 1000000 ∨ ¬ B / Nat.gcd A B ≤ 1000000) : reduceS A B = (0, 0, false) := by
  unfold reduceS
  rw [if_neg (by omega)]
theorem wrap_next {q m b : Nat} (hq : q ≤ 1000000) (hm : m ≤ 1000000) (hb : b ≤ 1000000) : wrap64 (wrap64 ((q : Int) * (m : Int)) + (b : Int)) = ((q * m + b : Nat) : Int) := by
  have : q * m ≤ 1000000 * 1000000 := Nat.mul_le_mul hq hm
  rw [← Int.natCast_mul]
  generalize q * m = p at *
  rw [w_in (x := (p : Int)) (by omega), w_in (by omega)]; omega
theorem freduce_l0 (A B : Nat) (n : Nat) : ∀ (x y m0 m1 b0 b1 : Nat), y ≤ n → 0 < y → (dg x).length ≤ 1000 → (dg y).length ≤ 1000 → A = m0 * x + b0 * y → B = m1 * x + b1 * y → Nat.gcd x y = Nat.gcd A B → m0 ≤ 1000000 → m1 ≤ 1000000 → b0 ≤ 1000000 → b1 ≤ 1000000 → 1 ≤ m0 + m1 → 1 ≤ b0 + b1 →
    Ev (fun k => frac_reduce.l0 k (im (dg x)) (im (dg y)) (b0 : Int) (b1 : Int) (m0 : Int) (m1 : Int)) (reduceS A B) := by
  induction n with
  | zero => intro x y m0 m1 b0 b1 h1 h2; omega
  | succ n ih =>
    intro x y m0 m1 b0 b1 hyn hy hlx hly hA hB hg c1 c2 c3 c4 c5 c6
    have hg0 : 0 < Nat.gcd A B := by rw [← hg]; exact Nat.gcd_pos_of_pos_right _ hy
    have hgy : Nat.gcd A B ≤ y := by rw [← hg]; exact Nat.gcd_le_right _ hy
    have hdm := Nat.div_add_mod x y
    have hmod := Nat.mod_lt x hy
    refine Ev.step (fun k => by rw [frac_reduce.l0]) (Ev.bind (fdiv_ev y hy hly (dg x) (by omega) (digs_dg x)) ?_)
    rw [nv_dg]
    unfold fdivS
    by_cases hq' : 1000000 < x / y
    · rw [if_neg (by omega)]
      refine Ev.no (by decide) (Ev.is (reduceS_no ?_).symm)
      have hqy : x / y * y ≤ x := Nat.div_mul_le_self x y
      rcases Nat.eq_zero_or_pos m0 with h0 | h0
      · refine .inr (big_part hg0 hgy (q := x / y) ?_ hq')
        rw [hB]; exact Nat.le_trans hqy (Nat.le_trans (Nat.le_mul_of_pos_left _ (by omega)) (Nat.le_add_right _ _))
      · refine .inl (big_part hg0 hgy (q := x / y) ?_ hq')
        rw [hA]; exact Nat.le_trans hqy (Nat.le_trans (Nat.le_mul_of_pos_left _ h0) (Nat.le_add_right _ _))
    have hq : x / y ≤ 1000000 := by omega
    rw [if_pos hq]
    refine Ev.yes rfl ?_
    dsimp only
    rw [wrap_next hq c1 c3, wrap_next hq c2 c4, im_length]
    have hA' : A = (x / y * m0 + b0) * y + m0 * (x % y) := by
      rw [hA]
      conv => lhs; rw [← hdm]
      rw [Nat.mul_add, Nat.add_mul, Nat.mul_comm y (x / y), ← Nat.mul_assoc, Nat.mul_comm m0 (x / y)]
      omega
    have hB' : B = (x / y * m1 + b1) * y + m1 * (x % y) := by
      rw [hB]
      conv => lhs; rw [← hdm]
      rw [Nat.mul_add, Nat.add_mul, Nat.mul_comm y (x / y), ← Nat.mul_assoc, Nat.mul_comm m1 (x / y)]
      omega
    have n0 : 1 ≤ x / y * m0 + b0 + (x / y * m1 + b1) := by omega
    generalize x / y * m0 + b0 = N0 at *
    generalize x / y * m1 + b1 = N1 at *
    refine Ev.both (fun h => Ev.is (reduceS_no (.inl (big_part hg0 hgy (q := N0) (by rw [hA']; exact Nat.le_add_right _ _) (by omega)))).symm) (fun h1 => ?_)
    refine Ev.both (fun h => Ev.is (reduceS_no (.inr (big_part hg0 hgy (q := N1) (by rw [hB']; exact Nat.le_add_right _ _) (by omega)))).symm) (fun h2 => ?_)
    refine Ev.both (fun h => Ev.is ?_) (fun h3 => ?_)
    · have hr : x % y = 0 := by
        have : dg (x % y) = [] := List.eq_nil_of_length_eq_zero (by omega)
        exact (dg_nil_iff _).mp this
      have hgy' : Nat.gcd A B = y := by
        rw [← hg, Nat.gcd_comm, Nat.gcd_rec, hr, Nat.gcd_zero_left]
      rw [hr, Nat.mul_zero, Nat.add_zero] at hA' hB'
      unfold reduceS
      have q1 : A / Nat.gcd A B = N0 := by rw [hgy', hA', Nat.mul_div_cancel _ hy]
      have q2 : B / Nat.gcd A B = N1 := by rw [hgy', hB', Nat.mul_div_cancel _ hy]
      rw [q1, q2, if_pos ⟨by omega, by omega⟩]
    · have hr : x % y ≠ 0 := by intro h0; rw [h0, dg_zero] at h3; exact h3 rfl
      exact ih y (x % y) N0 N1 m0 m1 (by omega) (by omega) hly (Nat.le_trans (dg_le_length (by omega)) hly) hA' hB' (by
        rw [← hg, Nat.gcd_comm x y, Nat.gcd_rec y x, Nat.gcd_comm]) (by omega) (by omega) c1 c2 n0 c5
theorem freduce_ev (A B : Nat) (hB : 0 < B) (hlA : (dg A).length ≤ 1000) (hlB : (dg B).length ≤ 1000) : Ev (fun k => frac_reduce.f k (im (dg A)) (im (dg B))) (reduceS A B) := by
  unfold frac_reduce.f
  exact freduce_l0 A B B A B 1 0 0 1 (Nat.le_refl _) hB hlA hlB (by omega) (by omega) rfl (by omega) (by omega) (by omega) (by omega) (by omega) (by omega)
def oL (l : List UInt8) : ByteArray := ⟨l.toArray⟩
theorem oL_data (s : ByteArray) : oL s.data.toList = s := rfl
theorem oL_list (l : List UInt8) : (oL l).data.toList = l := rfl
theorem oL_toList (l : List UInt8) : (oL l).toList = l := by rw [ByteArray.toList_eq]; rfl
theorem oL_size (l : List UInt8) : (oL l).size = l.length := by show l.toArray.size = _; rw [List.size_toArray]
theorem oL_extract (l : List UInt8) (a b : Nat) : (oL l).extract a b = oL ((l.take b).drop a) := by
  apply ba_eq; rw [ext_list]; rfl
theorem oL_tail (l : List UInt8) (a : Nat) : (oL l).extract a (oL l).size = oL (l.drop a) := by
  rw [oL_extract, oL_size, List.take_length]
theorem bt_oL (l : List UInt8) (i : Nat) : bt (oL l) (i : Int) = ((l.getD i 0).toNat : Int) := by rw [bt_eq, Int.toNat_natCast]; rfl
theorem bt_head (c : UInt8) (l : List UInt8) : bt (oL (c :: l)) 0 = (c.toNat : Int) := bt_oL (c :: l) 0
theorem isDig_range (c : UInt8) : isDig c = true ↔ (48 ≤ c.toNat ∧ c.toNat ≤ 57) := by
  rw [isDig_iff]; omega
def dsOf (l : List UInt8) : List Nat := (l.takeWhile isDig).map (fun (c : UInt8) => c.toNat - 48)
def rsOf (l : List UInt8) : List UInt8 := l.dropWhile isDig
theorem dsOf_nil : dsOf [] = [] := rfl
theorem dsOf_cons (c : UInt8) (l : List UInt8) : dsOf (c :: l) = if isDig c = true then (c.toNat - 48) :: dsOf l else [] := by
  unfold dsOf; rw [List.takeWhile_cons]; split <;> rfl
theorem rsOf_cons (c : UInt8) (l : List UInt8) : rsOf (c :: l) = if isDig c = true then rsOf l else c :: l := by
  unfold rsOf; rw [List.dropWhile_cons]
theorem dsOf_digs (l : List UInt8) : Digs (dsOf l) := by
  induction l with
  | nil => exact Digs.nil
  | cons c l ih =>
    rw [dsOf_cons]
    split
    · rename_i h; have := (isDig_range c).mp h; exact Digs.mk (by omega) ih
    · exact Digs.nil
theorem bsL_dsOf (l : List UInt8) : bsL (dsOf l) ++ rsOf l = l := by
  induction l with
  | nil => rfl
  | cons c l ih =>
    rw [dsOf_cons, rsOf_cons]
    split
    · rename_i h
      have h2 := (isDig_range c).mp h
      show UInt8.ofNat (48 + (c.toNat - 48)) :: (bsL (dsOf l) ++ rsOf l) = _
      rw [ih, show 48 + (c.toNat - 48) = c.toNat by omega, UInt8.ofNat_toNat]
    · rfl
theorem dsOf_len (l : List UInt8) : (dsOf l).length + (rsOf l).length = l.length := by
  have := congrArg List.length (bsL_dsOf l)
  rwa [List.length_append, bsL_length] at this
theorem fscan_ev (l : List UInt8) : ∀ acc : List Nat, l.length + acc.length ≤ 1000000 → Ev (fun k => frac_scan.l0 k (oL l) (im acc)) (im (acc ++ dsOf l), oL (rsOf l)) := by
  induction l with
  | nil =>
    intro acc h
    refine Ev.step (fun k => by rw [frac_scan.l0]) (Ev.yes (oL_toList []) (Ev.is ?_))
    rw [dsOf_nil, List.append_nil]; rfl
  | cons c l ih =>
    intro acc h
    rw [List.length_cons] at h
    refine Ev.step (fun k => by rw [frac_scan.l0]) (Ev.no (by rw [oL_toList]; exact List.cons_ne_nil _ _) (Ev.yes (by rw [oL_size, List.length_cons]; omega) ?_))
    rw [bt_head, dsOf_cons, rsOf_cons]
    have hr := isDig_range c
    by_cases hd : isDig c = true
    · have h2 := hr.mp hd
      rw [if_pos hd, if_pos hd]
      refine Ev.yes (by omega) (Ev.yes (by omega) (Ev.yes (by rw [im_length]; omega) (Ev.yes (by rw [oL_size, List.length_cons]; omega) ?_)))
      rw [oL_tail, List.drop_one, List.tail_cons, show ((c.toNat : Int) - 48) % 256 = ((c.toNat - 48 : Nat) : Int) by omega, show im acc ++ [((c.toNat - 48 : Nat) : Int)] = im (acc ++ [c.toNat - 48]) by rw [im_append]; rfl]
      have := ih (acc ++ [c.toNat - 48]) (by rw [List.length_append, List.length_singleton]; omega)
      rwa [List.append_assoc, List.singleton_append] at this
    · have hnd : ¬ (48 ≤ c.toNat ∧ c.toNat ≤ 57) := fun h => hd (hr.mpr h)
      rw [if_neg hd, if_neg hd, List.append_nil]
      refine Ev.both (fun h1 => Ev.no (by omega) (Ev.is rfl)) (fun h1 => Ev.is rfl)
theorem fscan (l : List UInt8) (h : l.length ≤ 1000000) : Ev (fun k => frac_scan.f k (oL l)) (im (dsOf l), oL (rsOf l)) := by
  unfold frac_scan.f
  exact fscan_ev l [] (by rw [List.length_nil]; omega)
def splitM (l : List UInt8) : Option (List Nat × List Nat) :=
  if (dsOf l).length = 0 ∨ (1 < (dsOf l).length ∧ (dsOf l).getD 0 0 = 0) then none else
  match rsOf l with
  | [] => some (dsOf l, [1])
  | c :: r => if (dsOf r).length = 0 ∨ rsOf r ≠ [] then none else
    if c = 47 then (if (dsOf r).getD 0 0 = 0 then none else some (dsOf l, dsOf r)) else
    if c = 46 then (if (dsOf r).length ≤ 6 then some (dsOf l ++ dsOf r, 1 :: List.replicate (dsOf r).length 0) else none) else none
theorem u8_eq (c : UInt8) (n : Nat) (hn : n < 256) : ((c.toNat : Int) = (n : Int)) ↔ c = UInt8.ofNat n := by
  constructor
  · intro h
    have : c.toNat = n := by omega
    rw [← this, UInt8.ofNat_toNat]
  · intro h; rw [h, UInt8.toNat_ofNat', Nat.mod_eq_of_lt hn]
def SplitF (l : List UInt8) (r : List Int × List Int × Bool) : Prop := match splitM l with | none => r.2.2 = false | some (a, b) => r = (im a, im b, true)
theorem fsplit_zeros (a : List Nat) (m : List Nat) (ha : a.length + m.length ≤ 1000000) (d : Nat) : ∀ (i : Nat), i + d = m.length →
    Ev (fun k => frac_split.l0 k (im a) (im (1 :: List.replicate i 0)) (im m) (m.length : Int) (i : Int)) (im (a ++ m), im (1 :: List.replicate m.length 0), decide ((m.length : Int) ≤ 6)) := by
  induction d with
  | zero =>
    intro i hi
    obtain rfl : i = m.length := by omega
    refine Ev.step (fun k => by rw [frac_split.l0]) (Ev.no (by omega) (Ev.yes (by rw [im_length, im_length]; omega) (Ev.is ?_)))
    rw [im_append, im_length]
  | succ d ih =>
    intro i hi
    refine Ev.step (fun k => by rw [frac_split.l0]) (Ev.yes (by omega) (Ev.yes (by rw [im_length, List.length_cons, List.length_replicate]; omega) ?_))
    rw [w_next i (by omega), show im (1 :: List.replicate i 0) ++ [(0 : Int)] = im (1 :: List.replicate (i + 1) 0) by
      rw [List.replicate_succ', ← List.cons_append, im_append]; rfl]
    exact ih (i + 1) (by omega)
theorem fsplit (l : List UInt8) (hl : l.length ≤ 1000) : ∃ r, Ev (fun k => frac_split.f k (oL l)) r ∧ SplitF l r := by
  have hlen := dsOf_len l
  have no : ∀ b : Bool, b = true → Ev (fun k => frac_split.j0 k (im (dsOf l)) (oL (rsOf l)) b) ([], [], false) := fun b hb => Ev.step (fun k => by rw [frac_split.j0]) (Ev.yes hb (Ev.is rfl))
  by_cases h0 : (dsOf l).length = 0 ∨ (1 < (dsOf l).length ∧ (dsOf l).getD 0 0 = 0)
  · refine ⟨([], [], false), ?_, by unfold SplitF splitM; rw [if_pos h0]⟩
    unfold frac_split.f
    refine Ev.bind (fscan l (by omega)) ?_
    dsimp only
    rw [im_length]
    refine Ev.both (fun h => no true rfl) (fun h => Ev.yes (by omega) (Ev.yes (by omega) (no _ ?_)))
    have e : rd (im (dsOf l)) 0 = (((dsOf l).getD 0 0 : Nat) : Int) := rd_im _ 0
    rw [e, beq_iff_eq]; omega
  have st : ∀ r, Ev (fun k => frac_split.j0 k (im (dsOf l)) (oL (rsOf l)) false) r → Ev (fun k => frac_split.f k (oL l)) r := by
    intro r hr
    unfold frac_split.f
    refine Ev.bind (fscan l (by omega)) ?_
    dsimp only
    rw [im_length]
    refine Ev.no (by omega) (Ev.both (fun h => Ev.yes (by omega) ?_) (fun h => hr))
    have e : rd (im (dsOf l)) 0 = (((dsOf l).getD 0 0 : Nat) : Int) := rd_im _ 0
    rw [e, show ((((dsOf l).getD 0 0 : Nat) : Int) == 0) = false from beq_eq_false_iff_ne.mpr (by omega)]
    exact hr
  cases hrs : rsOf l with
  | nil =>
    refine ⟨(im (dsOf l), im [1], true), st _ ?_, by unfold SplitF splitM; rw [if_neg h0, hrs]⟩
    rw [hrs]
    refine Ev.step (fun k => by rw [frac_split.j0]) ?_
    exact Ev.no (by decide) (Ev.yes (oL_toList []) (Ev.is rfl))
  | cons c r =>
    rw [hrs, List.length_cons] at hlen
    have hlr := dsOf_len r
    have st2 : ∀ x, Ev (fun k => frac_split.j1 k (im (dsOf l)) (oL (c :: r)) (im (dsOf r)) (decide ((dsOf r).length = 0 ∨ rsOf r ≠ []))) x → Ev (fun k => frac_split.j0 k (im (dsOf l)) (oL (c :: r)) false) x := by
      intro x hx
      refine Ev.step (fun k => by rw [frac_split.j0]) (Ev.no (by decide) (Ev.no (by rw [oL_toList]; exact List.cons_ne_nil _ _) (Ev.yes (by rw [oL_size, List.length_cons]; omega) ?_)))
      rw [oL_tail, List.drop_one, List.tail_cons]
      refine Ev.bind (fscan r (by omega)) ?_
      dsimp only
      rw [im_length]
      refine Ev.both (fun h => ?_) (fun h => ?_)
      · rwa [decide_eq_true (show (dsOf r).length = 0 ∨ rsOf r ≠ [] from .inl (by omega))] at hx
      · rw [oL_toList]
        have : (rsOf r != []) = decide ((dsOf r).length = 0 ∨ rsOf r ≠ []) := by
          rw [Bool.eq_iff_iff, bne_iff_ne, decide_eq_true_iff]
          exact ⟨.inr, fun h2 => h2.resolve_left (by omega)⟩
        rwa [this]
    by_cases h1 : (dsOf r).length = 0 ∨ rsOf r ≠ []
    · refine ⟨([], [], false), st _ ?_, by unfold SplitF splitM; rw [if_neg h0, hrs]; dsimp only; rw [if_pos h1]⟩
      rw [hrs]
      refine st2 _ ?_
      rw [decide_eq_true h1]
      exact Ev.step (fun k => by rw [frac_split.j1]) (Ev.yes rfl (Ev.is rfl))
    have st3 : ∀ x, Ev (fun k => if (c.toNat : Int) = 47 then (if 0 < ((im (dsOf r)).length : Int) then (some (im (dsOf l), im (dsOf r), ((rd (im (dsOf r)) 0) != 0))) else (none)) else (if (c.toNat : Int) = 46 then (frac_split.l0 k (im (dsOf l)) (([1] : List Int)) (im (dsOf r)) ((im (dsOf r)).length : Int) 0) else (some (([] : List Int), ([] : List Int), false)))) x → Ev (fun k => frac_split.f k (oL l)) x := by
      intro x hx
      refine st _ ?_
      rw [hrs]
      refine st2 _ ?_
      rw [decide_eq_false h1]
      refine Ev.step (fun k => by rw [frac_split.j1]) (Ev.no (by decide) (Ev.yes (by rw [oL_size, List.length_cons]; omega) ?_))
      rw [bt_head]
      exact hx
    have e0 : rd (im (dsOf r)) 0 = (((dsOf r).getD 0 0 : Nat) : Int) := rd_im _ 0
    have hc47 := u8_eq c 47 (by decide)
    have hc46 := u8_eq c 46 (by decide)
    by_cases h47 : c = 47
    · by_cases hz : (dsOf r).getD 0 0 = 0
      · refine ⟨(im (dsOf l), im (dsOf r), false), st3 _ (Ev.yes (hc47.mpr h47) (Ev.yes (by rw [im_length]; omega) (Ev.is ?_))), by unfold SplitF splitM; rw [if_neg h0, hrs]; dsimp only; rw [if_neg h1, if_pos h47, if_pos hz]⟩
        rw [e0, hz]; rfl
      · refine ⟨(im (dsOf l), im (dsOf r), true), st3 _ (Ev.yes (hc47.mpr h47) (Ev.yes (by rw [im_length]; omega) (Ev.is ?_))), by unfold SplitF splitM; rw [if_neg h0, hrs]; dsimp only; rw [if_neg h1, if_pos h47, if_neg hz]⟩
        rw [e0, show ((((dsOf r).getD 0 0 : Nat) : Int) != 0) = true from bne_iff_ne.mpr (by omega)]
    by_cases h46 : c = 46
    · refine ⟨_, st3 _ (Ev.no (fun h => h47 (hc47.mp h)) (Ev.yes (hc46.mpr h46) (by rw [im_length]; exact fsplit_zeros (dsOf l) (dsOf r) (by omega) _ 0 (Nat.zero_add _)))), ?_⟩
      unfold SplitF splitM
      rw [if_neg h0, hrs]
      dsimp only
      rw [if_neg h1, if_neg h47, if_pos h46]
      by_cases h6 : (dsOf r).length ≤ 6
      · rw [if_pos h6]; dsimp only; rw [decide_eq_true (by omega)]
      · rw [if_neg h6]; dsimp only; rw [decide_eq_false (by omega)]
    · refine ⟨([], [], false), st3 _ (Ev.no (fun h => h47 (hc47.mp h)) (Ev.no (fun h => h46 (hc46.mp h)) (Ev.is rfl))), by unfold SplitF splitM; rw [if_neg h0, hrs]; dsimp only; rw [if_neg h1, if_neg h47, if_neg h46]⟩
theorem nv_zeros (n : Nat) : nv (1 :: List.replicate n 0) = 10 ^ n ∧ Digs (1 :: List.replicate n 0) ∧ Trim (1 :: List.replicate n 0) := by
  refine ⟨?_, Digs.mk (by decide) (Digs.replicate n), fun x l' h => by rw [← (List.cons.inj h).1]; decide⟩
  rw [nv_cons, List.length_replicate, Nat.one_mul]
  have : nv (List.replicate n 0) = 0 := by
    induction n with
    | zero => rfl
    | succ n ih => rw [List.replicate_succ, nv_cons, Nat.zero_mul, Nat.zero_add, ih]
  rw [this, Nat.add_zero]
def parseT (neg : Bool) (t : List UInt8) : Int × Int × Int := match splitM t with
  | none => (0, 0, 5)
  | some (a, b) => if neg = true ∧ nv a = 0 then (0, 0, 5) else
    if (reduceS (nv a) (nv b)).2.2 = true then (if neg = true then -(reduceS (nv a) (nv b)).1 else (reduceS (nv a) (nv b)).1, (reduceS (nv a) (nv b)).2.1, 0) else (0, 0, 4)
def parseS (l : List UInt8) : Int × Int × Int := parseT (negOf l) (magOf l)
theorem splitM_facts {l : List UInt8} {a b : List Nat} (h : splitM l = some (a, b)) : Digs a ∧ Digs b ∧ 0 < nv b ∧ a.length ≤ l.length ∧ b.length ≤ l.length + 1 := by
  have hlen := dsOf_len l
  unfold splitM at h
  split at h
  · cases h
  split at h
  · obtain ⟨rfl, rfl⟩ := Prod.mk.inj (Option.some.inj h)
    exact ⟨dsOf_digs l, Digs.mk (by decide) Digs.nil, by decide, by omega, by show 1 ≤ _; omega⟩
  · rename_i c r hrs
    rw [hrs, List.length_cons] at hlen
    have hlr := dsOf_len r
    split at h
    · cases h
    rename_i hm
    split at h
    · split at h
      · cases h
      · rename_i hz
        obtain ⟨rfl, rfl⟩ := Prod.mk.inj (Option.some.inj h)
        refine ⟨dsOf_digs l, dsOf_digs r, ?_, by omega, by omega⟩
        cases hd : dsOf r with
        | nil => rw [hd] at hm; exact absurd (.inl rfl) hm
        | cons x m =>
          rw [hd] at hz
          have hx : x ≠ 0 := hz
          rw [nv_cons]
          have : 0 < x * 10 ^ m.length := Nat.mul_pos (by omega) (Nat.pow_pos (by decide))
          omega
    · split at h
      · split at h
        · rename_i h6
          obtain ⟨rfl, rfl⟩ := Prod.mk.inj (Option.some.inj h)
          obtain ⟨z1, z2, z3⟩ := nv_zeros (dsOf r).length
          refine ⟨(dsOf_digs l).append (dsOf_digs r), z2, by rw [z1]; exact Nat.pow_pos (by decide), by rw [List.length_append]; omega, by rw [List.length_cons, List.length_replicate]; omega⟩
        · cases h
      · cases h
theorem dg_nv_le {a : List Nat} (d : Digs a) : (dg (nv a)).length ≤ a.length := dg_length_le _ _ (nv_lt d)
theorem reduce_bounds (A B : Nat) : -1000000 ≤ (reduceS A B).1 ∧ (reduceS A B).1 ≤ 1000000 := by
  unfold reduceS
  generalize A / Nat.gcd A B = n
  generalize B / Nat.gcd A B = d
  split <;> dsimp only <;> omega
theorem fparse_j1 (neg : Bool) (t : List UInt8) (ht : t.length ≤ 900) : Ev (fun k => frac_Parse.j1 k (oL t) neg 0 0) (parseT neg t) := by
  obtain ⟨r, hr, hs⟩ := fsplit t (by omega)
  refine Ev.step (fun k => by rw [frac_Parse.j1]) (Ev.bind hr ?_)
  unfold SplitF at hs
  unfold parseT
  have no : Ev (fun k => frac_Parse.j2 k neg r.1 r.2.1 true 0 0) (0, 0, 5) := Ev.step (fun k => by rw [frac_Parse.j2]) (Ev.yes rfl (Ev.is rfl))
  cases hm : splitM t with
  | none =>
    rw [hm] at hs
    refine Ev.no (by rw [hs]; decide) no
  | some ab =>
    obtain ⟨a, b⟩ := ab
    rw [hm] at hs
    dsimp only at hs ⊢
    obtain ⟨da, db, hb, hla, hlb⟩ := splitM_facts hm
    subst hs
    have la := dg_nv_le da
    have lb := dg_nv_le db
    refine Ev.yes rfl ?_
    have yes : ¬ (neg = true ∧ nv a = 0) → Ev (fun k => frac_Parse.j2 k neg (im a) (im b) false 0 0) (if (reduceS (nv a) (nv b)).2.2 = true then (if neg = true then -(reduceS (nv a) (nv b)).1 else (reduceS (nv a) (nv b)).1, (reduceS (nv a) (nv b)).2.1, 0) else (0, 0, 4)) := by
      intro hn
      refine Ev.step (fun k => by rw [frac_Parse.j2]) (Ev.no (by decide) (Ev.bind (ftrim_ev a) (Ev.bind (ftrim_ev b) ?_)))
      rw [tr_eq_dg da, tr_eq_dg db]
      refine Ev.bind (freduce_ev (nv a) (nv b) hb (by omega) (by omega)) ?_
      have hbd := reduce_bounds (nv a) (nv b)
      refine Ev.both (fun h => ?_) (fun h => Ev.is (by rw [if_neg h]))
      rw [if_pos h, w_in (x := -(reduceS (nv a) (nv b)).1) (by omega)]
      exact Ev.both (fun h2 => Ev.is (by rw [if_pos h2])) (fun h2 => Ev.is (by rw [if_neg h2]))
    refine Ev.both (fun h => ?_) (fun h => ?_)
    · refine Ev.bind (ftrim_ev a) ?_
      rw [tr_eq_dg da, im_length]
      by_cases h0 : nv a = 0
      · rw [if_pos ⟨h, h0⟩, h0, dg_zero]
        exact no
      · have hne : (dg (nv a)).length ≠ 0 := fun h2 => h0 ((dg_nil_iff _).mp (List.eq_nil_of_length_eq_zero h2))
        rw [if_neg (fun h2 => h0 h2.2), show ((((dg (nv a)).length : Nat) : Int) == 0) = false from beq_eq_false_iff_ne.mpr (by omega)]
        exact yes (fun h2 => h0 h2.2)
    · rw [if_neg (fun h2 => h h2.1)]
      exact yes (fun h2 => h h2.1)
theorem frac_Parse_ev (l : List UInt8) (hl : l.length ≤ 900) : Ev (fun k => frac_Parse.f k (oL l)) (parseS l) := by
  unfold frac_Parse.f parseS
  cases l with
  | nil =>
    refine Ev.yes (oL_toList []) ?_
    refine Ev.step (fun k => by rw [frac_Parse.j0]) ?_
    refine Ev.no (by decide) ?_
    exact fparse_j1 false [] (by omega)
  | cons c t =>
    rw [List.length_cons] at hl
    refine Ev.no (by rw [oL_toList]; exact List.cons_ne_nil _ _) (Ev.yes (by rw [oL_size, List.length_cons]; omega) ?_)
    rw [bt_head]
    have hc := u8_eq c 45 (by decide)
    refine Ev.step (fun k => by rw [frac_Parse.j0]) ?_
    by_cases h : c = 45
    · subst h
      refine Ev.yes (by decide) (Ev.yes (by rw [oL_size, List.length_cons]; omega) ?_)
      rw [oL_tail]
      exact fparse_j1 true t (by omega)
    · have e1 : negOf (c :: t) = false := by
        unfold negOf; rw [List.head?_cons]; exact beq_eq_false_iff_ne.mpr (fun h2 => h (Option.some.inj h2))
      have e2 : (((c.toNat : Nat) : Int) == 45) = false := beq_eq_false_iff_ne.mpr (fun h2 => h (hc.mp h2))
      unfold magOf
      rw [e1, e2]
      exact Ev.no (by decide) (fparse_j1 false (c :: t) (by rw [List.length_cons]; omega))
theorem dval_nv (l : List UInt8) : dval l = nv (l.map (fun (c : UInt8) => c.toNat - 48)) := by
  unfold dval nv; rw [List.foldl_map]
theorem dsOf_cut (X Y : List UInt8) (c : UInt8) (hX : X.all isDig = true) (hc : isDig c = false) : dsOf (X ++ c :: Y) = X.map (fun (c : UInt8) => c.toNat - 48) ∧ rsOf (X ++ c :: Y) = c :: Y := by
  induction X with
  | nil => rw [List.nil_append, dsOf_cons, rsOf_cons, if_neg (by rw [hc]; decide), if_neg (by rw [hc]; decide)]; exact ⟨rfl, rfl⟩
  | cons x X ih =>
    rw [List.all_cons, Bool.and_eq_true] at hX
    obtain ⟨h1, h2⟩ := ih hX.2
    rw [List.cons_append, dsOf_cons, rsOf_cons, if_pos hX.1, if_pos hX.1, h1, h2]; exact ⟨rfl, rfl⟩
theorem dsOf_all (X : List UInt8) (hX : X.all isDig = true) : dsOf X = X.map (fun (c : UInt8) => c.toNat - 48) ∧ rsOf X = [] := by
  induction X with
  | nil => exact ⟨rfl, rfl⟩
  | cons x X ih =>
    rw [List.all_cons, Bool.and_eq_true] at hX
    obtain ⟨h1, h2⟩ := ih hX.2
    rw [dsOf_cons, rsOf_cons, if_pos hX.1, if_pos hX.1, h1, h2]; exact ⟨rfl, rfl⟩
theorem dec_facts (u : Nat) : (Lib.decDigits u).all isDig = true ∧ nv ((Lib.decDigits u).map (fun (c : UInt8) => c.toNat - 48)) = u ∧ ((Lib.decDigits u).map (fun (c : UInt8) => c.toNat - 48)).length ≠ 0 ∧
    (((Lib.decDigits u).map (fun (c : UInt8) => c.toNat - 48)).getD 0 0 = 0 → ((Lib.decDigits u).map (fun (c : UInt8) => c.toNat - 48)).length = 1 ∧ u = 0) := by
  obtain ⟨h1, h2, h3, h4⟩ := decDigits_spec u
  rw [dval_nv] at h1
  refine ⟨h2, h1, by rw [List.length_map]; exact fun h => h3 (List.eq_nil_of_length_eq_zero h), ?_⟩
  intro h
  have h5 : (Lib.decDigits u).head? = some 48 := by
    cases hd : Lib.decDigits u with
    | nil => exact absurd hd h3
    | cons c r =>
      rw [hd] at h h2
      rw [List.all_cons, Bool.and_eq_true] at h2
      have hr := (isDig_range c).mp h2.1
      have hz : c.toNat - 48 = 0 := h
      rw [List.head?_cons, (u8_eq c 48 (by decide)).mp (by omega)]; rfl
  obtain ⟨hx1, hx2⟩ := h4 h5
  exact ⟨by rw [List.length_map]; exact hx2, hx1⟩
theorem splitM_text (u d : Nat) (hd : 0 < d) : splitM (if d = 1 then Lib.decDigits u else Lib.decDigits u ++ 47 :: Lib.decDigits d) = some ((Lib.decDigits u).map (fun (c : UInt8) => c.toNat - 48), if d = 1 then [1] else (Lib.decDigits d).map (fun (c : UInt8) => c.toNat - 48)) := by
  obtain ⟨h1, h2, h3, h4⟩ := dec_facts u
  obtain ⟨g1, g2, g3, g4⟩ := dec_facts d
  have no : ¬ (((Lib.decDigits u).map (fun (c : UInt8) => c.toNat - 48)).length = 0 ∨ (1 < ((Lib.decDigits u).map (fun (c : UInt8) => c.toNat - 48)).length ∧ ((Lib.decDigits u).map (fun (c : UInt8) => c.toNat - 48)).getD 0 0 = 0)) := by
    rintro (h | ⟨h, h5⟩)
    · exact h3 h
    · have := (h4 h5).1; omega
  unfold splitM
  by_cases h : d = 1
  · rw [if_pos h, if_pos h]
    obtain ⟨e1, e2⟩ := dsOf_all _ h1
    rw [e1, e2, if_neg no]
  · rw [if_neg h, if_neg h]
    obtain ⟨e1, e2⟩ := dsOf_cut (Lib.decDigits u) (Lib.decDigits d) 47 h1 (by decide)
    obtain ⟨f1, f2⟩ := dsOf_all _ g1
    rw [e1, e2, if_neg no]
    dsimp only
    rw [f1, f2, if_neg (by rintro (h | h); exact g3 h; exact h rfl), if_pos rfl, if_neg (fun h0 => by have := (g4 h0).2; omega)]
theorem parse_text (n d : Int) (h : rightS n d = true) : parseS (if d = 1 then Lib.itoa n else Lib.itoa n ++ 47 :: Lib.itoa d) = (n, d, 0) := by
  rw [rightS_iff] at h
  obtain ⟨h1, h2, h3, h4⟩ := h
  obtain ⟨D, rfl⟩ := Int.eq_ofNat_of_zero_le (show 0 ≤ d by omega)
  rw [Int.natAbs_natCast] at h4
  have hD : 0 < D := by omega
  have hi : Lib.itoa (D : Int) = Lib.decDigits D := by unfold Lib.itoa; rw [if_neg (by omega)]; rfl
  have hs := splitM_text n.natAbs D hD
  have hr : reduceS n.natAbs D = ((n.natAbs : Int), (D : Int), true) := by
    unfold reduceS
    rw [h4, Nat.div_one, Nat.div_one, if_pos ⟨h3, by omega⟩]
  have hv : nv (if D = 1 then [1] else (Lib.decDigits D).map (fun (c : UInt8) => c.toNat - 48)) = D := by
    split
    · rename_i h; rw [h]; rfl
    · exact (dec_facts D).2.1
  have main : ∀ neg : Bool, (neg = true → n ≠ 0) → parseT neg (if D = 1 then Lib.decDigits n.natAbs else Lib.decDigits n.natAbs ++ 47 :: Lib.decDigits D) = (if neg = true then -(n.natAbs : Int) else (n.natAbs : Int), (D : Int), 0) := by
    intro neg hneg
    unfold parseT
    rw [hs]
    dsimp only
    rw [(dec_facts n.natAbs).2.1, hv, if_neg (by rintro ⟨e1, e2⟩; exact hneg e1 (by omega)), hr]
    rfl
  unfold parseS
  rw [hi]
  by_cases hn : n < 0
  · have e : Lib.itoa n = 45 :: Lib.decDigits n.natAbs := by unfold Lib.itoa; rw [if_pos hn]
    rw [e]
    have e2 : (if (D : Int) = 1 then 45 :: Lib.decDigits n.natAbs else 45 :: Lib.decDigits n.natAbs ++ 47 :: Lib.decDigits D) = 45 :: (if D = 1 then Lib.decDigits n.natAbs else Lib.decDigits n.natAbs ++ 47 :: Lib.decDigits D) := by
      by_cases hd1 : D = 1
      · rw [if_pos (by omega), if_pos hd1]
      · rw [if_neg (by omega), if_neg hd1]; rfl
    rw [e2]
    have := main true (fun _ => by omega)
    show parseT true (if D = 1 then Lib.decDigits n.natAbs else Lib.decDigits n.natAbs ++ 47 :: Lib.decDigits D) = _
    rw [this, if_pos rfl]; congr 1; omega
  · have e : Lib.itoa n = Lib.decDigits n.natAbs := by unfold Lib.itoa; rw [if_neg hn]; congr 1; omega
    rw [e]
    have e2 : (if (D : Int) = 1 then Lib.decDigits n.natAbs else Lib.decDigits n.natAbs ++ 47 :: Lib.decDigits D) = (if D = 1 then Lib.decDigits n.natAbs else Lib.decDigits n.natAbs ++ 47 :: Lib.decDigits D) := by
      by_cases hd1 : D = 1
      · rw [if_pos (by omega), if_pos hd1]
      · rw [if_neg (by omega), if_neg hd1]
    rw [e2]
    have hneg : negOf (if D = 1 then Lib.decDigits n.natAbs else Lib.decDigits n.natAbs ++ 47 :: Lib.decDigits D) = false := by
      have h0 := decDigits_not_minus n.natAbs
      split
      · exact h0
      · cases hdd : Lib.decDigits n.natAbs with
        | nil => rfl
        | cons c r => rw [hdd] at h0; exact h0
    have := main false (fun h => by cases h)
    unfold magOf
    rw [hneg]
    rw [if_neg (by decide), this, if_neg (by decide)]; congr 1; omega
theorem parseS_right (l : List UInt8) (h : (parseS l).2.2 = 0) : rightS (parseS l).1 (parseS l).2.1 = true ∧ I64 (parseS l).1 ∧ I64 (parseS l).2.1 := by
  unfold parseS parseT at *
  generalize negOf l = neg at *
  cases hm : splitM (magOf l) with
  | none => rw [hm] at h; simp at h
  | some ab =>
    obtain ⟨a, b⟩ := ab
    obtain ⟨da, db, hb, _, _⟩ := splitM_facts hm
    rw [hm] at h
    dsimp only at h ⊢
    by_cases h0 : neg = true ∧ nv a = 0
    · rw [if_pos h0] at h; simp at h
    rw [if_neg h0] at h ⊢
    have hg : 0 < Nat.gcd (nv a) (nv b) := Nat.gcd_pos_of_pos_right _ hb
    have hco : Nat.gcd (nv a / Nat.gcd (nv a) (nv b)) (nv b / Nat.gcd (nv a) (nv b)) = 1 := by
      rw [Nat.gcd_div (Nat.gcd_dvd_left _ _) (Nat.gcd_dvd_right _ _)]; exact Nat.div_self hg
    have hbp : 0 < nv b / Nat.gcd (nv a) (nv b) := Nat.div_pos (Nat.gcd_le_right _ hb) hg
    unfold reduceS at *
    generalize nv a / Nat.gcd (nv a) (nv b) = n at *
    generalize nv b / Nat.gcd (nv a) (nv b) = d at *
    by_cases hk : n ≤ 1000000 ∧ d ≤ 1000000
    · rw [if_pos hk] at h ⊢
      dsimp only at h ⊢
      rw [if_pos rfl] at h ⊢
      dsimp only
      refine ⟨?_, ?_, by unfold I64; omega⟩
      · rw [rightS_iff]
        have e : (if neg = true then -(n : Int) else (n : Int)).natAbs = n := by split <;> omega
        rw [e, Int.natAbs_natCast]; exact ⟨by omega, by omega, by omega, hco⟩
      · split <;> (unfold I64; omega)
    · rw [if_neg hk] at h
      dsimp only at h
      simp at h
def isLet (c : UInt8) : Bool := (decide (97 ≤ c.toNat) && decide (c.toNat ≤ 122)) || ((decide (65 ≤ c.toNat) && decide (c.toNat ≤ 90)) || decide (c.toNat = 95))
def isPrint (c : UInt8) : Bool := decide (32 ≤ c.toNat) && decide (c.toNat ≤ 126)
def isPt (c : UInt8) : Bool := decide (c.toNat = 46) || (decide (c.toNat = 47) || decide (c.toNat = 45))
def headDig : List UInt8 → Bool
  | [] => false
  | c :: _ => isDig c
def nameN : List UInt8 → Nat
  | [] => 0
  | c :: r => if isLet c = true ∨ isDig c = true then nameN r + 1 else 0
def numN : List UInt8 → Nat
  | [] => 0
  | c :: r => if isPt c = true then (if headDig r = true then numN r + 1 else 0) else if isLet c = true ∨ isDig c = true then numN r + 1 else 0
def quoS (a : Nat) : List UInt8 → Nat → List UInt8 → List UInt8 × Nat × Nat × Nat
  | [], _, _ => ([], 0, a, 6)
  | c :: r, i, acc => if c.toNat = 34 then (acc, i + 1, 0, 0) else if c.toNat = 92 then (match r with
      | [] => ([], 0, i, 5)
      | d :: r' => if d.toNat = 34 ∨ d.toNat = 92 then quoS a r' (i + 2) (acc ++ [d]) else ([], 0, i, 5))
    else if isPrint c = true then quoS a r (i + 1) (acc ++ [c]) else ([], 0, i, 5)
def twoSg (c d : UInt8) : Bool := decide ([c, d] = [60, 61]) || (decide ([c, d] = [62, 61]) || (decide ([c, d] = [33, 61]) || decide ([c, d] = [46, 46])))
def oneSg (c : UInt8) : Nat := if c.toNat ∈ [40, 41, 123, 125, 91, 93, 44, 59, 58, 61, 43, 45, 42, 47, 60, 62, 124, 38, 33, 64, 37] then 1 else 0
def signN : List UInt8 → Nat
  | [] => 0
  | c :: r => match r with
    | [] => oneSg c
    | d :: _ => if twoSg c d = true then 2 else oneSg c
def gS (kind : Nat) (R : List UInt8) (i n most : Nat) : Nat × List UInt8 × Nat × Nat × Nat := (kind, R.take n, i + n, if most < n then i else 0, if most < n then 9 else 0)
def qS (i : Nat) (q : List UInt8 × Nat × Nat × Nat) : Nat × List UInt8 × Nat × Nat × Nat := if q.2.2.2 = 0 then (3, q.1, q.2.1, if 60 < q.1.length then i else q.2.2.1, if 60 < q.1.length then 9 else 0) else (3, q.1, q.2.1, q.2.2.1, q.2.2.2)
def wordH (R : List UInt8) (i : Nat) : Nat × List UInt8 × Nat × Nat × Nat := if signN R = 0 then (4, [], i, i, 5) else gS 4 R i (signN R) 60
def wordS : List UInt8 → Nat → Nat × List UInt8 × Nat × Nat × Nat
  | [], i => (0, [], i, i, 5)
  | c :: r, i => if isLet c = true then gS 1 (c :: r) i (nameN (c :: r)) 12 else
    if isDig c = true ∨ (c.toNat = 45 ∧ headDig r = true) then gS 2 (c :: r) i (numN r + 1) 60 else
    if c.toNat = 34 then qS i (quoS i r (i + 1) []) else wordH (c :: r) i
theorem wordS_cons (c : UInt8) (r : List UInt8) (i : Nat) : wordS (c :: r) i = if isLet c = true then gS 1 (c :: r) i (nameN (c :: r)) 12 else
    if isDig c = true ∨ (c.toNat = 45 ∧ headDig r = true) then gS 2 (c :: r) i (numN r + 1) 60 else
    if c.toNat = 34 then qS i (quoS i r (i + 1) []) else wordH (c :: r) i := rfl
def wdOf (w : Nat × List UInt8 × Nat × Nat × Nat) (i : Nat) : S91 := ⟨(w.1 : Int), oL w.2.1, (i : Int)⟩
def cutR : Nat → List UInt8 → Nat → List S91 × Nat × Nat
  | 0, R, i => ([], i + R.length, 0)
  | _ + 1, [], i => ([], i, 0)
  | f + 1, c :: r, i => if c.toNat = 35 then ([], i + (r.length + 1), 0) else if c.toNat = 32 then cutR f r (i + 1) else
    if (wordS (c :: r) i).2.2.2.2 = 0 then pre (wdOf (wordS (c :: r) i) i) (cutR f ((c :: r).drop ((wordS (c :: r) i).2.2.1 - i)) (wordS (c :: r) i).2.2.1) else ([], (wordS (c :: r) i).2.2.2.1, (wordS (c :: r) i).2.2.2.2)
def outR (acc : List S91) (q : List S91 × Nat × Nat) : List S91 × Int × Int := if q.2.2 = 0 then (acc ++ q.1, (q.2.1 : Int), 0) else ([], (q.2.1 : Int), (q.2.2 : Int))
def cutW (L : List UInt8) : List S91 × Int × Int := if 400 < L.length then ([], 0, 9) else outR [] (cutR L.length L 0)
theorem drop_at {L : List UInt8} {i : Nat} {c : UInt8} {r : List UInt8} (h : L.drop i = c :: r) : i < L.length ∧ L.getD i 0 = c ∧ L.drop (i + 1) = r := by
  have hlt : i < L.length := by
    rcases Nat.lt_or_ge i L.length with h1 | h1
    · exact h1
    · rw [List.drop_eq_nil_of_le h1] at h; cases h
  rw [List.drop_eq_getElem_cons hlt] at h
  obtain ⟨h1, h2⟩ := List.cons.inj h
  exact ⟨hlt, by rw [List.getD_eq_getElem?_getD, List.getElem?_eq_getElem hlt, ← h1]; rfl, h2⟩
theorem drop_end {L : List UInt8} {i : Nat} (h : L.drop i = []) : L.length ≤ i := List.drop_eq_nil_iff.mp h
theorem drop_len {L : List UInt8} {i : Nat} {R : List UInt8} (h : L.drop i = R) : R.length = L.length - i := by rw [← h, List.length_drop]
theorem letter_eq (c : UInt8) : words_letter.f (c.toNat : Int) = some (isLet c) := by
  have h : ∀ n : Nat, n < 256 → words_letter.f (n : Int) = some ((decide (97 ≤ n) && decide (n ≤ 122)) || ((decide (65 ≤ n) && decide (n ≤ 90)) || decide (n = 95))) := by decide +kernel
  exact h c.toNat c.toNat_lt
theorem digit_eq (c : UInt8) : words_digit.f (c.toNat : Int) = some (isDig c) := by
  have h : ∀ n : Nat, n < 256 → words_digit.f (n : Int) = some (decide (48 ≤ n ∧ n ≤ 57)) := by decide +kernel
  rw [h c.toNat c.toNat_lt]
  congr 1
  rw [Bool.eq_iff_iff, decide_eq_true_iff, isDig_range]
theorem printable_eq (c : UInt8) : words_printable.f (c.toNat : Int) = some (isPrint c) := by
  have h : ∀ n : Nat, n < 256 → words_printable.f (n : Int) = some (decide (32 ≤ n) && decide (n ≤ 126)) := by decide +kernel
  exact h c.toNat c.toNat_lt
theorem digitAt_eq (L : List UInt8) (i : Nat) : words_digitAt.f (oL L) (i : Int) = some (headDig (L.drop i)) := by
  unfold words_digitAt.f
  rw [oL_size]
  cases h : L.drop i with
  | nil => rw [if_neg (by have := drop_end h; omega)]; rfl
  | cons c r =>
    obtain ⟨h1, h2, h3⟩ := drop_at h
    rw [if_pos (by omega), if_pos (by omega), bt_oL, h2, digit_eq]; rfl
theorem nameEnd_l0 (L : List UInt8) (hL : L.length ≤ 1000000) (R : List UInt8) : ∀ i : Nat, L.drop i = R → i ≤ L.length → Ev (fun k => words_nameEnd.l0 k (oL L) (i : Int)) ((i + nameN R : Nat) : Int) := by
  induction R with
  | nil =>
    intro i h hi
    have := drop_end h
    refine Ev.step (fun k => by rw [words_nameEnd.l0]) ?_
    exact Ev.no (by rw [oL_size]; omega) (Ev.is rfl)
  | cons c r ih =>
    intro i h hi
    obtain ⟨h1, h2, h3⟩ := drop_at h
    refine Ev.step (fun k => by rw [words_nameEnd.l0]) (Ev.yes (by rw [oL_size]; omega) (Ev.yes (by omega) ?_))
    rw [bt_oL, h2, letter_eq, digit_eq, w_next i (by omega)]
    simp only [Option.bind_some]
    have := ih (i + 1) h3 (by omega)
    have e : isLet c = true ∨ isDig c = true → i + nameN (c :: r) = i + 1 + nameN r := fun a => by rw [nameN, if_pos a]; omega
    refine Ev.both (fun a => by rw [e (.inl a)]; exact this) (fun a => Ev.both (fun b => by rw [e (.inr b)]; exact this) (fun b => Ev.is ?_))
    rw [nameN, if_neg (fun h => h.elim a b)]; rfl
theorem nameN_le (R : List UInt8) : nameN R ≤ R.length := by
  induction R with
  | nil => exact Nat.le_refl 0
  | cons c r ih => rw [nameN, List.length_cons]; split <;> omega
theorem numberEnd_l0 (L : List UInt8) (hL : L.length ≤ 1000000) (R : List UInt8) : ∀ i : Nat, L.drop i = R → i ≤ L.length → Ev (fun k => words_numberEnd.l0 k (oL L) (i : Int)) ((i + numN R : Nat) : Int) := by
  induction R with
  | nil =>
    intro i h hi
    have := drop_end h
    refine Ev.step (fun k => by rw [words_numberEnd.l0]) ?_
    exact Ev.no (by rw [oL_size]; omega) (Ev.is rfl)
  | cons c r ih =>
    intro i h hi
    obtain ⟨h1, h2, h3⟩ := drop_at h
    refine Ev.step (fun k => by rw [words_numberEnd.l0]) (Ev.yes (by rw [oL_size]; omega) ?_)
    rw [bt_oL, h2, letter_eq, digit_eq, show (i : Int) + 1 = ((i + 1 : Nat) : Int) by omega, digitAt_eq, h3]
    simp only [Option.bind_some]
    have := ih (i + 1) h3 (by omega)
    have hp : ((c.toNat : Int) = 46 ∨ (c.toNat : Int) = 47 ∨ (c.toNat : Int) = 45) ↔ isPt c = true := by unfold isPt; simp only [Bool.or_eq_true, decide_eq_true_iff]; omega
    refine Ev.both (fun p => Ev.both (fun a => ?_) (fun a => Ev.is ?_)) (fun p => Ev.both (fun a => ?_) (fun a => Ev.both (fun b => ?_) (fun b => Ev.is ?_)))
    · rw [numN, if_pos (hp.mp p), if_pos a, show i + (numN r + 1) = i + 1 + numN r by omega]; exact this
    · rw [numN, if_pos (hp.mp p), if_neg a]; rfl
    · rw [numN, if_neg (fun h => p (hp.mpr h)), if_pos (.inl a), show i + (numN r + 1) = i + 1 + numN r by omega]; exact this
    · rw [numN, if_neg (fun h => p (hp.mpr h)), if_pos (.inr b), show i + (numN r + 1) = i + 1 + numN r by omega]; exact this
    · rw [numN, if_neg (fun h => p (hp.mpr h)), if_neg (fun h => h.elim a b)]; rfl
theorem numN_le (R : List UInt8) : numN R ≤ R.length := by
  induction R with
  | nil => exact Nat.le_refl 0
  | cons c r ih => rw [numN, List.length_cons]; split <;> split <;> omega
theorem numberEnd_ev (L : List UInt8) (hL : L.length ≤ 1000000) (i : Nat) (c : UInt8) (r : List UInt8) (h : L.drop i = c :: r) : Ev (fun k => words_numberEnd.f k (oL L) (i : Int)) ((i + (numN r + 1) : Nat) : Int) := by
  obtain ⟨h1, h2, h3⟩ := drop_at h
  unfold words_numberEnd.f
  refine Ev.yes ⟨by omega, by omega, by rw [oL_size]; omega⟩ ?_
  have := numberEnd_l0 L hL r (i + 1) h3 (by omega)
  rw [show i + (numN r + 1) = i + 1 + numN r by omega, show (i : Int) + 1 = ((i + 1 : Nat) : Int) by omega]
  exact this
def toI (l : List UInt8) : List Int := l.map (fun c => (c.toNat : Int))
theorem toI_len (l : List UInt8) : (toI l).length = l.length := by unfold toI; rw [List.length_map]
theorem toI_snoc (l : List UInt8) (c : UInt8) : toI l ++ [(c.toNat : Int)] = toI (l ++ [c]) := by unfold toI; rw [List.map_append]; rfl
theorem strOf_toI (l : List UInt8) : strOfNums (toI l) = oL l := by
  unfold toI oL
  simp only [strOfNums, List.map_map]
  congr 2
  conv => rhs; rw [← List.map_id l]
  refine List.map_congr_left fun b _ => ?_
  simp
def quoR (q : List UInt8 × Nat × Nat × Nat) : ByteArray × Int × Int × Int := (oL q.1, (q.2.1 : Int), (q.2.2.1 : Int), (q.2.2.2 : Int))
theorem quoted_l0 (L : List UInt8) (hL : L.length ≤ 1000000) (a : Nat) (n : Nat) : ∀ (R : List UInt8) (i : Nat) (acc : List UInt8), R.length ≤ n → L.drop i = R → i ≤ L.length → acc.length ≤ i →
    Ev (fun k => words_quoted.l0 k (oL L) (a : Int) (toI acc) (i : Int) 0 0) (quoR (quoS a R i acc)) := by
  induction n with
  | zero =>
    intro R i acc hn h hi hacc
    have hR : R = [] := List.eq_nil_of_length_eq_zero (by omega)
    subst hR
    have := drop_end h
    refine Ev.step (fun k => by rw [words_quoted.l0]) ?_
    exact Ev.no (by rw [oL_size]; omega) (Ev.is rfl)
  | succ n ih =>
    intro R i acc hn h hi hacc
    cases R with
    | nil =>
      have := drop_end h
      refine Ev.step (fun k => by rw [words_quoted.l0]) ?_
      exact Ev.no (by rw [oL_size]; omega) (Ev.is rfl)
    | cons c r =>
      obtain ⟨h1, h2, h3⟩ := drop_at h
      rw [List.length_cons] at hn
      refine Ev.step (fun k => by rw [words_quoted.l0]) (Ev.yes (by rw [oL_size]; omega) (Ev.yes (by omega) ?_))
      rw [w_next i (by omega), bt_oL L i, h2, printable_eq]
      simp only [Option.bind_some]
      refine Ev.both (fun q => Ev.is ?_) (fun q => Ev.both (fun b => ?_) (fun b => Ev.both (fun p => ?_) (fun p => Ev.is ?_)))
      · rw [quoS.eq_def]; dsimp only; rw [if_pos (by omega), strOf_toI]; rfl
      · rw [show wrap64 (((i + 1 : Nat) : Int) - 1) = (i : Int) by unfold wrap64; omega]
        cases r with
        | nil =>
          have := drop_end h3
          refine Ev.yes (by rw [oL_size]; omega) (Ev.is ?_)
          rw [quoS.eq_def]; dsimp only; rw [if_neg (by omega), if_pos (by omega)]; rfl
        | cons d r =>
          obtain ⟨g1, g2, g3⟩ := drop_at h3
          rw [List.length_cons] at hn
          refine Ev.no (by rw [oL_size]; omega) (Ev.yes (by omega) (Ev.yes (by rw [oL_size]; omega) ?_))
          rw [bt_oL L (i + 1), g2, w_next (i + 1) (by omega), toI_snoc, toI_len]
          have key := ih r (i + 1 + 1) (acc ++ [d]) (by omega) g3 (by omega) (by rw [List.length_append, List.length_singleton]; omega)
          have e : d.toNat = 34 ∨ d.toNat = 92 → quoS a (c :: d :: r) i acc = quoS a r (i + 1 + 1) (acc ++ [d]) := fun a => by
            rw [quoS.eq_def]; dsimp only; rw [if_neg (by omega), if_pos (by omega), if_pos a]
          refine Ev.both (fun x => Ev.yes (by omega) ?_) (fun x => Ev.both (fun y => Ev.yes (by omega) ?_) (fun y => Ev.is ?_))
          · rw [e (by omega)]; exact key
          · rw [e (by omega)]; exact key
          · rw [quoS.eq_def]; dsimp only; rw [if_neg (by omega), if_pos (by omega), if_neg (by omega)]; rfl
      · rw [toI_snoc, toI_len]
        refine Ev.yes (by omega) ?_
        have key := ih r (i + 1) (acc ++ [c]) (by omega) h3 (by omega) (by rw [List.length_append, List.length_singleton]; omega)
        rw [show quoS a (c :: r) i acc = quoS a r (i + 1) (acc ++ [c]) by rw [quoS.eq_def]; dsimp only; rw [if_neg (by omega), if_neg (by omega), if_pos p]]
        exact key
      · rw [quoS.eq_def]; dsimp only; rw [if_neg (by omega), if_neg (by omega), if_neg p]; rfl
theorem quoS_end (a n : Nat) : ∀ (R : List UInt8) (i : Nat) (acc : List UInt8), R.length ≤ n → (quoS a R i acc).2.2.2 = 0 → i < (quoS a R i acc).2.1 ∧ (quoS a R i acc).2.1 ≤ i + R.length := by
  induction n with
  | zero =>
    intro R i acc hn h
    have hR : R = [] := List.eq_nil_of_length_eq_zero (by omega)
    subst hR
    exact absurd h (by show ¬ (6 = 0); omega)
  | succ n ih =>
    intro R i acc hn
    cases R with
    | nil => intro h; exact absurd h (by show ¬ (6 = 0); omega)
    | cons c r =>
      rw [List.length_cons] at hn ⊢
      rw [quoS.eq_def]; dsimp only
      split
      · intro _; dsimp only; omega
      split
      · cases r with
        | nil => intro h; exact absurd h (by show ¬ (5 = 0); omega)
        | cons d r =>
          rw [List.length_cons] at hn ⊢
          dsimp only
          split
          · intro h; have := ih r (i + 2) (acc ++ [d]) (by omega) h; omega
          · intro h; exact absurd h (by show ¬ (5 = 0); omega)
      split
      · intro h; have := ih r (i + 1) (acc ++ [c]) (by omega) h; omega
      · intro h; exact absurd h (by show ¬ (5 = 0); omega)
theorem signEnd_j0 (L : List UInt8) (hL : L.length ≤ 1000000) (i : Nat) (c : UInt8) (r : List UInt8) (h : L.drop i = c :: r) : Ev (fun k => words_signEnd.j0 k (oL L) (i : Int)) ((i + oneSg c : Nat) : Int) := by
  obtain ⟨h1, h2, h3⟩ := drop_at h
  refine Ev.step (fun k => by rw [words_signEnd.j0]) (Ev.yes (by omega) (Ev.yes (by rw [oL_size]; omega) ?_))
  rw [bt_oL, h2, w_next i (by omega)]
  have y : ∀ m : Nat, (c.toNat : Int) = m → m ∈ [40, 41, 123, 125, 91, 93, 44, 59, 58, 61, 43, 45, 42, 47, 60, 62, 124, 38, 33, 64, 37] → ((i + 1 : Nat) : Int) = ((i + oneSg c : Nat) : Int) := fun m e hm => by
    rw [oneSg, show c.toNat = m by omega, if_pos hm]
  refine Ev.both (fun e => Ev.is (y 40 e (by decide))) fun n1 => Ev.both (fun e => Ev.is (y 41 e (by decide))) fun n2 => Ev.both (fun e => Ev.is (y 123 e (by decide))) fun n3 =>
    Ev.both (fun e => Ev.is (y 125 e (by decide))) fun n4 => Ev.both (fun e => Ev.is (y 91 e (by decide))) fun n5 => Ev.both (fun e => Ev.is (y 93 e (by decide))) fun n6 =>
    Ev.both (fun e => Ev.is (y 44 e (by decide))) fun n7 => Ev.both (fun e => Ev.is (y 59 e (by decide))) fun n8 => Ev.both (fun e => Ev.is (y 58 e (by decide))) fun n9 =>
    Ev.both (fun e => Ev.is (y 61 e (by decide))) fun n10 => Ev.both (fun e => Ev.is (y 43 e (by decide))) fun n11 => Ev.both (fun e => Ev.is (y 45 e (by decide))) fun n12 =>
    Ev.both (fun e => Ev.is (y 42 e (by decide))) fun n13 => Ev.both (fun e => Ev.is (y 47 e (by decide))) fun n14 => Ev.both (fun e => Ev.is (y 60 e (by decide))) fun n15 =>
    Ev.both (fun e => Ev.is (y 62 e (by decide))) fun n16 => Ev.both (fun e => Ev.is (y 124 e (by decide))) fun n17 => Ev.both (fun e => Ev.is (y 38 e (by decide))) fun n18 =>
    Ev.both (fun e => Ev.is (y 33 e (by decide))) fun n19 => Ev.both (fun e => Ev.is (y 64 e (by decide))) fun n20 => Ev.both (fun e => Ev.is (y 37 e (by decide))) fun n21 => Ev.is ?_
  rw [oneSg, if_neg]; rfl
  simp only [List.mem_cons, List.not_mem_nil, or_false]
  omega
theorem take_two {L : List UInt8} {i : Nat} {c d : UInt8} {r : List UInt8} (h : L.drop i = c :: d :: r) : ((oL L).extract i (i + 2)).toList = [c, d] := by
  rw [oL_extract, oL_toList, List.drop_take, h, show i + 2 - i = 2 by omega]; rfl
theorem signEnd_ev (L : List UInt8) (hL : L.length ≤ 1000000) (i : Nat) (c : UInt8) (r : List UInt8) (h : L.drop i = c :: r) : Ev (fun k => words_signEnd.f k (oL L) (i : Int)) ((i + signN (c :: r) : Nat) : Int) := by
  obtain ⟨h1, h2, h3⟩ := drop_at h
  have hl := drop_len h
  have key := signEnd_j0 L hL i c r h
  unfold words_signEnd.f
  rw [show wrap64 ((i : Int) + 2) = ((i + 2 : Nat) : Int) by unfold wrap64; omega, oL_size]
  cases r with
  | nil => rw [List.length_singleton] at hl; exact Ev.no (by omega) key
  | cons d r =>
    rw [List.length_cons, List.length_cons] at hl
    refine Ev.yes (by omega) (Ev.yes (by omega) (Ev.yes (by omega) ?_))
    rw [Int.toNat_natCast, Int.toNat_natCast, take_two h]
    have y : twoSg c d = true → ((i + 2 : Nat) : Int) = ((i + signN (c :: d :: r) : Nat) : Int) := fun e => by rw [signN, if_pos e]
    refine Ev.both (fun e => Ev.is (y (by unfold twoSg; rw [decide_eq_true e]; rfl))) fun n1 => Ev.both (fun e => Ev.is (y (by unfold twoSg; rw [decide_eq_true e]; simp))) fun n2 =>
      Ev.both (fun e => Ev.is (y (by unfold twoSg; rw [decide_eq_true e]; simp))) fun n3 => Ev.both (fun e => Ev.is (y (by unfold twoSg; rw [decide_eq_true e]; simp))) fun n4 => ?_
    rw [signN, if_neg (by unfold twoSg; rw [decide_eq_false n1, decide_eq_false n2, decide_eq_false n3, decide_eq_false n4]; decide)]
    exact key
theorem signN_le (c : UInt8) (r : List UInt8) : signN (c :: r) ≤ (c :: r).length := by
  have h : oneSg c ≤ 1 := by unfold oneSg; split <;> omega
  cases r with
  | nil => exact h
  | cons d r => rw [signN, List.length_cons, List.length_cons]; split <;> omega
def wordR (w : Nat × List UInt8 × Nat × Nat × Nat) (i : Nat) : Int × ByteArray × Int × Int × Int × Int := ((w.1 : Int), oL w.2.1, (i : Int), (w.2.2.1 : Int), (w.2.2.2.1 : Int), (w.2.2.2.2 : Int))
theorem word_g (L : List UInt8) (i n kind most : Nat) (h : i + n ≤ L.length) : words_word.g (oL L) (i : Int) (kind : Int) ((i + n : Nat) : Int) (most : Int) = some (wordR (gS kind (L.drop i) i n most) i) := by
  unfold words_word.g wordR gS
  rw [if_pos ⟨by omega, by rw [oL_size]; omega⟩, Int.toNat_natCast, Int.toNat_natCast, oL_extract, List.drop_take, show i + n - i = n by omega, show ((i + n : Nat) : Int) - (i : Int) = (n : Int) by omega]
  by_cases hm : most < n
  · rw [if_pos (by omega), if_pos (by omega), if_pos hm, if_pos hm]; rfl
  · rw [if_neg (by omega), if_neg (by omega), if_neg hm, if_neg hm]; rfl
theorem word_h (L : List UInt8) (hL : L.length ≤ 1000000) (i : Nat) (c : UInt8) (r : List UInt8) (h : L.drop i = c :: r) :
    Ev (fun k => words_word.h k (oL L) (i : Int)) (wordR (if c.toNat = 34 then qS i (quoS i r (i + 1) []) else wordH (c :: r) i) i) := by
  obtain ⟨h1, h2, h3⟩ := drop_at h
  have hl := drop_len h
  unfold words_word.h
  rw [bt_oL, h2]
  refine Ev.both (fun q => ?_) (fun q => ?_)
  · rw [if_pos (by omega)]
    have key := quoted_l0 L hL i r.length r (i + 1) [] (Nat.le_refl _) h3 (by omega) (Nat.zero_le _)
    rw [← w_next i (by omega)] at key
    refine Ev.bind (f := fun k q => if q.2.2.2 ≠ 0 then some ((3 : Int), q.1, (i : Int), q.2.1, q.2.2.1, q.2.2.2) else some ((3 : Int), q.1, (i : Int), q.2.1, if 60 < (q.1.size : Int) then (i : Int) else q.2.2.1, if 60 < (q.1.size : Int) then (9 : Int) else 0)) key ?_
    generalize quoS i r (i + 1) [] = z
    unfold quoR
    dsimp only
    refine Ev.both (fun e => Ev.is ?_) (fun e => Ev.is ?_)
    · unfold qS wordR; rw [if_neg (show ¬ (z.2.2.2 = 0) by omega)]; rfl
    · unfold qS wordR; rw [if_pos (show z.2.2.2 = 0 by omega), oL_size]
      by_cases hm : 60 < z.1.length
      · rw [if_pos (by omega), if_pos (by omega), if_pos hm, if_pos hm]; rfl
      · rw [if_neg (by omega), if_neg (by omega), if_neg hm, if_neg hm]; rfl
  · rw [if_neg (by omega)]
    refine Ev.bind (signEnd_ev L hL i c r h) ?_
    have := signN_le c r
    rw [List.length_cons] at hl this
    unfold wordH
    refine Ev.both (fun e => Ev.is ?_) (fun e => ?_)
    · rw [if_pos (by omega)]; unfold wordR; rw [show i + signN (c :: r) = i by omega]; rfl
    · rw [if_neg (by omega), ← h]
      exact ⟨0, fun _ _ => word_g L i _ 4 60 (by rw [h]; omega)⟩
theorem word_ev (L : List UInt8) (hL : L.length ≤ 1000000) (i : Nat) (c : UInt8) (r : List UInt8) (h : L.drop i = c :: r) :
    Ev (fun k => words_word.f k (oL L) (i : Int)) (wordR (wordS (c :: r) i) i) := by
  obtain ⟨h1, h2, h3⟩ := drop_at h
  have hl := drop_len h
  rw [List.length_cons] at hl
  have hh := word_h L hL i c r h
  unfold words_word.f
  refine Ev.yes ⟨by omega, by rw [oL_size]; omega, by rw [oL_size]; omega⟩ ?_
  rw [bt_oL, h2, letter_eq, digit_eq, show (i : Int) + 1 = ((i + 1 : Nat) : Int) by omega, digitAt_eq, h3]
  simp only [Option.bind_some]
  rw [wordS_cons]
  have num : Ev (fun k => (words_numberEnd.f k (oL L) (i : Int)).bind fun e => words_word.g (oL L) (i : Int) 2 e 60) (wordR (gS 2 (c :: r) i (numN r + 1) 60) i) := by
    refine Ev.bind (numberEnd_ev L hL i c r h) ?_
    have := numN_le r
    rw [← h]
    exact ⟨0, fun _ _ => word_g L i _ 2 60 (by omega)⟩
  refine Ev.both (fun a => ?_) (fun a => Ev.both (fun d => ?_) (fun d => Ev.both (fun m => Ev.both (fun b => ?_) (fun b => ?_)) (fun m => ?_)))
  · rw [if_pos a]
    refine Ev.bind (nameEnd_l0 L hL (c :: r) i h (by omega)) ?_
    have := nameN_le (c :: r)
    rw [List.length_cons] at this
    rw [← h] at this ⊢
    exact ⟨0, fun _ _ => word_g L i _ 1 12 (by omega)⟩
  · rw [if_neg a, if_pos (.inl d)]; exact num
  · rw [if_neg a, if_pos (.inr ⟨by omega, b⟩)]; exact num
  · rw [if_neg a, if_neg (fun x => x.elim d (fun y => b y.2))]; exact hh
  · rw [if_neg a, if_neg (fun x => x.elim d (fun y => m (by omega)))]; exact hh
theorem wordS_end (c : UInt8) (r : List UInt8) (i : Nat) (h : (wordS (c :: r) i).2.2.2.2 = 0) : i < (wordS (c :: r) i).2.2.1 ∧ (wordS (c :: r) i).2.2.1 ≤ i + (r.length + 1) := by
  revert h
  rw [wordS_cons]
  split
  · rename_i a
    intro _
    have := nameN_le (c :: r)
    rw [List.length_cons] at this
    have e : nameN (c :: r) = nameN r + 1 := by rw [nameN, if_pos (.inl a)]
    show i < i + nameN (c :: r) ∧ i + nameN (c :: r) ≤ _
    omega
  split
  · intro _
    have := numN_le r
    show i < i + (numN r + 1) ∧ i + (numN r + 1) ≤ _
    omega
  split
  · have := quoS_end i r.length r (i + 1) [] (Nat.le_refl _)
    generalize quoS i r (i + 1) [] = z at *
    unfold qS
    split
    · rename_i hz; intro _; have := this hz; dsimp only; omega
    · rename_i hz; intro h; exact absurd h hz
  · unfold wordH
    split
    · intro h; exact absurd h (by show ¬ (5 = 0); omega)
    · intro _
      have := signN_le c r
      rw [List.length_cons] at this
      show i < i + signN (c :: r) ∧ i + signN (c :: r) ≤ _
      omega
theorem outR_pre (acc : List S91) (x : S91) (q : List S91 × Nat × Nat) : outR (acc ++ [x]) q = outR acc (pre x q) := by
  unfold outR pre
  by_cases h : q.2.2 = 0
  · rw [if_pos h, if_pos h, if_pos rfl, List.append_assoc]; rfl
  · rw [if_neg h, if_neg h, if_neg h]
theorem Cut_l0 (L : List UInt8) (hL : L.length ≤ 1000000) (f : Nat) : ∀ (R : List UInt8) (i : Nat) (acc : List S91), R.length ≤ f → L.drop i = R → i ≤ L.length → acc.length ≤ i →
    Ev (fun k => words_Cut.l0 k (oL L) acc (i : Int)) (outR acc (cutR f R i)) := by
  have fin : ∀ (i : Nat) (acc : List S91) (n : Nat), n = L.length → Ev (fun k => words_Cut.j1 k (oL L) acc (i : Int) false) (outR acc ([], n, 0)) := fun i acc n hn => by
    refine Ev.step (fun k => by rw [words_Cut.j1]) (Ev.no (by decide) (Ev.is ?_))
    unfold outR; rw [if_pos rfl, List.append_nil, oL_size, hn]
  have nil : ∀ (i : Nat) (acc : List S91), L.drop i = [] → i ≤ L.length → Ev (fun k => words_Cut.l0 k (oL L) acc (i : Int)) (outR acc ([], i, 0)) := fun i acc h hi => by
    have := drop_end h
    refine Ev.step (fun k => by rw [words_Cut.l0]) (Ev.no (by rw [oL_size]; omega) ?_)
    exact fin i acc i (by omega)
  induction f with
  | zero =>
    intro R i acc hn h hi ha
    have hR : R = [] := List.eq_nil_of_length_eq_zero (by omega)
    subst hR
    exact nil i acc h hi
  | succ f ih =>
    intro R i acc hn h hi ha
    cases R with
    | nil => exact nil i acc h hi
    | cons c r =>
      obtain ⟨h1, h2, h3⟩ := drop_at h
      have hl := drop_len h
      rw [List.length_cons] at hl hn
      refine Ev.step (fun k => by rw [words_Cut.l0]) (Ev.yes (by rw [oL_size]; omega) (Ev.yes (by omega) ?_))
      rw [bt_oL, h2, cutR]
      by_cases h35 : c.toNat = 35
      · rw [if_pos h35, show ((c.toNat : Int) != 35) = false by rw [h35]; rfl]
        exact fin i acc _ (by omega)
      rw [if_neg h35, show ((c.toNat : Int) != 35) = true by rw [bne_iff_ne]; omega]
      refine Ev.step (fun k => by rw [words_Cut.j1]) (Ev.yes rfl (Ev.yes (by omega) (Ev.yes (by rw [oL_size]; omega) ?_)))
      rw [bt_oL, h2, w_next i (by omega)]
      refine Ev.both (fun s => ?_) (fun s => ?_)
      · rw [if_pos (by omega)]
        exact ih r (i + 1) acc (by omega) h3 (by omega) (by omega)
      · rw [if_neg (by omega)]
        refine Ev.bind (word_ev L hL i c r h) ?_
        have he := wordS_end c r i
        generalize wordS (c :: r) i = w at *
        unfold wordR
        dsimp only
        refine Ev.both (fun e => Ev.yes (by omega) ?_) (fun e => Ev.is ?_)
        · have e0 : w.2.2.2.2 = 0 := by omega
          have := he e0
          rw [if_pos e0]
          have key := ih ((c :: r).drop (w.2.2.1 - i)) w.2.2.1 (acc ++ [wdOf w i]) (by rw [List.length_drop, List.length_cons]; omega) (by rw [← h, List.drop_drop]; congr 1; omega) (by omega) (by rw [List.length_append, List.length_singleton]; omega)
          rw [outR_pre] at key
          exact key
        · rw [if_neg (by omega)]
          unfold outR
          rw [if_neg (by dsimp only; omega)]
theorem words_Cut_ev (L : List UInt8) : Ev (fun k => words_Cut.f k (oL L)) (cutW L) := by
  unfold words_Cut.f cutW
  rw [oL_size]
  refine Ev.both (fun h => Ev.is (by rw [if_pos (by omega)])) (fun h => ?_)
  rw [if_neg (by omega)]
  exact Cut_l0 L (by omega) L.length L 0 [] (Nat.le_refl _) rfl (Nat.zero_le _) (Nat.le_refl _)
theorem drop_cut (l : List S53) (i : Nat) (h : i < l.length) : l.drop i = cutAt l i :: l.drop (i + 1) := by
  rw [List.drop_eq_getElem_cons h]
  congr 1
  unfold cutAt
  rw [List.getD_eq_getElem?_getD, List.getElem?_eq_getElem h]; rfl
theorem okFrom_mem (l : List S53) (d : Nat) : ∀ i, i + d = l.length → okFrom l i d = true → ∀ c ∈ l.drop i, Good c := by
  induction d with
  | zero => intro i h _ c hc; rw [List.drop_eq_nil_of_le (by omega)] at hc; cases hc
  | succ d ih =>
    intro i h ho c hc
    unfold okFrom at ho
    rw [Bool.and_eq_true] at ho
    rw [drop_cut l i (by omega)] at hc
    rcases List.mem_cons.mp hc with rfl | hc
    · have h1 := ho.1
      unfold okAt at h1
      rw [Bool.and_eq_true, Bool.and_eq_true] at h1
      have h2 := h1.1
      unfold inY at h2
      rw [Bool.and_eq_true, decide_eq_true_iff, decide_eq_true_iff] at h2
      exact ⟨h2, h1.2.1⟩
    · exact ih (i + 1) (by omega) ho.2 c hc
theorem termsOk_good {n : Int} {l : List S53} (h : termsOk n l = true) : (0 ≤ n ∧ n ≤ 365) ∧ l.length ≤ 5 ∧ ∀ c ∈ l, Good c := by
  unfold termsOk at h
  rw [Bool.and_eq_true, Bool.and_eq_true] at h
  have h2 := h.1
  unfold inY at h2
  rw [Bool.and_eq_true, decide_eq_true_iff, decide_eq_true_iff] at h2
  exact ⟨h2, of_decide_eq_true h.2.1, fun c hc => okFrom_mem l l.length 0 (by omega) h.2.2 c (by rw [List.drop_zero]; exact hc)⟩
theorem good_cuts {l : List S53} (h : ∀ c ∈ l, Good c) : Cuts l := fun c hc => by
  have h1 := (h c hc).in
  have h2 := (h c hc).1
  unfold I64
  omega
theorem textFrom_eq (l : List S53) (d : Nat) : ∀ i, i + d = l.length → textFrom l i d = (l.drop i).flatMap cutT := by
  induction d with
  | zero => intro i h; rw [List.drop_eq_nil_of_le (by omega)]; rfl
  | succ d ih => intro i h; rw [drop_cut l i (by omega), List.flatMap_cons, textFrom, ih (i + 1) (by omega)]
theorem termsT_eq (n : Int) (b : Bool) (l : List S53) : termsT n b l = l.flatMap cutT ++ endT n b := by
  unfold termsT; rw [textFrom_eq l l.length 0 (by omega), List.drop_zero]
theorem cutT_eq {c : S53} (h : Good c) : cutT c = fracTextL c.f1.f0 c.f1.f1 ++ (32 :: (Lib.itoa c.f0 ++ [32])) := by
  unfold cutT fracTextS
  rw [if_pos h.in.2.2.2.2]
def Stop (r : List UInt8) : Prop := r = [] ∨ ∃ x, r = 32 :: x
theorem numN_digits (X : List UInt8) (hX : X.all isDig = true) (r : List UInt8) : numN (X ++ r) = X.length + numN r := by
  induction X with
  | nil => rw [List.nil_append, List.length_nil, Nat.zero_add]
  | cons c X ih =>
    rw [List.all_cons, Bool.and_eq_true] at hX
    have := (isDig_range c).mp hX.1
    rw [List.cons_append, numN, if_neg (by unfold isPt; simp only [Bool.or_eq_true, decide_eq_true_iff]; omega), if_pos (.inr hX.1), ih hX.2, List.length_cons]
    omega
theorem numN_stop {r : List UInt8} (h : Stop r) : numN r = 0 := by
  rcases h with rfl | ⟨x, rfl⟩
  · rfl
  · rw [numN, if_neg (by decide), if_neg (by decide)]
theorem nameN_stop {r : List UInt8} (h : Stop r) : nameN r = 0 := by
  rcases h with rfl | ⟨x, rfl⟩
  · rfl
  · rw [nameN, if_neg (by decide)]
def NumTok (T : List UInt8) : Prop := ∃ c t, T = c :: t ∧ isDig c = true ∧ T.length ≤ 60 ∧ ∀ r, Stop r → numN (t ++ r) = t.length
theorem tok_digits {X : List UInt8} (h : X.all isDig = true) (h0 : X ≠ []) (hl : X.length ≤ 60) : NumTok X := by
  cases X with
  | nil => exact absurd rfl h0
  | cons c t =>
    rw [List.all_cons, Bool.and_eq_true] at h
    exact ⟨c, t, rfl, h.1, hl, fun r hr => by rw [numN_digits t h.2, numN_stop hr, Nat.add_zero]⟩
theorem itoa_nat {n : Int} (h : 0 ≤ n) (hi : n ≤ 1000000) : (Lib.itoa n).all isDig = true ∧ Lib.itoa n ≠ [] ∧ (Lib.itoa n).length ≤ 20 := by
  have hl := itoa_len n (by unfold I64; omega)
  obtain ⟨h1, h2, h3, h4⟩ := decDigits_spec n.natAbs
  rw [itoa_pos (by omega)] at hl ⊢
  exact ⟨h2, h3, hl⟩
theorem tok_itoa {n : Int} (h : 0 ≤ n) (hi : n ≤ 1000000) : NumTok (Lib.itoa n) := by
  obtain ⟨h1, h2, h3⟩ := itoa_nat h hi
  exact tok_digits h1 h2 (by omega)
theorem tok_frac {c : S53} (h : Good c) : NumTok (fracTextL c.f1.f0 c.f1.f1) := by
  have hi := h.in
  obtain ⟨a1, a2, a3⟩ := itoa_nat (n := c.f1.f0) (by omega) (by omega)
  obtain ⟨b1, b2, b3⟩ := itoa_nat (n := c.f1.f1) (by omega) (by omega)
  unfold fracTextL
  by_cases h1 : c.f1.f1 = 1
  · rw [if_pos h1]; exact tok_digits a1 a2 (by omega)
  rw [if_neg h1]
  cases hA : Lib.itoa c.f1.f0 with
  | nil => exact absurd hA a2
  | cons x t =>
    rw [hA] at a1 a3
    rw [List.all_cons, Bool.and_eq_true] at a1
    rw [List.length_cons] at a3
    refine ⟨x, t ++ 47 :: Lib.itoa c.f1.f1, rfl, a1.1, by rw [List.length_append, List.length_cons, List.length_cons]; omega, fun r hr => ?_⟩
    have hd : headDig (Lib.itoa c.f1.f1 ++ r) = true := by
      cases hB : Lib.itoa c.f1.f1 with
      | nil => exact absurd hB b2
      | cons y s => rw [hB, List.all_cons, Bool.and_eq_true] at b1; exact b1.1
    rw [List.append_assoc, numN_digits t a1.2, List.cons_append, numN, if_pos (by decide), if_pos hd, numN_digits _ b1, numN_stop hr, List.length_append, List.length_cons]
theorem dig_not_let {c : UInt8} (h : isDig c = true) : isLet c = false := by
  have := (isDig_range c).mp h
  unfold isLet
  rw [decide_eq_false (by omega : ¬ 97 ≤ c.toNat), decide_eq_false (by omega : ¬ 65 ≤ c.toNat), decide_eq_false (by omega : ¬ c.toNat = 95)]; rfl
theorem take_app (T r : List UInt8) : (T ++ r).take T.length = T := List.take_left
theorem word_num {T : List UInt8} (hT : NumTok T) (r : List UInt8) (hr : Stop r) (i : Nat) : wordS (T ++ r) i = (2, T, i + T.length, 0, 0) := by
  obtain ⟨c, t, rfl, hd, hl, hn⟩ := hT
  rw [List.cons_append, wordS_cons, dig_not_let hd, if_neg (by decide), if_pos (.inl hd), hn r hr]
  unfold gS
  rw [List.length_cons] at hl
  rw [if_neg (by omega), if_neg (by omega), ← List.cons_append, show t.length + 1 = (c :: t).length from rfl, take_app]
theorem cutR_fuel (f : Nat) : ∀ (g : Nat) (R : List UInt8) (i : Nat), R.length ≤ f → R.length ≤ g → cutR f R i = cutR g R i := by
  induction f with
  | zero =>
    intro g R i h1 h2
    have hR : R = [] := List.eq_nil_of_length_eq_zero (by omega)
    subst hR
    cases g <;> rfl
  | succ f ih =>
    intro g R i h1 h2
    cases R with
    | nil => cases g <;> rfl
    | cons c r =>
      cases g with
      | zero => rw [List.length_cons] at h2; omega
      | succ g =>
        rw [List.length_cons] at h1 h2
        rw [cutR, cutR, ih g r (i + 1) (by omega) (by omega)]
        have he := wordS_end c r i
        generalize wordS (c :: r) i = w at *
        by_cases hw : w.2.2.2.2 = 0
        · have := he hw
          rw [ih g ((c :: r).drop (w.2.2.1 - i)) w.2.2.1 (by rw [List.length_drop, List.length_cons]; omega) (by rw [List.length_drop, List.length_cons]; omega)]
        · rw [if_neg hw, if_neg hw]
def cutV (R : List UInt8) (i : Nat) : List S91 × Nat × Nat := cutR R.length R i
theorem cutV_nil (i : Nat) : cutV [] i = ([], i, 0) := rfl
theorem cutV_space (r : List UInt8) (i : Nat) : cutV (32 :: r) i = cutV r (i + 1) := by
  unfold cutV; rw [List.length_cons, cutR, if_neg (by decide), if_pos (by decide)]
theorem cutV_word {T : List UInt8} (r : List UInt8) (i : Nat) (kind : Nat) (c : UInt8) (t : List UInt8) (hT : T = c :: t) (h1 : ¬ c.toNat = 35) (h2 : ¬ c.toNat = 32) (hw : wordS (T ++ r) i = (kind, T, i + T.length, 0, 0)) :
    cutV (T ++ r) i = pre ⟨(kind : Int), oL T, (i : Int)⟩ (cutV r (i + T.length)) := by
  subst hT
  unfold cutV
  rw [List.cons_append] at hw ⊢
  rw [List.length_cons, cutR, if_neg h1, if_neg h2, hw, if_pos rfl]
  dsimp only
  rw [show i + (c :: t).length - i = (c :: t).length by omega, ← List.cons_append, List.drop_left]
  rw [cutR_fuel (t ++ r).length r.length r _ (by rw [List.length_append]; omega) (Nat.le_refl _)]
  rfl
theorem cutV_num {T : List UInt8} (hT : NumTok T) (r : List UInt8) (hr : Stop r) (i : Nat) : cutV (T ++ r) i = pre ⟨2, oL T, (i : Int)⟩ (cutV r (i + T.length)) := by
  have hw := word_num hT r hr i
  obtain ⟨c, t, e, hd, hl, hn⟩ := hT
  have := (isDig_range c).mp hd
  exact cutV_word r i 2 c t e (by omega) (by omega) hw
def eomT (b : Bool) : List UInt8 := if b = true then [101, 111, 109] else [110, 101, 116]
theorem cutV_name (b : Bool) (r : List UInt8) (hr : Stop r) (i : Nat) : cutV (eomT b ++ r) i = pre ⟨1, oL (eomT b), (i : Int)⟩ (cutV r (i + 3)) := by
  have e3 : (eomT b).length = 3 := by cases b <;> rfl
  have n3 : nameN (eomT b ++ r) = 3 := by
    cases b
    · show nameN (110 :: 101 :: 116 :: r) = 3
      rw [nameN, if_pos (by decide), nameN, if_pos (by decide), nameN, if_pos (by decide), nameN_stop hr]
    · show nameN (101 :: 111 :: 109 :: r) = 3
      rw [nameN, if_pos (by decide), nameN, if_pos (by decide), nameN, if_pos (by decide), nameN_stop hr]
  have key : ∀ (c : UInt8) (t : List UInt8), eomT b = c :: t → isLet c = true → c.toNat ≠ 35 → c.toNat ≠ 32 → cutV (eomT b ++ r) i = pre ⟨1, oL (eomT b), (i : Int)⟩ (cutV r (i + 3)) := fun c t e hl h1 h2 => by
    have := cutV_word (T := eomT b) r i 1 c t e h1 h2 (by
      rw [e, List.cons_append, wordS_cons, if_pos hl, ← List.cons_append, ← e, n3]
      unfold gS
      rw [if_neg (by decide), if_neg (by decide), ← e3, take_app])
    rwa [e3] at this
  cases b
  · exact key 110 [101, 116] rfl (by decide) (by decide) (by decide)
  · exact key 101 [111, 109] rfl (by decide) (by decide) (by decide)
def wordsT (n : Int) (b : Bool) : List S53 → Nat → List S91
  | [], i => [⟨1, oL (eomT b), (i : Int)⟩, ⟨2, oL (Lib.itoa n), ((i + 3 + 1 : Nat) : Int)⟩]
  | c :: l, i => ⟨2, oL (fracTextL c.f1.f0 c.f1.f1), (i : Int)⟩ :: ⟨2, oL (Lib.itoa c.f0), ((i + (fracTextL c.f1.f0 c.f1.f1).length + 1 : Nat) : Int)⟩ :: wordsT n b l (i + (fracTextL c.f1.f0 c.f1.f1).length + 1 + (Lib.itoa c.f0).length + 1)
theorem endT_eq (n : Int) (b : Bool) : endT n b = eomT b ++ 32 :: Lib.itoa n := by cases b <;> rfl
theorem pre_ok {x : S91} {q : List S91 × Nat × Nat} (h : q.2.2 = 0) : pre x q = (x :: q.1, q.2.1, 0) := by unfold pre; rw [if_pos h]
theorem cutV_text (n : Int) (hn : 0 ≤ n ∧ n ≤ 365) (b : Bool) (l : List S53) (hl : ∀ c ∈ l, Good c) : ∀ i, ∃ e, cutV (l.flatMap cutT ++ endT n b) i = (wordsT n b l i, e, 0) := by
  induction l with
  | nil =>
    intro i
    rw [List.flatMap_nil, List.nil_append, endT_eq, cutV_name b _ (.inr ⟨_, rfl⟩), cutV_space]
    have h := cutV_num (tok_itoa hn.1 (by omega)) [] (.inl rfl) (i + 3 + 1)
    rw [List.append_nil] at h
    rw [h, cutV_nil, pre_ok rfl, pre_ok rfl]
    exact ⟨_, rfl⟩
  | cons c l ih =>
    intro i
    have hc := hl c List.mem_cons_self
    rw [List.flatMap_cons, cutT_eq hc]
    rw [show ((fracTextL c.f1.f0 c.f1.f1 ++ 32 :: (Lib.itoa c.f0 ++ [32])) ++ l.flatMap cutT) ++ endT n b = fracTextL c.f1.f0 c.f1.f1 ++ (32 :: (Lib.itoa c.f0 ++ (32 :: (l.flatMap cutT ++ endT n b)))) by simp]
    rw [cutV_num (tok_frac hc) _ (.inr ⟨_, rfl⟩), cutV_space, cutV_num (tok_itoa hc.1.1 (by have := hc.1.2; omega)) _ (.inr ⟨_, rfl⟩), cutV_space]
    obtain ⟨e, he⟩ := ih (fun x hx => hl x (List.mem_cons_of_mem _ hx)) (i + (fracTextL c.f1.f0 c.f1.f1).length + 1 + (Lib.itoa c.f0).length + 1)
    rw [he, pre_ok rfl, pre_ok rfl]
    exact ⟨e, rfl⟩
theorem pnum_is (n : Int) (hn : 0 ≤ n ∧ n ≤ 365) (p : Int) (ws : List S91) : pnum (⟨2, oL (Lib.itoa n), p⟩ :: ws) = some (some (n, ws)) := by
  have hl := itoa_nat hn.1 (by omega)
  unfold pnum
  dsimp only
  rw [if_pos rfl, num_Parse_at _ _ _ (by rw [oL_size]; omega), oL_list, parse_itoa n 0 365 (by unfold I64; omega) hn.1 hn.2]
  rfl
theorem pterms_text (n : Int) (hn : 0 ≤ n ∧ n ≤ 365) (b : Bool) (l : List S53) (hl : ∀ c ∈ l, Good c) : ∀ (i : Nat) (cs : List S53), cs.length + l.length ≤ 1000 → Ev (fun k => pterms k (wordsT n b l i) cs) (some (n, b, cs ++ l)) := by
  induction l with
  | nil =>
    intro i cs hcs
    refine Ev.step (fun k => by rw [wordsT, pterms]) (Ev.yes rfl ?_)
    rw [oL_toList, pnum_is n hn, List.append_nil]
    refine Ev.yes (by cases b <;> decide) (Ev.yes rfl (Ev.is ?_))
    cases b <;> rfl
  | cons c l ih =>
    intro i cs hcs
    have hc := hl c List.mem_cons_self
    have hi := hc.in
    rw [List.length_cons] at hcs
    refine Ev.step (fun k => by rw [wordsT, pterms]) (Ev.no (show ¬ ((2 : Int) = 1) by decide) (Ev.yes rfl ?_))
    have hp := frac_Parse_ev (fracTextL c.f1.f0 c.f1.f1) (by obtain ⟨_, _, _, _, h, _⟩ := tok_frac hc; omega)
    rw [show parseS (fracTextL c.f1.f0 c.f1.f1) = (c.f1.f0, c.f1.f1, 0) from parse_text _ _ hi.2.2.2.2] at hp
    refine Ev.bind hp (Ev.yes rfl ?_)
    rw [pnum_is c.f0 hc.1]
    simp only [Option.bind_some]
    refine Ev.yes (by omega) ?_
    have key := ih (fun x hx => hl x (List.mem_cons_of_mem _ hx)) (i + (fracTextL c.f1.f0 c.f1.f1).length + 1 + (Lib.itoa c.f0).length + 1) (cs ++ [c]) (by rw [List.length_append, List.length_singleton]; omega)
    rw [List.append_assoc] at key
    exact key
theorem parse_range (l : List UInt8) (h : (parseL l 0 365).2 = 0) : I64 (parseL l 0 365).1 := by
  revert h
  unfold parseL
  split
  · split
    · rename_i h; intro _; exact h.1
    · intro h; exact absurd h (by show ¬ ((3 : Int) = 0); omega)
  · intro h; exact absurd h (by show ¬ ((5 : Int) = 0); omega)
theorem pnum_total (ws : List S91) (hw : ∀ w ∈ ws, w.f1.size ≤ 900) : ∃ r, pnum ws = some r ∧ ∀ p, r = some p → I64 p.1 ∧ ∃ x, ws = x :: p.2 := by
  cases ws with
  | nil => exact ⟨none, rfl, fun p h => by cases h⟩
  | cons x ws =>
    have hx := hw x List.mem_cons_self
    unfold pnum
    dsimp only
    rw [num_Parse_at _ _ _ (by omega)]
    simp only [Option.bind_some]
    by_cases h1 : x.f0 = 2
    · rw [if_pos h1]
      by_cases h2 : (parseL x.f1.data.toList 0 365).2 = 0
      · rw [if_pos h2]
        refine ⟨_, rfl, fun p h => ?_⟩
        obtain rfl := Option.some.inj h
        exact ⟨parse_range _ h2, x, rfl⟩
      · rw [if_neg h2]; exact ⟨none, rfl, fun p h => by cases h⟩
    · rw [if_neg h1]; exact ⟨none, rfl, fun p h => by cases h⟩
theorem pterms_total (n : Nat) : ∀ (ws : List S91) (cs : List S53), ws.length ≤ n → (∀ w ∈ ws, w.f1.size ≤ 900) → Cuts cs → cs.length + n ≤ 1000 →
    ∃ r, Ev (fun k => pterms k ws cs) r ∧ ∀ t, r = some t → I64 t.1 ∧ Cuts t.2.2 ∧ t.2.2.length ≤ 1000 := by
  have no : ∀ t : Int × Bool × List S53, (none : Option (Int × Bool × List S53)) = some t → I64 t.1 ∧ Cuts t.2.2 ∧ t.2.2.length ≤ 1000 := fun t h => by cases h
  induction n with
  | zero =>
    intro ws cs h1 h2 h3 h4
    have hR : ws = [] := List.eq_nil_of_length_eq_zero (by omega)
    subst hR
    exact ⟨none, Ev.step (fun k => by rw [pterms]) (Ev.now none), no⟩
  | succ n ih =>
    intro ws cs h1 h2 h3 h4
    cases ws with
    | nil => exact ⟨none, Ev.step (fun k => by rw [pterms]) (Ev.now none), no⟩
    | cons x ws =>
      rw [List.length_cons] at h1
      have hx := h2 x List.mem_cons_self
      have hws : ∀ w ∈ ws, w.f1.size ≤ 900 := fun w hw => h2 w (List.mem_cons_of_mem _ hw)
      obtain ⟨p, hp, hpr⟩ := pnum_total ws hws
      by_cases k1 : x.f0 = 1
      · by_cases k2 : x.f1.toList = netL ∨ x.f1.toList = eomL
        · by_cases k3 : ws.length = 1
          · refine ⟨p.map fun p => (p.1, x.f1.toList == eomL, cs), ?_, ?_⟩
            · refine Ev.step (fun k => by rw [pterms]) (Ev.yes k1 (Ev.yes k2 (Ev.yes k3 ?_)))
              rw [hp]; exact Ev.now _
            · intro t ht
              cases p with
              | none => cases ht
              | some p => obtain rfl := Option.some.inj ht; exact ⟨(hpr p rfl).1, h3, by dsimp only; omega⟩
          · exact ⟨none, Ev.step (fun k => by rw [pterms]) (Ev.yes k1 (Ev.yes k2 (Ev.no k3 (Ev.now _)))), no⟩
        · exact ⟨none, Ev.step (fun k => by rw [pterms]) (Ev.yes k1 (Ev.no k2 (Ev.now _))), no⟩
      by_cases k2 : x.f0 = 2
      · have hf := frac_Parse_ev x.f1.data.toList (by rw [← size_eq']; exact hx)
        rw [oL_data] at hf
        have hr := parseS_right x.f1.data.toList
        generalize parseS x.f1.data.toList = f at *
        by_cases k3 : f.2.2 = 0
        · cases p with
          | none =>
            refine ⟨none, Ev.step (fun k => by rw [pterms]) (Ev.no k1 (Ev.yes k2 (Ev.bind hf (Ev.yes k3 ?_)))), no⟩
            rw [hp]; exact Ev.now _
          | some p =>
            obtain ⟨hi, y, hy⟩ := hpr p rfl
            rw [hy, List.length_cons] at h1
            obtain ⟨r, hr1, hr2⟩ := ih p.2 (cs ++ [⟨p.1, ⟨f.1, f.2.1⟩⟩]) (by omega) (fun w hw => hws w (by rw [hy]; exact List.mem_cons_of_mem _ hw))
              (fun c hc => by
                rcases List.mem_append.mp hc with hc | hc
                · exact h3 c hc
                · rw [List.mem_singleton] at hc; subst hc; exact ⟨hi, (hr k3).2.1, (hr k3).2.2⟩) (by rw [List.length_append, List.length_singleton]; omega)
            refine ⟨r, Ev.step (fun k => by rw [pterms]) (Ev.no k1 (Ev.yes k2 (Ev.bind hf (Ev.yes k3 ?_)))), hr2⟩
            rw [hp]
            simp only [Option.bind_some]
            exact Ev.yes (by omega) hr1
        · exact ⟨none, Ev.step (fun k => by rw [pterms]) (Ev.no k1 (Ev.yes k2 (Ev.bind hf (Ev.no k3 (Ev.now _))))), no⟩
      · exact ⟨none, Ev.step (fun k => by rw [pterms]) (Ev.no k1 (Ev.no k2 (Ev.now _))), no⟩
theorem pre_facts (x : S91) (q : List S91 × Nat × Nat) (m n : Nat) (hx : x.f1.size ≤ m) (h1 : ∀ w ∈ q.1, w.f1.size ≤ m) (h2 : q.1.length ≤ n) : (∀ w ∈ (pre x q).1, w.f1.size ≤ m) ∧ (pre x q).1.length ≤ n + 1 := by
  unfold pre
  split
  · refine ⟨fun w hw => ?_, by rw [List.length_cons]; omega⟩
    rcases List.mem_cons.mp hw with rfl | hw
    · exact hx
    · exact h1 w hw
  · exact ⟨fun w hw => (by cases hw), Nat.zero_le _⟩
theorem gS_small (kind : Nat) (R : List UInt8) (i n most : Nat) (hm : most ≤ 60) (h : (gS kind R i n most).2.2.2.2 = 0) : (gS kind R i n most).2.1.length ≤ 60 := by
  unfold gS at *
  dsimp only at *
  rw [List.length_take]
  by_cases c : most < n
  · rw [if_pos c] at h; omega
  · omega
theorem wordS_small (c : UInt8) (r : List UInt8) (i : Nat) (h : (wordS (c :: r) i).2.2.2.2 = 0) : (wordS (c :: r) i).2.1.length ≤ 60 := by
  revert h
  rw [wordS_cons]
  split
  · exact gS_small _ _ _ _ _ (by decide)
  split
  · exact gS_small _ _ _ _ _ (by decide)
  split
  · generalize quoS i r (i + 1) [] = z
    unfold qS
    split
    · intro h
      dsimp only at h ⊢
      by_cases c : 60 < z.1.length
      · rw [if_pos c] at h; omega
      · omega
    · rename_i hz; intro h; exact absurd h hz
  · unfold wordH
    split
    · intro h; exact absurd h (by show ¬ (5 = 0); omega)
    · exact gS_small _ _ _ _ _ (by decide)
theorem cutR_small (f : Nat) : ∀ (R : List UInt8) (i : Nat), (∀ w ∈ (cutR f R i).1, w.f1.size ≤ 60) ∧ (cutR f R i).1.length ≤ f := by
  have no : ∀ (n : Nat) (q : Nat × Nat), (∀ w ∈ (([], q) : List S91 × Nat × Nat).1, w.f1.size ≤ 60) ∧ (([], q) : List S91 × Nat × Nat).1.length ≤ n := fun n q => ⟨fun w hw => (by cases hw), Nat.zero_le _⟩
  induction f with
  | zero => intro R i; exact no _ _
  | succ f ih =>
    intro R i
    cases R with
    | nil => exact no _ _
    | cons c r =>
      rw [cutR]
      split
      · exact no _ _
      split
      · have := ih r (i + 1); exact ⟨this.1, by omega⟩
      split
      · rename_i hw
        have hk := ih ((c :: r).drop ((wordS (c :: r) i).2.2.1 - i)) (wordS (c :: r) i).2.2.1
        exact pre_facts _ _ 60 f (by unfold wdOf; rw [oL_size]; exact wordS_small c r i hw) hk.1 hk.2
      · exact no _ _
def errT : Int × Bool × List S53 × Int := (0, false, [], 5)
def OutT (L : List UInt8) (r : Int × Bool × List S53 × Int) : Prop := r = errT ∨ ∃ n b l, r = (n, b, l, 0) ∧ I64 n ∧ Cuts l ∧ l.length ≤ 1000 ∧ termsOk n l = true ∧ termsT n b l = L
theorem terms_Parse_total (L : List UInt8) (hL : L.length ≤ 400) : ∃ r, Ev (fun k => terms_Parse.f k (oL L)) r ∧ OutT L r := by
  have hc := words_Cut_ev L
  unfold cutW at hc
  rw [if_neg (by omega)] at hc
  obtain ⟨s1, s2⟩ := cutR_small L.length L 0
  generalize cutR L.length L 0 = q at *
  unfold outR at hc
  by_cases hq : q.2.2 = 0
  · rw [if_pos hq, List.nil_append] at hc
    obtain ⟨r, hr, hf⟩ := pterms_total q.1.length q.1 [] (Nat.le_refl _) (fun w hw => by have := s1 w hw; omega) (fun c hc => by cases hc) (by rw [List.length_nil]; omega)
    cases r with
    | none => exact ⟨errT, by unfold terms_Parse.f; exact Ev.bind hc (Ev.yes rfl (Ev.bind hr (Ev.now _))), .inl rfl⟩
    | some t =>
      obtain ⟨f1, f2, f3⟩ := hf t rfl
      have ht := terms_Text_ev t.1 f1 t.2.1 t.2.2 f2 f3
      unfold termsTextS at ht
      by_cases hok : termsOk t.1 t.2.2 = true
      · rw [if_pos hok] at ht
        by_cases he : termsT t.1 t.2.1 t.2.2 = L
        · have key : ((oL (termsT t.1 t.2.1 t.2.2)).toList == (oL L).toList) = true := by rw [oL_toList, oL_toList, he, beq_self_eq_true]
          exact ⟨(t.1, t.2.1, t.2.2, 0), by unfold terms_Parse.f; exact Ev.bind hc (Ev.yes rfl (Ev.bind hr (Ev.bind ht (Ev.yes rfl (Ev.yes key (Ev.now _)))))), .inr ⟨t.1, t.2.1, t.2.2, rfl, f1, f2, f3, hok, he⟩⟩
        · have key : ¬ ((oL (termsT t.1 t.2.1 t.2.2)).toList == (oL L).toList) = true := by rw [oL_toList, oL_toList, beq_iff_eq]; exact he
          exact ⟨errT, by unfold terms_Parse.f; exact Ev.bind hc (Ev.yes rfl (Ev.bind hr (Ev.bind ht (Ev.yes rfl (Ev.no key (Ev.now _)))))), .inl rfl⟩
      · rw [if_neg hok] at ht
        exact ⟨errT, by unfold terms_Parse.f; exact Ev.bind hc (Ev.yes rfl (Ev.bind hr (Ev.bind ht (Ev.no (by decide) (Ev.now _))))), .inl rfl⟩
  · rw [if_neg hq] at hc
    exact ⟨errT, by unfold terms_Parse.f; exact Ev.bind hc (Ev.no (by dsimp only; omega) (Ev.now _)), .inl rfl⟩
theorem terms_Parse_text (n : Int) (b : Bool) (l : List S53) (h : termsOk n l = true) (hL : (termsT n b l).length ≤ 400) : Ev (fun k => terms_Parse.f k (oL (termsT n b l))) (n, b, l, 0) := by
  obtain ⟨h1, h2, h3⟩ := termsOk_good h
  have hc := words_Cut_ev (termsT n b l)
  unfold cutW at hc
  rw [if_neg (by omega)] at hc
  obtain ⟨e, he⟩ := cutV_text n h1 b l h3 0
  rw [← termsT_eq] at he
  unfold cutV at he
  rw [he] at hc
  have ht := terms_Text_ev n (by unfold I64; omega) b l (good_cuts h3) (by omega)
  unfold termsTextS at ht
  rw [if_pos h] at ht
  unfold terms_Parse.f
  refine Ev.bind hc (Ev.yes rfl (Ev.bind (pterms_text n h1 b l h3 0 [] (by rw [List.length_nil]; omega)) (Ev.bind ht (Ev.yes rfl (Ev.yes ?_ (Ev.now _))))))
  show ((oL _).toList == (oL _).toList) = true
  rw [beq_self_eq_true]
theorem termsT_len {n : Int} {b : Bool} {l : List S53} (h : termsOk n l = true) : (termsT n b l).length ≤ 400 := by
  obtain ⟨h1, h2, h3⟩ := termsOk_good h
  have hc : ∀ l : List S53, (∀ c ∈ l, Good c) → (l.flatMap cutT).length ≤ 70 * l.length := by
    intro l
    induction l with
    | nil => intro _; exact Nat.le_refl _
    | cons c l ih =>
      intro hl
      have hg := hl c List.mem_cons_self
      obtain ⟨_, _, _, _, hf, _⟩ := tok_frac hg
      have hi := (itoa_nat hg.1.1 (by have := hg.1.2; omega)).2.2
      have hi1 := (itoa_nat (n := c.f1.f0) (by have := hg.in; omega) (by have := hg.in; omega)).2.2
      have hi2 := (itoa_nat (n := c.f1.f1) (by have := hg.in; omega) (by have := hg.in; omega)).2.2
      have hf2 : (fracTextL c.f1.f0 c.f1.f1).length ≤ 41 := by
        unfold fracTextL; split
        · omega
        · rw [List.length_append, List.length_cons]; omega
      have := ih (fun x hx => hl x (List.mem_cons_of_mem _ hx))
      rw [List.flatMap_cons, List.length_append, cutT_eq hg, List.length_append, List.length_cons, List.length_append, List.length_singleton, List.length_cons]
      omega
  have := hc l h3
  have hi := (itoa_nat h1.1 (by omega)).2.2
  rw [termsT_eq, List.length_append, endT_eq, List.length_append, List.length_cons, show (eomT b).length = 3 by cases b <;> rfl]
  omega
theorem same_l0 (l : List S53) (hl : l.length ≤ 1000) (n : Int) (b : Bool) (d : Nat) : ∀ i : Nat, i + d = l.length → Ev (fun k => rf24_Same.l0 k (i : Int) n b l n b l) true := by
  induction d with
  | zero => intro i h; exact Ev.step (fun k => by rw [rf24_Same.l0]) (Ev.no (by omega) (Ev.now _))
  | succ d ih =>
    intro i h
    refine Ev.step (fun k => by rw [rf24_Same.l0]) (Ev.yes (by omega) (Ev.yes (by omega) (Ev.yes (by omega) ?_)))
    rw [beq_self_eq_true, beq_self_eq_true, beq_self_eq_true, w_succ i (by omega)]
    exact Ev.no (by decide) (ih (i + 1) (by omega))
theorem Same_refl (n : Int) (b : Bool) (l : List S53) (hl : l.length ≤ 1000) : Ev (fun k => rf24_Same.f k n b l n b l) true := by
  unfold rf24_Same.f
  have key : Ev (fun k => rf24_Same.j0 k false n b l n b l) true := by
    refine Ev.step (fun k => by rw [rf24_Same.j0]) (Ev.no (by decide) ?_)
    exact same_l0 l hl n b l.length 0 (by omega)
  refine Ev.yes rfl (Ev.no (by cases b <;> decide) ?_)
  rw [show ((l.length : Int) != (l.length : Int)) = false by rw [bne_self_eq_false]]
  exact key
end Go.Proofs.YtelfiofnhchmbaaDoor.A
