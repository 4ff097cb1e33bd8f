/- Proved: the Go function accountinglaw07.MoneyTexts returns true at every input and leaves its arguments as they were; the package variable money.powers is tied to the program's text. This text: the plain law over the functions that the walks have shown. By an AI agent. -/
import Derived.Test.YthmpapnhomngnaaDoorL6
import Derived.Test.YthmpapnhomngnaaDoorAx4
import Derived.Test.YthmpapnhomngnaaDoorAx12
namespace Go.Proofs.YthmpapnhomngnaaDoor.Pure
open Go.RowKit Go.Proofs.YthmpapnhomngnaaDoor.A Go.Proofs.YthmpapnhomngnaaDoor.B Go.Proofs.YthmpapnhomngnaaDoorW.PrintWords Go.Proofs.YthmpapnhomngnaaDoorW.PrintLast

theorem dval_digs : ∀ (d u : Nat) (l : List UInt8), dval (l ++ digs d u) = dval l * 10 ^ d + u % 10 ^ d
  | 0, u, l => by rw [digs, List.append_nil, Nat.pow_zero, Nat.mul_one, Nat.mod_one, Nat.add_zero]
  | d + 1, u, l => by
    rw [digs, ← List.append_assoc, dval_snoc_digit _ _ (Nat.mod_lt _ (by decide)), dval_digs d (u / 10) l, Nat.pow_succ, Nat.mul_comm (10 ^ d) 10, Nat.mod_mul, Nat.mul_add, ← Nat.mul_assoc, Nat.mul_comm 10 (dval l)]
    rw [Nat.mul_assoc]; omega
theorem textL_form (x d : Nat) : refForm (Lib.decDigits (x / 10 ^ d) ++ (if d = 0 then [] else 46 :: digs d x)) d = some (Lib.decDigits (x / 10 ^ d), digs d x) := by
  obtain ⟨_, h2, h3, _⟩ := decDigits_spec (x / 10 ^ d)
  have hlen := dec_len_pos (x / 10 ^ d)
  generalize Lib.decDigits (x / 10 ^ d) = w at *
  unfold refForm
  by_cases h0 : d = 0
  · subst h0
    rw [if_pos rfl, if_pos rfl, List.append_nil, if_pos ⟨h2, h3⟩]; rfl
  · rw [if_neg h0, if_neg h0]
    have hl : (w ++ 46 :: digs d x).length = w.length + d + 1 := by rw [List.length_append, List.length_cons, digs_length]; omega
    have hn : (w ++ 46 :: digs d x).length - d - 1 = w.length := by omega
    rw [hn, hl]
    have ht : (w ++ 46 :: digs d x).take w.length = w := List.take_left
    have hd : (w ++ 46 :: digs d x).drop (w.length + 1) = digs d x := by rw [← List.drop_drop, List.drop_left]; rfl
    rw [ht, hd, if_pos ⟨by omega, by simp, h2, digs_all d x⟩]
theorem parse_text (a : Int) (D : Nat) (h4 : D ≤ 4) (h0 : -1000000000000000 ≤ a) (h1 : a ≤ 1000000000000000) : parseM (textL a D) (D : Int) = (a, 0) := by
  unfold parseM
  rw [if_neg (by rw [Bool.not_eq_false, fitsB_iff]; omega), Int.toNat_natCast]
  obtain ⟨e1, e2, e3, e4⟩ := decDigits_spec (a.natAbs / 10 ^ D)
  have hneg : negOf (textL a D) = decide (a < 0) ∧ magOf (textL a D) = Lib.decDigits (a.natAbs / 10 ^ D) ++ (if D = 0 then [] else 46 :: digs D a.natAbs) := by
    unfold textL
    by_cases hn : a < 0
    · rw [if_pos hn, decide_eq_true hn]; exact ⟨rfl, rfl⟩
    · rw [if_neg hn, decide_eq_false hn, List.nil_append]
      have : negOf (Lib.decDigits (a.natAbs / 10 ^ D) ++ (if D = 0 then [] else 46 :: digs D a.natAbs)) = false := by
        have := decDigits_not_minus (a.natAbs / 10 ^ D)
        unfold negOf at this ⊢
        cases hl : Lib.decDigits (a.natAbs / 10 ^ D) with
        | nil => exact absurd hl e3
        | cons c r => rw [hl] at this; exact this
      refine ⟨this, ?_⟩
      unfold magOf; rw [this]; rfl
  rw [hneg.1, hneg.2]
  unfold formM
  rw [textL_form]
  dsimp only
  rw [if_pos]
  · have hv : dval (plainL (Lib.decDigits (a.natAbs / 10 ^ D) ++ digs D a.natAbs)) = a.natAbs := by
      rw [plainL_val, dval_digs, e1]
      have := Nat.div_add_mod a.natAbs (10 ^ D)
      rw [Nat.mul_comm] at this; exact this
    unfold parseCore
    rw [hv, if_neg, if_pos (by omega)]
    · unfold sgn
      by_cases hn : a < 0
      · rw [decide_eq_true hn, if_pos rfl]; congr 1; omega
      · rw [decide_eq_false hn, if_neg (by decide)]; congr 1; omega
    · rintro ⟨n1, n2⟩
      rw [n2] at hv
      have : a < 0 := of_decide_eq_true n1
      have hz : dval [48] = 0 := rfl
      omega
  · rw [plainL_same_iff]
    rintro ⟨l1, l2⟩
    have := e4 l2
    omega
theorem textL_len (a : Int) (D : Nat) (h4 : D ≤ 4) (h0 : -1000000000000000 ≤ a) (h1 : a ≤ 1000000000000000) : (textL a D).length ≤ 100 := by
  unfold textL
  have h2 : Lib.nDigits (a.natAbs / 10 ^ D) ≤ 19 := nDigits_le 18 _ (by
    have := Nat.div_le_self a.natAbs (10 ^ D)
    omega)
  rw [List.length_append, List.length_append, Lib.decDigits_length]
  have e1 : (if a < 0 then [45] else ([] : List UInt8)).length ≤ 1 := by split <;> simp
  have e2 : (if D = 0 then [] else 46 :: digs D a.natAbs).length ≤ 5 := by
    split
    · simp
    · rw [List.length_cons, digs_length]; omega
  omega
theorem MoneyTexts : accountinglaw07_MoneyTexts.Pure := by
  intro a d ha hd
  have ha := i64_of ha
  have h : Ev (fun k => accountinglaw07_MoneyTexts.f k a d) true := by
    unfold accountinglaw07_MoneyTexts.f
    rw [show money_Text.f a d = some (textS a d) from rfl]
    simp only [Option.bind_some]
    refine Ev.bind (ref07_Text a d ha) (Ev.yes rfl (Ev.yes rfl (Ev.bind lives07 ?_)))
    refine Ev.step (fun k => by rw [accountinglaw07_MoneyTexts.j0]) (Ev.no (by decide) ?_)
    rw [textS_eq]
    by_cases h1 : fitsB d = false
    · rw [if_pos h1]; exact Ev.no (by decide) (Ev.const rfl)
    rw [if_neg h1]
    by_cases h2 : farB a = true
    · rw [if_pos h2]; exact Ev.no (by decide) (Ev.const rfl)
    rw [if_neg h2]
    rw [Bool.not_eq_false] at h1
    obtain ⟨d0, d4⟩ := (fitsB_iff d).mp h1
    obtain ⟨a0, a1⟩ := farB_not h2
    obtain ⟨D, rfl⟩ : ∃ D : Nat, d = D := ⟨d.toNat, by omega⟩
    rw [Int.toNat_natCast]
    refine Ev.yes rfl ?_
    have := money_Parse_at ⟨(textL a D).toArray⟩ D (by rw [size_eq']; have := textL_len a D (by omega) a0 a1; show (textL a D).length ≤ 400; omega)
    rw [ba_toList, parse_text a D (by omega) a0 a1] at this
    exact Ev.bind this (Ev.yes rfl (Ev.const rfl))
  obtain ⟨n, h⟩ := h
  exact ⟨n, h n (Nat.le_refl _)⟩
end Go.Proofs.YthmpapnhomngnaaDoor.Pure
