/- The fractions' reference computes what the program computes: valid fractions, quotients in lowest terms, sums, products, order. -/
import Derived.Test.YtoenhagbgfkihaaAx2
import Derived.Test.YtoenhagbgfkihaaAx9
import Derived.Test.YtoenhagbgfkihaaAx11
import Derived.Test.YtoenhagbgfkihaaL1
namespace Go.Proofs.Ytoenhagbgfkihaa.A
open Go.RowKit Go.Proofs.Ytoenhagbgfkihaa.B Go.Proofs.YtoenhagbgfkihaaW.PrintWords Go.Proofs.YtoenhagbgfkihaaW.PrintLast Go.Proofs.YtoenhagbgfkihaaW.PrintMore
set_option linter.unusedVariables false
set_option linter.unusedSimpArgs false
theorem ref03_size_eq (a : Int) (ha : I64 a) : accountingref03_size.f a = some (a.natAbs : Int) := by
  unfold accountingref03_size.f; exact size_wrap a ha
theorem ref03_divisor_ev (x y : Nat) : Ev (fun k => accountingref03_divisor.f k (x : Int) (y : Int)) ((Nat.gcd x y : Nat) : Int) := by
  unfold accountingref03_divisor.f
  exact gcd_of accountingref03_divisor.l0 (fun k x y => by rw [accountingref03_divisor.l0]) y x y (Nat.le_refl _)
theorem rightS_iff (n d : Int) : rightS n d = true ↔ (1 ≤ d ∧ d ≤ 1000000 ∧ n.natAbs ≤ 1000000 ∧ Nat.gcd n.natAbs d.natAbs = 1) := by
  unfold rightS; simp [and_assoc]
theorem ref03_Right_ev (n d : Int) (hn : I64 n) (hd : I64 d) : Ev (fun k => accountingref03_Right.f k n d) (rightS n d) := by
  unfold accountingref03_Right.f
  have no : ¬ (1 ≤ d ∧ d ≤ 1000000 ∧ n.natAbs ≤ 1000000 ∧ Nat.gcd n.natAbs d.natAbs = 1) → false = rightS n d := fun h => by
    rw [Eq.comm, ← Bool.not_eq_true, rightS_iff]; exact h
  refine Ev.both (fun h1 => Ev.both (fun h2 => Ev.both (fun h3 => Ev.both (fun h4 => ?_) (fun h => Ev.is (no (by omega)))) (fun h => Ev.is (no (by omega)))) (fun h => Ev.is (no (by omega)))) (fun h => Ev.is (no (by omega)))
  rw [ref03_size_eq n hn, ref03_size_eq d hd]
  simp only [Option.bind_some]
  refine Ev.bind (ref03_divisor_ev _ _) (Ev.is ?_)
  rw [Bool.eq_iff_iff, beq_iff_eq, rightS_iff]
  constructor
  · intro h; exact ⟨by omega, by omega, by omega, by omega⟩
  · intro h; have := h.2.2.2; omega
theorem ref03_Make_ev (n d : Int) (hn : I64 n) (hd : I64 d) : Ev (fun k => accountingref03_Make.f k n d) (makeS n d) := by
  unfold accountingref03_Make.f makeS
  refine Ev.both (fun h => Ev.is (by rw [if_pos h])) (fun h => ?_)
  rw [if_neg h, ref03_size_eq n hn, ref03_size_eq d hd]
  simp only [Option.bind_some]
  refine Ev.bind (ref03_divisor_ev _ _) ?_
  have hg : 0 < Nat.gcd n.natAbs d.natAbs := gcd_pos_of (by omega)
  refine Ev.no (by omega) ?_
  unfold I64 at hn hd
  rw [div_u64 _ _ (by omega), div_u64 _ _ (by omega)]
  generalize n.natAbs / Nat.gcd n.natAbs d.natAbs = a
  generalize d.natAbs / Nat.gcd n.natAbs d.natAbs = b
  have e : ∀ b' : Bool, b' = true → Ev (fun k => accountingref03_Make.j0 k n d (a : Int) (b : Int) b') (0, 0, 4) := fun b' hb => Ev.step (fun k => by rw [accountingref03_Make.j0]) (Ev.yes hb (Ev.is rfl))
  refine Ev.both (fun h1 => ?_) (fun h1 => ?_)
  · rw [if_pos (.inl (by omega))]; exact e _ rfl
  · by_cases h2 : 1000000 < b
    · rw [if_pos (.inr h2)]; exact e _ (decide_eq_true (by omega))
    · rw [if_neg (by omega)]
      refine Ev.step (fun k => by rw [accountingref03_Make.j0]) (Ev.no (by rw [decide_eq_false (by omega)]; decide) ?_)
      have w1 : wrap64 (a : Int) = a := by unfold wrap64; omega
      have w2 : wrap64 (b : Int) = b := by unfold wrap64; omega
      have w3 : wrap64 (-(a : Int)) = -(a : Int) := by unfold wrap64; omega
      rw [w1, w2, w3]
      refine Ev.both (fun h3 => Ev.is (by rw [if_pos h3])) (fun h3 => Ev.is (by rw [if_neg h3]))
theorem right_bounds {n d : Int} (h : rightS n d = true) : -1000000 ≤ n ∧ n ≤ 1000000 ∧ 1 ≤ d ∧ d ≤ 1000000 := by
  rw [rightS_iff] at h; omega
theorem right_neg (n d : Int) : rightS (-n) d = rightS n d := by unfold rightS; rw [Int.natAbs_neg]
theorem mul_bound {x y : Int} (hx : -1000000 ≤ x ∧ x ≤ 1000000) (hy : -1000000 ≤ y ∧ y ≤ 1000000) : -1000000000000 ≤ x * y ∧ x * y ≤ 1000000000000 := by
  have h : (x * y).natAbs ≤ 1000000 * 1000000 := by
    rw [Int.natAbs_mul]; exact Nat.mul_le_mul (by omega) (by omega)
  omega
theorem wrap_mul {x y : Int} (hx : -1000000 ≤ x ∧ x ≤ 1000000) (hy : -1000000 ≤ y ∧ y ≤ 1000000) : wrap64 (x * y) = x * y := by
  have := mul_bound hx hy
  exact wrap64_in (by unfold I64; omega)
theorem frac_Cmp_ev (a b c d : Int) (ha : I64 a) (hb : I64 b) (hc : I64 c) (hd : I64 d) : Ev (fun k => frac_Cmp.f k a b c d) (if rightS a b = true ∧ rightS c d = true then cmpS a d c b else 0) := by
  unfold frac_Cmp.f
  refine Ev.bind (frac_Right_ev a b ha hb) (Ev.both (fun h1 => ?_) (fun h1 => Ev.is (by rw [if_neg (fun h => h1 h.1)])))
  refine Ev.bind (frac_Right_ev c d hc hd) (Ev.both (fun h2 => ?_) (fun h2 => Ev.is (by rw [if_neg (fun h => h2 h.2)])))
  unfold muldiv_Cmp.f
  rw [if_pos ⟨ha, hd, hc, hb⟩, if_pos ⟨h1, h2⟩]
  exact Ev.is rfl
end Go.Proofs.Ytoenhagbgfkihaa.A
