/- FracOrder: for every two fractions the order is antisymmetric and agrees with the sign of the difference, and the chapter's examples hold. -/
import Derived.Test.YtoenhagbgfkihaaAx10
import Derived.Test.YtoenhagbgfkihaaAx22
import Derived.Test.YtoenhagbgfkihaaL2
namespace Go.Proofs.Ytoenhagbgfkihaa.Pure
open Go.RowKit Go.Proofs.Ytoenhagbgfkihaa.A Go.Proofs.Ytoenhagbgfkihaa.B Go.Proofs.YtoenhagbgfkihaaW.PrintWords Go.Proofs.YtoenhagbgfkihaaW.PrintLast Go.Proofs.YtoenhagbgfkihaaW.PrintMore
set_option linter.unusedVariables false
set_option linter.unusedSimpArgs false
theorem makeS_sign (n d : Int) (hd : 0 < d) (h : (makeS n d).2.2 = 0) : ((makeS n d).1 < 0 ↔ n < 0) ∧ ((makeS n d).1 > 0 ↔ n > 0) := by
  unfold makeS at *
  rw [if_neg (by omega)] at *
  have hg : 0 < Nat.gcd n.natAbs d.natAbs := gcd_pos_of (by omega)
  have hdv : Nat.gcd n.natAbs d.natAbs ∣ n.natAbs := Nat.gcd_dvd_left _ _
  split at h
  · simp at h
  · rename_i hs
    rw [if_neg hs]
    obtain ⟨q, hq⟩ := hdv
    have e : n.natAbs / Nat.gcd n.natAbs d.natAbs = q := by
      conv => lhs; lhs; rw [hq]
      exact Nat.mul_div_cancel_left _ hg
    rw [e]
    have hq0 : q = 0 ↔ n = 0 := by
      constructor
      · intro h0; subst h0; rw [Nat.mul_zero] at hq; omega
      · intro h0; subst h0
        rcases Nat.mul_eq_zero.mp hq.symm with h1 | h1
        · omega
        · exact h1
    simp only [decide_eq_false (show ¬ d < 0 by omega)]
    by_cases hn : n < 0
    · rw [decide_eq_true hn]; simp; omega
    · rw [decide_eq_false hn]; simp; omega
theorem FracOrder : ∀ a0_0 a0_1 a1_0 a1_1 : Int, I64 a0_0 → I64 a0_1 → I64 a1_0 → I64 a1_1 → ∃ k, accountinglaw03_FracOrder.f k a0_0 a0_1 a1_0 a1_1 = some true := by
  intro a b c d ha hb hc hd
  refine Ev.rounds ?_
  have hI : I64 a ∧ I64 b ∧ I64 c ∧ I64 d := ⟨ha, hb, hc, hd⟩
  unfold accountinglaw03_FracOrder.f frac_Sub.f
  rw [if_pos hI]
  simp only [Option.bind_some]
  refine Ev.bind (frac_Cmp_ev a b c d ha hb hc hd) (Ev.bind (frac_Cmp_ev c d a b hc hd ha hb) (Ev.yes ?_ ?_))
  · by_cases h1 : rightS a b = true ∧ rightS c d = true
    · rw [if_pos h1, if_pos ⟨h1.2, h1.1⟩]
      unfold cmpS wrap64
      (repeat' split) <;> omega
    · rw [if_neg h1, if_neg (fun h => h1 ⟨h.2, h.1⟩)]
      unfold wrap64; omega
  · by_cases h1 : rightS a b = true ∧ rightS c d = true
    · obtain ⟨h1, h2⟩ := h1
      have b1 := right_bounds h1
      have b2 := right_bounds h2
      rw [if_pos (show rightS a b = true ∧ rightS c d = true from ⟨h1, h2⟩)]
      unfold joinS
      rw [if_pos h1, if_pos h2]
      have m1 := mul_bound (x := a) (y := d) (by omega) (by omega)
      have m2 := mul_bound (x := c) (y := b) (by omega) (by omega)
      rw [wrap_mul (x := a) (y := d) (by omega) (by omega), wrap_mul (x := c) (y := b) (by omega) (by omega), wrap_mul (x := b) (y := d) (by omega) (by omega)]
      rw [wrap64_in (x := a * d - c * b) (by unfold I64; omega)]
      have hbd : 0 < b * d := Int.mul_pos (by omega) (by omega)
      refine Ev.both (fun h => ?_) (fun h => Ev.is rfl)
      obtain ⟨s1, s2⟩ := makeS_sign _ _ hbd h
      have c1 : cmpS a d c b < 0 ↔ a * d - c * b < 0 := by unfold cmpS; (repeat' split) <;> omega
      have c2 : cmpS a d c b > 0 ↔ a * d - c * b > 0 := by unfold cmpS; (repeat' split) <;> omega
      refine Ev.no ?_ (Ev.no ?_ (Ev.is rfl))
      · rw [bne_iff_ne, Ne, Classical.not_not, decide_eq_decide, c1, s1]
      · rw [bne_iff_ne, Ne, Classical.not_not, decide_eq_decide, c2, s2]
    · rw [if_neg h1]
      refine Ev.no ?_ (Ev.is rfl)
      unfold joinS
      by_cases h2 : rightS a b = true
      · rw [if_pos h2, if_neg (fun h3 => h1 ⟨h2, h3⟩)]; decide
      · rw [if_neg h2]; decide
end Go.Proofs.Ytoenhagbgfkihaa.Pure
