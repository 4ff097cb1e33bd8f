/- Proved: the Go function accountinglaw07.MoneyOrder returns true at every input and leaves its arguments as they were; the package variable money.powers is tied to the program's text. This text: the plain law over the functions that the walks have shown. By an AI agent. -/
import Derived.Test.YthmpapnhomngnaaDoorL3
import Derived.Test.YthmpapnhomngnaaDoorAx21
namespace Go.Proofs.YthmpapnhomngnaaDoor.Pure
open Go.RowKit Go.Proofs.YthmpapnhomngnaaDoor.A Go.Proofs.YthmpapnhomngnaaDoor.B Go.Proofs.YthmpapnhomngnaaDoorW.PrintWords Go.Proofs.YthmpapnhomngnaaDoorW.PrintLast

theorem rnd_mono (a b p m : Int) (hp : 0 < p) (h : a ≤ b) : rnd a p m ≤ rnd b p m := by
  have q1 := Int.ediv_le_ediv hp h
  have a1 := Int.mul_ediv_add_emod a p
  have b1 := Int.mul_ediv_add_emod b p
  have a2 := Int.emod_nonneg a (show p ≠ 0 by omega)
  have b2 := Int.emod_nonneg b (show p ≠ 0 by omega)
  have a3 := Int.emod_lt_of_pos a hp
  have b3 := Int.emod_lt_of_pos b hp
  unfold rnd
  by_cases e : a / p = b / p
  · have hu : rUp a (a / p) (a % p) p m = true → rUp b (b / p) (b % p) p m = true := by
      rw [← e] at b1 ⊢
      have hneg : a < 0 → p * (a / p) ≤ -p := by
        intro ha
        have : a / p ≤ -1 := by have := Int.ediv_neg_of_neg_of_pos ha hp; omega
        have := Int.mul_le_mul_of_nonneg_left this (show 0 ≤ p by omega)
        omega
      generalize p * (a / p) = X at *
      generalize a / p = q at *
      generalize a % p = r at *
      generalize b % p = s at *
      unfold rUp
      rw [decide_eq_true_iff, decide_eq_true_iff]
      by_cases ha : a < 0
      · have := hneg ha; omega
      · omega
    rw [e] at hu ⊢
    split
    · rename_i h1; rw [if_pos (hu h1)]; omega
    · split <;> omega
  · split <;> split <;> omega
theorem MoneyOrder : accountinglaw07_MoneyOrder.Pure := by
  intro a b f t m ha hb hf ht hm
  have ha := i64_of ha
  have hb := i64_of hb
  have h : Ev (fun k => accountinglaw07_MoneyOrder.f k a b f t m) true := by
    unfold accountinglaw07_MoneyOrder.f
    refine Ev.both (fun _ => Ev.const rfl) (fun hab => ?_)
    rw [money_Scale_at a f t m ha, money_Scale_at b f t m hb]
    simp only [Option.bind_some]
    refine Ev.both (fun e1 => Ev.both (fun e2 => Ev.yes ?_ (Ev.bind lives07 (Ev.const rfl))) (fun _ => Ev.bind lives07 (Ev.const rfl))) (fun _ => Ev.bind lives07 (Ev.const rfl))
    revert e1 e2
    unfold scaleM
    by_cases h1 : m < 1 ∨ 5 < m
    · rw [if_pos h1]; intro e; cases e
    rw [if_neg h1, if_neg h1]
    by_cases h2 : (fitsB f && fitsB t) = false
    · rw [if_pos h2]; intro e; cases e
    rw [if_neg h2, if_neg h2]
    by_cases h3 : farB a = true
    · rw [if_pos h3]; intro e; cases e
    rw [if_neg h3]
    by_cases h3 : farB b = true
    · rw [if_pos h3]; intro _ e; cases e
    rw [if_neg h3]
    by_cases h4 : t ≤ f
    · rw [if_pos h4, if_pos h4]
      intro _ _
      exact rnd_mono a b _ m (pow10_pos _) (by omega)
    · rw [if_neg h4, if_neg h4]
      by_cases h5 : farB (a * pow10 (t - f).toNat) = true
      · rw [if_pos h5]; intro e; cases e
      rw [if_neg h5]
      by_cases h5 : farB (b * pow10 (t - f).toNat) = true
      · rw [if_pos h5]; intro _ e; cases e
      rw [if_neg h5]
      intro _ _
      exact Int.mul_le_mul_of_nonneg_right (by omega) (by have := pow10_pos (t - f).toNat; omega)
  obtain ⟨n, h⟩ := h
  exact ⟨n, h n (Nat.le_refl _)⟩
end Go.Proofs.YthmpapnhomngnaaDoor.Pure
