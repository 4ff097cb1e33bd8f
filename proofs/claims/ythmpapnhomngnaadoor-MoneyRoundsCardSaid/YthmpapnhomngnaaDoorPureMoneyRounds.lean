/- Proved: the Go function accountinglaw07.MoneyRounds returns true at every input and leaves its arguments as they were; the package variable money.powers is tied to the program's text. This text: the plain law over the functions that the walks have shown. By an AI agent. -/
import Derived.Test.YthmpapnhomngnaaDoorL3
import Derived.Test.YthmpapnhomngnaaDoorAx18
import Derived.Test.YthmpapnhomngnaaDoorAx20
namespace Go.Proofs.YthmpapnhomngnaaDoor.Pure
open Go.RowKit Go.Proofs.YthmpapnhomngnaaDoor.A Go.Proofs.YthmpapnhomngnaaDoor.B Go.Proofs.YthmpapnhomngnaaDoorW.PrintWords Go.Proofs.YthmpapnhomngnaaDoorW.PrintLast

theorem rounds_yes (a f t m n : Int) : Ev (fun k => accountinglaw07_MoneyRounds.j0 k a f t m n true) true :=
  Ev.step (fun k => by rw [accountinglaw07_MoneyRounds.j0]) (Ev.yes rfl (Ev.bind lives07 (Ev.const rfl)))
theorem rounds_no (a f t m : Int) (m1 : 1 ≤ m) (m5 : m ≤ 5) (h0 : 0 ≤ f - t) (h4 : f - t ≤ 4) (a0 : -1000000000000000 ≤ a) (a1 : a ≤ 1000000000000000) : Ev (fun k => accountinglaw07_MoneyRounds.j0 k a f t m (rnd a (pow10 (f - t).toNat) m) false) true := by
  refine Ev.step (fun k => by rw [accountinglaw07_MoneyRounds.j0]) (Ev.no (by decide) ?_)
  rw [show wrap64 (f - t) = f - t by unfold wrap64; omega]
  refine Ev.bind (ref07_Power (f - t) h0 h4) ?_
  have hp := pow10_pos (f - t).toNat
  have hp2 := pow10_le (d := (f - t).toNat) (by omega)
  generalize pow10 (f - t).toNat = p at *
  have r0 := Int.emod_nonneg a (show p ≠ 0 by omega)
  have r1 := Int.emod_lt_of_pos a hp
  have hqr := Int.mul_ediv_add_emod a p
  obtain ⟨U, hU, hn⟩ : ∃ U : Int, (U = p ∧ rUp a (a / p) (a % p) p m = true ∨ U = 0 ∧ ¬ rUp a (a / p) (a % p) p m = true) ∧ rnd a p m * p = p * (a / p) + U := by
    unfold rnd
    by_cases hu : rUp a (a / p) (a % p) p m = true
    · exact ⟨p, .inl ⟨rfl, hu⟩, by rw [if_pos hu, Int.add_mul, Int.one_mul, Int.mul_comm]⟩
    · exact ⟨0, .inr ⟨rfl, hu⟩, by rw [if_neg hu, Int.add_zero, Int.add_zero, Int.mul_comm]⟩
  unfold rUp at hU
  rw [decide_eq_true_iff] at hU
  have hd : wrap64 (wrap64 (rnd a p m * p) - a) = U - a % p := by
    rw [hn]
    generalize p * (a / p) = X at *
    have : wrap64 (X + U) = X + U := by unfold wrap64; omega
    rw [this]; unfold wrap64; omega
  rw [hd, show wrap64 (-p) = -p by unfold wrap64; omega, show wrap64 (2 * (U - a % p)) = 2 * (U - a % p) by unfold wrap64; omega]
  clear hd hn hqr
  generalize a % p = r at *
  generalize a / p = q at *
  have L : Ev (fun k => (accountinglaw07_lives.f k).bind fun t => some t) true := Ev.bind lives07 (Ev.const rfl)
  repeat' (first | exact L | (exfalso; omega) | refine Ev.both (fun _ => ?_) (fun _ => ?_))
theorem MoneyRounds : accountinglaw07_MoneyRounds.Pure := by
  intro a f t m ha hf ht hm
  have ha := i64_of ha
  have h : Ev (fun k => accountinglaw07_MoneyRounds.f k a f t m) true := by
    unfold accountinglaw07_MoneyRounds.f
    rw [money_Scale_at a f t m ha]
    simp only [Option.bind_some]
    by_cases hft : f < t
    · rw [decide_eq_true hft]
      exact Ev.both (fun _ => rounds_yes _ _ _ _ _) (fun _ => rounds_yes _ _ _ _ _)
    rw [decide_eq_false hft]
    refine Ev.both (fun e => ?_) (fun _ => rounds_yes _ _ _ _ _)
    revert e
    unfold scaleM
    by_cases h1 : m < 1 ∨ 5 < m
    · rw [if_pos h1]; intro e; cases e
    rw [if_neg h1]
    by_cases h2 : (fitsB f && fitsB t) = false
    · rw [if_pos h2]; intro e; cases e
    rw [if_neg h2]
    by_cases h3 : farB a = true
    · rw [if_pos h3]; intro e; cases e
    rw [if_neg h3, if_pos (by omega)]
    intro _
    obtain ⟨f0, f4, t0, t4⟩ := fits_both h2
    obtain ⟨a0, a1⟩ := farB_not h3
    exact rounds_no a f t m (by omega) (by omega) (by omega) (by omega) a0 a1
  obtain ⟨n, h⟩ := h
  exact ⟨n, h n (Nat.le_refl _)⟩
end Go.Proofs.YthmpapnhomngnaaDoor.Pure
