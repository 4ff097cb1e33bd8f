/- Proved: the Go function accountinglaw07.MoneyBack returns true at every input and leaves its arguments as they were; the package variable money.powers is tied to the program's text. This text: the plain law over the functions that the walks have shown. By an AI agent. -/
import Derived.Test.YthmpapnhomngnaaDoorL3
import Derived.Test.YthmpapnhomngnaaDoorAx5
import Derived.Test.YthmpapnhomngnaaDoorAx19
namespace Go.Proofs.YthmpapnhomngnaaDoor.Pure
open Go.RowKit Go.Proofs.YthmpapnhomngnaaDoor.A Go.Proofs.YthmpapnhomngnaaDoor.B Go.Proofs.YthmpapnhomngnaaDoorW.PrintWords Go.Proofs.YthmpapnhomngnaaDoorW.PrintLast

theorem rnd_exact (a p m : Int) (hp : 0 < p) : rnd (a * p) p m = a := by
  obtain ⟨e1, e2⟩ := ediv_unique (a := a * p) (p := p) (q := a) (r := 0) (by rw [Int.mul_comm]; omega) (by omega) hp
  unfold rnd
  rw [e1, e2]
  have : rUp (a * p) a 0 p m = false := by unfold rUp; rw [decide_eq_false_iff_not]; omega
  rw [this]; simp
theorem MoneyBack : accountinglaw07_MoneyBack.Pure := by
  intro a f t m ha hf ht hm
  have ha := i64_of ha
  have h : Ev (fun k => accountinglaw07_MoneyBack.f k a f t m) true := by
    unfold accountinglaw07_MoneyBack.f
    refine Ev.both (fun _ => Ev.const rfl) (fun hft => ?_)
    rw [money_Scale_at a f t m ha]
    simp only [Option.bind_some]
    by_cases h1 : m < 1 ∨ 5 < m
    · rw [show scaleM a f t m = (0, 10) by unfold scaleM; rw [if_pos h1]]
      exact Ev.no (by decide) (Ev.yes rfl (Ev.bind lives07 (Ev.const rfl)))
    by_cases h2 : (fitsB f && fitsB t) = false
    · rw [show scaleM a f t m = (0, 2) by unfold scaleM; rw [if_neg h1, if_pos h2]]
      exact Ev.no (by decide) (Ev.yes rfl (Ev.bind lives07 (Ev.const rfl)))
    by_cases h3 : farB a = true
    · rw [show scaleM a f t m = (0, 4) by unfold scaleM; rw [if_neg h1, if_neg h2, if_pos h3]]
      exact Ev.no (by decide) (Ev.yes rfl (Ev.bind lives07 (Ev.const rfl)))
    obtain ⟨f0, f4, t0, t4⟩ := fits_both h2
    obtain ⟨a0, a1⟩ := farB_not h3
    have h2' : ¬ (fitsB t && fitsB f) = false := by rw [Bool.and_comm]; exact h2
    have hp := pow10_pos (t - f).toNat
    have one : pow10 0 = 1 := rfl
    by_cases h4 : t ≤ f
    · obtain rfl : t = f := by omega
      have e : scaleM a t t m = (a, 0) := by
        unfold scaleM
        rw [if_neg h1, if_neg h2, if_neg h3, if_pos h4, Int.sub_self, show (0 : Int).toNat = 0 from rfl, one]
        have := rnd_exact a 1 m (by decide)
        rw [Int.mul_one] at this; rw [this]
      rw [e]
      refine Ev.yes rfl ?_
      show Ev (fun k => (money_Scale.f a t t m).bind _) true
      rw [money_Scale_at a t t m ha, e]
      exact Ev.yes rfl (Ev.yes rfl (Ev.bind lives07 (Ev.const rfl)))
    · have e : scaleM a f t m = if farB (a * pow10 (t - f).toNat) = true then (0, 4) else (a * pow10 (t - f).toNat, 0) := by
        unfold scaleM
        rw [if_neg h1, if_neg h2, if_neg h3, if_neg h4]
      rw [e]
      by_cases h5 : farB (a * pow10 (t - f).toNat) = true
      · rw [if_pos h5]
        exact Ev.no (by decide) (Ev.yes rfl (Ev.bind lives07 (Ev.const rfl)))
      · rw [if_neg h5]
        obtain ⟨b0, b1⟩ := farB_not h5
        refine Ev.yes rfl ?_
        show Ev (fun k => (money_Scale.f (a * pow10 (t - f).toNat) t f m).bind _) true
        rw [money_Scale_at _ t f m (by unfold I64; omega)]
        have e2 : scaleM (a * pow10 (t - f).toNat) t f m = (a, 0) := by
          unfold scaleM
          rw [if_neg h1, if_neg h2', if_neg h5, if_pos (by omega), rnd_exact _ _ _ hp]
        rw [e2]
        exact Ev.yes rfl (Ev.yes rfl (Ev.bind lives07 (Ev.const rfl)))
  obtain ⟨n, h⟩ := h
  exact ⟨n, h n (Nat.le_refl _)⟩
end Go.Proofs.YthmpapnhomngnaaDoor.Pure
