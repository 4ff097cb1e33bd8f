/- FracArith: for every two fractions the program's sum, difference, product, quotient and order are the reference's, error codes included, and the chapter's examples hold. -/
import Derived.Test.YtoenhagbgfkihaaAx9
import Derived.Test.YtoenhagbgfkihaaAx10
import Derived.Test.YtoenhagbgfkihaaAx19
import Derived.Test.YtoenhagbgfkihaaL3
namespace Go.Proofs.Ytoenhagbgfkihaa.Pure
open Go.RowKit Go.Proofs.Ytoenhagbgfkihaa.A Go.Proofs.Ytoenhagbgfkihaa.B Go.Proofs.YtoenhagbgfkihaaW.PrintWords Go.Proofs.YtoenhagbgfkihaaW.PrintLast Go.Proofs.YtoenhagbgfkihaaW.PrintMore
set_option linter.unusedVariables false
set_option linter.unusedSimpArgs false
theorem FracArith : ∀ a0_0 a0_1 a1_0 a1_1 : Int, I64 a0_0 → I64 a0_1 → I64 a1_0 → I64 a1_1 → ∃ k, accountinglaw03_FracArith.f k a0_0 a0_1 a1_0 a1_1 = some true := by
  intro a b c d ha hb hc hd
  refine Ev.rounds ?_
  have hI : I64 a ∧ I64 b ∧ I64 c ∧ I64 d := ⟨ha, hb, hc, hd⟩
  have e2 : Ev (fun k => accountinglaw03_FracArith.j2 k false a b c d) true := by
    refine Ev.step (fun k => by rw [accountinglaw03_FracArith.j2]) (Ev.no (by decide) ?_)
    unfold frac_Quo.f
    rw [if_pos hI]
    simp only [Option.bind_some]
    exact Ev.bind (ref03_Quo_ev a b c d ha hb hc hd) (Ev.yes (by simp) (Ev.yes rfl (Ev.bind (frac_Cmp_ev a b c d ha hb hc hd) (Ev.bind (ref03_Cmp_ev a b c d ha hb hc hd) (Ev.yes rfl (Ev.is rfl))))))
  have e1 : Ev (fun k => accountinglaw03_FracArith.j1 k false a b c d) true := by
    refine Ev.step (fun k => by rw [accountinglaw03_FracArith.j1]) (Ev.no (by decide) ?_)
    unfold frac_Mul.f
    rw [if_pos hI]
    simp only [Option.bind_some]
    exact Ev.bind (ref03_Mul_ev a b c d ha hb hc hd) (Ev.no (by simp) (by simpa using e2))
  have e0 : Ev (fun k => accountinglaw03_FracArith.j0 k false a b c d) true := by
    refine Ev.step (fun k => by rw [accountinglaw03_FracArith.j0]) (Ev.no (by decide) ?_)
    unfold frac_Sub.f
    rw [if_pos hI]
    simp only [Option.bind_some]
    exact Ev.bind (ref03_Sub_ev a b c d ha hb hc hd) (Ev.no (by simp) (by simpa using e1))
  unfold accountinglaw03_FracArith.f frac_Add.f
  rw [if_pos hI]
  simp only [Option.bind_some]
  exact Ev.bind (ref03_Add_ev a b c d ha hb hc hd) (Ev.no (by simp) (by simpa using e0))
end Go.Proofs.Ytoenhagbgfkihaa.Pure
