/- FracRight: for every fraction the program's test of validity answers as the reference's, and the chapter's examples hold. -/
import Derived.Test.YtoenhagbgfkihaaAx2
import Derived.Test.YtoenhagbgfkihaaAx24
import Derived.Test.YtoenhagbgfkihaaL2
namespace Go.Proofs.Ytoenhagbgfkihaa.Pure
open Go.RowKit Go.Proofs.Ytoenhagbgfkihaa.A Go.Proofs.Ytoenhagbgfkihaa.B Go.Proofs.YtoenhagbgfkihaaW.PrintWords Go.Proofs.YtoenhagbgfkihaaW.PrintLast Go.Proofs.YtoenhagbgfkihaaW.PrintMore
set_option linter.unusedVariables false
set_option linter.unusedSimpArgs false
theorem FracRight : ∀ a0_0 a0_1 : Int, I64 a0_0 → I64 a0_1 → ∃ k, accountinglaw03_FracRight.f k a0_0 a0_1 = some true := by
  intro a b ha hb
  refine Ev.rounds ?_
  unfold accountinglaw03_FracRight.f
  exact Ev.bind (frac_Right_ev a b ha hb) (Ev.bind (ref03_Right_ev a b ha hb) (Ev.yes (by simp) (Ev.is rfl)))
end Go.Proofs.Ytoenhagbgfkihaa.Pure
