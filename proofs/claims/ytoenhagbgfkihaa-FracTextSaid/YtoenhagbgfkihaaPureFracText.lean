/- FracText: for every fraction the program's notation is the reference's, error code included, and the chapter's examples hold. -/
import Derived.Test.YtoenhagbgfkihaaAx26
import Derived.Test.YtoenhagbgfkihaaL5
namespace Go.Proofs.Ytoenhagbgfkihaa.Pure
open Go.RowKit Go.Proofs.Ytoenhagbgfkihaa.A Go.Proofs.Ytoenhagbgfkihaa.B Go.Proofs.YtoenhagbgfkihaaW.PrintWords Go.Proofs.YtoenhagbgfkihaaW.PrintLast Go.Proofs.YtoenhagbgfkihaaW.PrintMore
set_option linter.unusedVariables false
set_option linter.unusedSimpArgs false
theorem FracText : ∀ a0_0 a0_1 : Int, I64 a0_0 → I64 a0_1 → ∃ k, accountinglaw03_FracText.f k a0_0 a0_1 = some true := by
  intro a b ha hb
  refine Ev.rounds ?_
  unfold accountinglaw03_FracText.f
  exact Ev.bind (frac_Text_ev a b ha hb) (Ev.bind (ref03_Text_ev a b ha hb) (Ev.yes rfl (Ev.yes rfl (Ev.is rfl))))
end Go.Proofs.Ytoenhagbgfkihaa.Pure
