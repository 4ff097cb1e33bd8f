/- FracMake: for every two integers the program's fraction is the reference's, error code included, and the chapter's examples hold. -/
import Derived.Test.YtoenhagbgfkihaaAx2
import Derived.Test.YtoenhagbgfkihaaAx21
import Derived.Test.YtoenhagbgfkihaaL2
namespace Go.Proofs.Ytoenhagbgfkihaa.Pure
open Go.RowKit Go.Proofs.Ytoenhagbgfkihaa.A Go.Proofs.Ytoenhagbgfkihaa.B Go.Proofs.YtoenhagbgfkihaaW.PrintWords Go.Proofs.YtoenhagbgfkihaaW.PrintLast Go.Proofs.YtoenhagbgfkihaaW.PrintMore
set_option linter.unusedVariables false
set_option linter.unusedSimpArgs false
theorem FracMake : accountinglaw03_FracMake.Pure := by
  intro a b ha hb
  replace ha := i64_of ha
  replace hb := i64_of hb
  refine Ev.rounds ?_
  unfold accountinglaw03_FracMake.f
  exact Ev.bind (frac_Make_ev a b ha hb) (Ev.bind (ref03_Make_ev a b ha hb) (Ev.yes (by simp) (Ev.yes rfl (Ev.is rfl))))
end Go.Proofs.Ytoenhagbgfkihaa.Pure
