/- FracParse: for every string of at most 80 bytes the program's fraction and error code are the reference's, and the chapter's examples hold. -/
import Derived.Test.YtoenhagbgfkihaaAx23
import Derived.Test.YtoenhagbgfkihaaL12
namespace Go.Proofs.Ytoenhagbgfkihaa.Pure
open Go.RowKit Go.Proofs.Ytoenhagbgfkihaa.A Go.Proofs.Ytoenhagbgfkihaa.B Go.Proofs.YtoenhagbgfkihaaW.PrintWords Go.Proofs.YtoenhagbgfkihaaW.PrintLast Go.Proofs.YtoenhagbgfkihaaW.PrintMore
set_option linter.unusedVariables false
set_option linter.unusedSimpArgs false
theorem FracParse : accountinglaw03_FracParse.Pure := by
  intro s hs
  refine Ev.rounds ?_
  unfold accountinglaw03_FracParse.f
  refine Ev.both (fun h => Ev.is rfl) (fun h => ?_)
  have hl : s.data.toList.length ≤ 900 := by rw [data_length]; omega
  have e1 := frac_Parse_ev s.data.toList hl
  have e2 := ref03_Parse_ev s.data.toList hl
  rw [oL_data] at e1 e2
  exact Ev.bind e1 (Ev.bind e2 (Ev.yes (by simp) (Ev.yes rfl (Ev.is rfl))))
end Go.Proofs.Ytoenhagbgfkihaa.Pure
