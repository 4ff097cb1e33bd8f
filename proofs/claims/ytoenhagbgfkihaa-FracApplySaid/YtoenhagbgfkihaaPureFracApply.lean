/- FracApply: for every fraction, amount and rounding mode the program's product is the reference's, error code included, and the chapter's examples hold. -/
import Derived.Test.YtoenhagbgfkihaaAx2
import Derived.Test.YtoenhagbgfkihaaAx3
import Derived.Test.YtoenhagbgfkihaaAx12
import Derived.Test.YtoenhagbgfkihaaAx18
import Derived.Test.YtoenhagbgfkihaaL4
namespace Go.Proofs.Ytoenhagbgfkihaa.Pure
open Go.RowKit Go.Proofs.Ytoenhagbgfkihaa.A Go.Proofs.Ytoenhagbgfkihaa.B Go.Proofs.YtoenhagbgfkihaaW.PrintWords Go.Proofs.YtoenhagbgfkihaaW.PrintLast Go.Proofs.YtoenhagbgfkihaaW.PrintMore
set_option linter.unusedVariables false
set_option linter.unusedSimpArgs false
theorem FracApply : ∀ a0_0 a0_1 a1 a2 : Int, I64 a0_0 → I64 a0_1 → I64 a1 → I64 a2 → ∃ k, accountinglaw03_FracApply.f k a0_0 a0_1 a1 a2 = some true := by
  intro a b n m ha hb hn _

  refine Ev.rounds ?_
  have e1 : Ev (fun k => frac_Apply.f k a b n m) (if rightS a b = true then mulDivS a n b m else (0, 2)) := by
    unfold frac_Apply.f muldiv_MulDiv.f
    refine Ev.bind (frac_Right_ev a b ha hb) (Ev.both (fun h => ?_) (fun h => Ev.is (by rw [if_neg h])))
    rw [if_pos (show I64 a ∧ I64 n ∧ I64 b from ⟨ha, hn, hb⟩), if_pos h]
    exact Ev.is rfl
  have e2 : Ev (fun k => accountingref03_Apply.f k a b n m) (if rightS a b = true then mulDivS a n b m else (0, 2)) := by
    unfold accountingref03_Apply.f
    refine Ev.bind (ref03_Right_ev a b ha hb) (Ev.both (fun h => ?_) (fun h => Ev.is (by rw [if_neg h])))
    rw [if_pos h]
    exact Ev.bind (ref02_MulDiv_ev a n b m ha hn hb) (Ev.is rfl)
  unfold accountinglaw03_FracApply.f
  exact Ev.bind e1 (Ev.bind e2 (Ev.yes rfl (Ev.yes rfl (Ev.is rfl))))
end Go.Proofs.Ytoenhagbgfkihaa.Pure
