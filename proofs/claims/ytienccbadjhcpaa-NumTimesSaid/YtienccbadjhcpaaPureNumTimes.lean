/- Proved: the Go function accountinglaw01.NumTimes returns true at every input and leaves its arguments as they were; no further condition. This text: the plain law over the functions that the walks have shown the code to compute. -/
import Derived.Test.YtienccbadjhcpaaL1
import Derived.Test.YtienccbadjhcpaaAx13
namespace Go.Proofs.Ytienccbadjhcpaa.Pure
open Go.RowKit Go.Proofs.Ytienccbadjhcpaa.A Go.Proofs.Ytienccbadjhcpaa.B Go.Proofs.YtienccbadjhcpaaW.PrintWords Go.Proofs.YtienccbadjhcpaaW.PrintLast

theorem NumTimes : accountinglaw01_NumTimes.Pure := by
  intro a b ha hb
  have ha := i64_of ha
  have hb := i64_of hb
  obtain ⟨k, hk⟩ := (ref01_Mul a b ha hb).rounds
  refine ⟨k, ?_⟩
  unfold accountinglaw01_NumTimes.f
  simp only [num_Mul_eq a b ha hb, hk, num_Neg_eq a ha, ref01_Neg a ha, Option.bind_some, lives01, beq_self_eq_true, if_true]

end Go.Proofs.Ytienccbadjhcpaa.Pure
