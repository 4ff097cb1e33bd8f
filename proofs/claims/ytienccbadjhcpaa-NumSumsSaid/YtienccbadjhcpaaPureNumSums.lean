/- Proved: the Go function accountinglaw01.NumSums returns true at every input and leaves its arguments as they were; no further condition. This text: the plain law over the functions that the walks have shown the code to compute. -/
import Derived.Test.YtienccbadjhcpaaL1
import Derived.Test.YtienccbadjhcpaaAx16
namespace Go.Proofs.Ytienccbadjhcpaa.Pure
open Go.RowKit Go.Proofs.Ytienccbadjhcpaa.A Go.Proofs.Ytienccbadjhcpaa.B Go.Proofs.YtienccbadjhcpaaW.PrintWords Go.Proofs.YtienccbadjhcpaaW.PrintLast

theorem NumSums : accountinglaw01_NumSums.Pure := by
  intro l _ _ hw
  unfold accountinglaw01_NumSums.f
  by_cases h : (l.length : Int) > 2000
  · exact ⟨0, by rw [if_pos h]⟩
  · obtain ⟨k, hk⟩ := (ref01_Sum l (by omega) (allI64_of hw)).rounds
    refine ⟨k, ?_⟩
    simp only [if_neg h, num_Sum_eq l (by omega) (allI64_of hw), hk, Option.bind_some, lives01, beq_self_eq_true, if_true]

end Go.Proofs.Ytienccbadjhcpaa.Pure
