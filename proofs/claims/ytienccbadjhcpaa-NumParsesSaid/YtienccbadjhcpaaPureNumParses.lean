/- Proved: the Go function accountinglaw01.NumParses returns true at every input and leaves its arguments as they were; no further condition. This text: the plain law over the functions that the walks have shown the code to compute. -/
import Derived.Test.YtienccbadjhcpaaL1
import Derived.Test.YtienccbadjhcpaaAx13
namespace Go.Proofs.Ytienccbadjhcpaa.Pure
open Go.RowKit Go.Proofs.Ytienccbadjhcpaa.A Go.Proofs.Ytienccbadjhcpaa.B Go.Proofs.YtienccbadjhcpaaW.PrintWords Go.Proofs.YtienccbadjhcpaaW.PrintLast

theorem NumParses : accountinglaw01_NumParses.Pure := by
  intro s lo hi hs _ _
  obtain ⟨k, hk⟩ := (ref01_Parse s lo hi hs).rounds
  refine ⟨k, ?_⟩
  unfold accountinglaw01_NumParses.f
  split
  · rfl
  · simp only [num_Parse_at s lo hi hs, hk, Option.bind_some, lives01, if_true]

end Go.Proofs.Ytienccbadjhcpaa.Pure
