/- Proved: the Go function accountinglaw01.NumNear returns true at every input and leaves its arguments as they were; no further condition. This text: the plain law over the functions that the walks have shown the code to compute. -/
import Derived.Test.YtienccbadjhcpaaL1
import Derived.Test.YtienccbadjhcpaaAx15
namespace Go.Proofs.Ytienccbadjhcpaa.Pure
open Go.RowKit Go.Proofs.Ytienccbadjhcpaa.A Go.Proofs.Ytienccbadjhcpaa.B Go.Proofs.YtienccbadjhcpaaW.PrintWords Go.Proofs.YtienccbadjhcpaaW.PrintLast

theorem NumNear : accountinglaw01_NumNear.Pure := by
  intro n lo hi _ _ _
  unfold accountinglaw01_NumNear.f num_Near.f accountingref01_Near.f
  have e : (if (5 : Int) < 1 then some (1 : Int) else if (5 : Int) > 3 then some 3 else some 5) = some 3 := by decide
  rw [e]
  simp only [lives01]
  split
  · simp
  · split <;> simp

end Go.Proofs.Ytienccbadjhcpaa.Pure
