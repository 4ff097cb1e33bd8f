/- Proved: the Go function accountinglaw01.NumAdds returns true at every input and leaves its arguments as they were; no further condition. This text: the plain law over the functions that the walks have shown the code to compute. -/
import Derived.Test.YtienccbadjhcpaaL1
import Derived.Test.YtienccbadjhcpaaAx1
import Derived.Test.YtienccbadjhcpaaAx7
namespace Go.Proofs.Ytienccbadjhcpaa.Pure
open Go.RowKit Go.Proofs.Ytienccbadjhcpaa.A Go.Proofs.Ytienccbadjhcpaa.B Go.Proofs.YtienccbadjhcpaaW.PrintWords Go.Proofs.YtienccbadjhcpaaW.PrintLast

theorem NumAdds : accountinglaw01_NumAdds.Pure := by
  intro a b ha hb
  have ha := i64_of ha
  have hb := i64_of hb
  unfold accountinglaw01_NumAdds.f
  simp only [num_Add_eq a b ha hb, num_Sub_eq a b ha hb, ref01_Add a b ha hb, ref01_Sub a b ha hb, Option.bind_some, lives01, beq_self_eq_true, if_true]

end Go.Proofs.Ytienccbadjhcpaa.Pure
