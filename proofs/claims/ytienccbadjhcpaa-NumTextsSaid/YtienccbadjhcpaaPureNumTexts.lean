/- Proved: the Go function accountinglaw01.NumTexts returns true at every input and leaves its arguments as they were; no further condition. This text: the plain law over the functions that the walks have shown the code to compute. -/
import Derived.Test.YtienccbadjhcpaaL1
import Derived.Test.YtienccbadjhcpaaAx9
namespace Go.Proofs.Ytienccbadjhcpaa.Pure
open Go.RowKit Go.Proofs.Ytienccbadjhcpaa.A Go.Proofs.Ytienccbadjhcpaa.B Go.Proofs.YtienccbadjhcpaaW.PrintWords Go.Proofs.YtienccbadjhcpaaW.PrintLast

theorem NumTexts : accountinglaw01_NumTexts.Pure := by
  intro n hn
  have hn := i64_of hn
  obtain ⟨k, hk⟩ := (ref01_Text n hn).rounds
  refine ⟨k, ?_⟩
  unfold accountinglaw01_NumTexts.f
  have hs := itoa_size n hn
  simp only [num_Text_at n hn, hk, num_Parse_at _ _ _ (show (⟨(Lib.itoa n).toArray⟩ : ByteArray).size ≤ 140737488351232 by omega), parse_itoa n _ _ hn hn.1 hn.2, Option.bind_some, lives01, if_true]

end Go.Proofs.Ytienccbadjhcpaa.Pure
