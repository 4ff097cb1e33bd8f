/- Proved: the Go function accountinglaw01.NumInverse returns true at every input and leaves its arguments as they were; no further condition. This text: the plain law over the functions that the walks have shown the code to compute. -/
import Derived.Test.YtienccbadjhcpaaL1
import Derived.Test.YtienccbadjhcpaaAx1
import Derived.Test.YtienccbadjhcpaaAx14
namespace Go.Proofs.Ytienccbadjhcpaa.Pure
open Go.RowKit Go.Proofs.Ytienccbadjhcpaa.A Go.Proofs.Ytienccbadjhcpaa.B Go.Proofs.YtienccbadjhcpaaW.PrintWords Go.Proofs.YtienccbadjhcpaaW.PrintLast

theorem NumInverse : accountinglaw01_NumInverse.Pure := by
  intro a b ha hb
  have ha := i64_of ha
  have hb := i64_of hb
  refine Ev.rounds ?_
  have neg : Ev (fun k => accountinglaw01_NumInverse.j1 k a false) true := by
    refine Ev.step (fun k => by rw [accountinglaw01_NumInverse.j1]) ?_
    refine Ev.no (by decide) ?_
    rw [num_Neg_eq a ha]
    simp only [Option.bind_some]
    by_cases h : I64 (-a)
    · rw [fit_yes h]
      simp only [num_Neg_eq (-a) h, Option.bind_some, Int.neg_neg, fit_yes ha, lives01, if_true]
      exact Ev.now _
    · rw [fit_no h]
      simp only [lives01, Option.bind_some, Bool.false_eq_true, if_false]
      exact Ev.now _
  have mul : Ev (fun k => accountinglaw01_NumInverse.j0 k a b) true := by
    refine Ev.step (fun k => by rw [accountinglaw01_NumInverse.j0]) ?_
    rw [num_Mul_eq a b ha hb]
    simp only [Option.bind_some]
    by_cases h : I64 (a * b)
    · rw [fit_yes h]
      refine Ev.yes rfl (Ev.both (fun h0 => neg) (fun h0 => ?_))
      refine Ev.yes (Int.mul_tmod_left a b) ?_
      have e : (wrap64 (Int.tdiv (a * b) b) != a) = false := by
        rw [Int.mul_tdiv_cancel a h0, wrap64_in ha, bne_self_eq_false]
      rw [e]
      exact neg
    · rw [fit_no h]
      exact Ev.no (by decide) neg
  unfold accountinglaw01_NumInverse.f
  rw [num_Add_eq a b ha hb]
  simp only [Option.bind_some]
  by_cases h : I64 (a + b)
  · rw [fit_yes h]
    refine Ev.yes rfl ?_
    have e : a + b - b = a := by omega
    simp only [num_Sub_eq (a + b) b h hb, Option.bind_some, e, fit_yes ha, if_true]
    exact mul
  · rw [fit_no h]
    exact Ev.no (by decide) mul

end Go.Proofs.Ytienccbadjhcpaa.Pure
