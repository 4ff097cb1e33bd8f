/- Proved: the Go function accountinglaw01.NumOrder returns true at every input and leaves its arguments as they were; no further condition. This text: the plain law over the functions that the walks have shown the code to compute. -/
import Derived.Test.YtienccbadjhcpaaL1
import Derived.Test.YtienccbadjhcpaaAx17
namespace Go.Proofs.Ytienccbadjhcpaa.Pure
open Go.RowKit Go.Proofs.Ytienccbadjhcpaa.A Go.Proofs.Ytienccbadjhcpaa.B Go.Proofs.YtienccbadjhcpaaW.PrintWords Go.Proofs.YtienccbadjhcpaaW.PrintLast

theorem NumOrder : accountinglaw01_NumOrder.Pure := by
  intro l _ _ hw
  unfold accountinglaw01_NumOrder.f
  by_cases h : (l.length : Int) > 2000
  · exact ⟨0, by rw [if_pos h]⟩
  · simp only [if_neg h]
    have hl : l.length ≤ 2000 := by omega
    have hall := allI64_of hw
    -- j elements are left, the others lie in m, the last one first
    have key : ∀ (j : Nat) (m : List Int), j ≤ l.length → m = (l.drop j).reverse → Ev (fun k => accountinglaw01_NumOrder.l0 k l m ((j : Int) - 1)) true := by
      intro j
      induction j with
      | zero =>
        intro m hj hm
        refine Ev.step (fun k => by rw [accountinglaw01_NumOrder.l0]) ?_
        refine Ev.no (by omega) ?_
        rw [List.drop_zero] at hm
        have hm1 : m.length ≤ 2000 := by rw [hm, List.length_reverse]; exact hl
        have hm2 : allI64 m = true := by
          unfold allI64 at *; rw [List.all_eq_true] at *; intro x hx; exact hall x (by rw [hm] at hx; exact List.mem_reverse.mp hx)
        have hs : sumL m = sumL l := by rw [hm]; exact sumL_reverse l
        simp only [num_Sum_eq l hl hall, num_Sum_eq m hm1 hm2, hs, Option.bind_some, lives01, beq_self_eq_true, if_true]
        exact Ev.now _
      | succ j ih =>
        intro m hj hm
        have hlt : j < l.length := by omega
        have hrd : rd l (j : Int) = l[j] := by simp [rd, List.getD_eq_getElem?_getD, List.getElem?_eq_getElem hlt]
        have hd : l.drop j = l[j] :: l.drop (j + 1) := List.drop_eq_getElem_cons hlt
        have hml : m.length ≤ 2000 := by rw [hm, List.length_reverse, List.length_drop]; omega
        refine Ev.step (fun k => by rw [accountinglaw01_NumOrder.l0]) ?_
        rw [show ((j + 1 : Nat) : Int) - 1 = (j : Int) by omega]
        refine Ev.yes (by omega) (Ev.yes (by omega) (Ev.yes (by omega) (Ev.yes (by omega) ?_)))
        rw [hrd, show wrap64 ((j : Int) - 1) = (j : Int) - 1 by unfold wrap64; omega]
        exact ih (m ++ [l[j]]) (by omega) (by rw [hm, hd, List.reverse_cons])
    have hw0 : wrap64 ((l.length : Int) - 1) = (l.length : Int) - 1 := by unfold wrap64; omega
    rw [hw0]
    exact (key l.length [] (Nat.le_refl _) (by rw [List.drop_length]; rfl)).rounds

end Go.Proofs.Ytienccbadjhcpaa.Pure
