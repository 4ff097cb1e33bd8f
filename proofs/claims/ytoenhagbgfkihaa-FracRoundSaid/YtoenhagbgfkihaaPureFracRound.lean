/- FracRound: the notation of a valid fraction is parsed as this fraction, an accepted string of at most 80 bytes denotes a valid fraction, Text accepts just the valid fractions, and the chapter's examples hold. -/
import Derived.Test.YtoenhagbgfkihaaAx2
import Derived.Test.YtoenhagbgfkihaaAx25
import Derived.Test.YtoenhagbgfkihaaL10
import Derived.Test.YtoenhagbgfkihaaL5
namespace Go.Proofs.Ytoenhagbgfkihaa.Pure
open Go.RowKit Go.Proofs.Ytoenhagbgfkihaa.A Go.Proofs.Ytoenhagbgfkihaa.B Go.Proofs.YtoenhagbgfkihaaW.PrintWords Go.Proofs.YtoenhagbgfkihaaW.PrintLast Go.Proofs.YtoenhagbgfkihaaW.PrintMore
set_option linter.unusedVariables false
set_option linter.unusedSimpArgs false
theorem FracRound : ∀ (a0_0 a0_1 : Int) (a1 : ByteArray), I64 a0_0 → I64 a0_1 → a1.size ≤ 140737488351232 → ∃ k, accountinglaw03_FracRound.f k a0_0 a0_1 a1 = some true := by
  intro n d s hn hd hs
  refine Ev.rounds ?_
  unfold accountinglaw03_FracRound.f
  refine Ev.both (fun h => Ev.is rfl) (fun h => ?_)
  have hl : s.data.toList.length ≤ 900 := by rw [data_length]; omega
  have fin : ∀ x : Int, (x == 0) = rightS n d → Ev (fun k => accountinglaw03_FracRound.j0 k s x n d) true := by
    intro x hx
    have e1 := frac_Parse_ev s.data.toList hl
    rw [oL_data] at e1
    refine Ev.step (fun k => by rw [accountinglaw03_FracRound.j0]) (Ev.bind e1 (Ev.both (fun h0 => ?_) (fun h0 => ?_)))
    · obtain ⟨r1, r2, r3⟩ := parseS_right s.data.toList h0
      have e2 := frac_Right_ev _ _ r2 r3
      rw [r1] at e2
      exact Ev.bind e2 (Ev.yes rfl (Ev.bind (frac_Right_ev n d hn hd) (Ev.yes (by rw [hx]; exact beq_self_eq_true _) (Ev.is rfl))))
    · exact Ev.bind (frac_Right_ev n d hn hd) (Ev.yes (by rw [hx]; exact beq_self_eq_true _) (Ev.is rfl))
  refine Ev.bind (frac_Text_ev n d hn hd) ?_
  unfold fracTextS fracTextL
  by_cases hr : rightS n d = true
  · rw [if_pos hr]
    refine Ev.yes rfl ?_
    have hp := parse_text n d hr
    have s1 := itoa_size n hn
    have s2 := itoa_size d hd
    rw [show (⟨(Lib.itoa n).toArray⟩ : ByteArray).size = (Lib.itoa n).length from List.size_toArray] at s1
    rw [show (⟨(Lib.itoa d).toArray⟩ : ByteArray).size = (Lib.itoa d).length from List.size_toArray] at s2
    have e1 := frac_Parse_ev (if d = 1 then Lib.itoa n else Lib.itoa n ++ 47 :: Lib.itoa d) (by split; omega; simp; omega)
    rw [hp] at e1
    refine Ev.bind e1 (Ev.no (by simp) (Ev.yes rfl (fin 0 (by rw [hr]; rfl))))
  · rw [if_neg hr]
    exact Ev.no (by decide) (fin 2 (by rw [Bool.not_eq_true] at hr; rw [hr]; rfl))
end Go.Proofs.Ytoenhagbgfkihaa.Pure
