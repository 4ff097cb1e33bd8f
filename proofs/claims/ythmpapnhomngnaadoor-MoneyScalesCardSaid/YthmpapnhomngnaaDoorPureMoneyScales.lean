/- Proved: the Go function accountinglaw07.MoneyScales returns true at every input and leaves its arguments as they were; the package variable money.powers is tied to the program's text. This text: the plain law over the functions that the walks have shown. By an AI agent. -/
import Derived.Test.YthmpapnhomngnaaDoorL3
import Derived.Test.YthmpapnhomngnaaDoorAx19
namespace Go.Proofs.YthmpapnhomngnaaDoor.Pure
open Go.RowKit Go.Proofs.YthmpapnhomngnaaDoor.A Go.Proofs.YthmpapnhomngnaaDoor.B Go.Proofs.YthmpapnhomngnaaDoorW.PrintWords Go.Proofs.YthmpapnhomngnaaDoorW.PrintLast

theorem MoneyScales : accountinglaw07_MoneyScales.Pure := by
  intro a f t m ha hf ht hm
  have h : Ev (fun k => accountinglaw07_MoneyScales.f k a f t m) true := by
    unfold accountinglaw07_MoneyScales.f
    rw [money_Scale_at a f t m (i64_of ha)]
    simp only [Option.bind_some]
    refine Ev.bind (ref07_Scale a f t m (i64_of ha)) ?_
    exact Ev.yes rfl (Ev.yes rfl (Ev.bind lives07 (Ev.const rfl)))
  obtain ⟨n, h⟩ := h
  exact ⟨n, h n (Nat.le_refl _)⟩
end Go.Proofs.YthmpapnhomngnaaDoor.Pure
