/- Proved: the Go function accountinglaw07.MoneyParses returns true at every input and leaves its arguments as they were; the package variable money.powers is tied to the program's text. This text: the plain law over the functions that the walks have shown. By an AI agent. -/
import Derived.Test.YthmpapnhomngnaaDoorL6
import Derived.Test.YthmpapnhomngnaaDoorAx15
namespace Go.Proofs.YthmpapnhomngnaaDoor.Pure
open Go.RowKit Go.Proofs.YthmpapnhomngnaaDoor.A Go.Proofs.YthmpapnhomngnaaDoor.B Go.Proofs.YthmpapnhomngnaaDoorW.PrintWords Go.Proofs.YthmpapnhomngnaaDoorW.PrintLast

theorem MoneyParses : accountinglaw07_MoneyParses.Pure := by
  intro s d hs hd
  have h : Ev (fun k => accountinglaw07_MoneyParses.f k s d) true := by
    unfold accountinglaw07_MoneyParses.f
    refine Ev.both (fun _ => Ev.const rfl) (fun h4 => ?_)
    refine Ev.bind (money_Parse_at s d (by omega)) ?_
    refine Ev.bind (ref07_Parse s d (by omega)) ?_
    exact Ev.yes rfl (Ev.yes rfl (Ev.bind lives07 (Ev.const rfl)))
  obtain ⟨n, h⟩ := h
  exact ⟨n, h n (Nat.le_refl _)⟩
end Go.Proofs.YthmpapnhomngnaaDoor.Pure
