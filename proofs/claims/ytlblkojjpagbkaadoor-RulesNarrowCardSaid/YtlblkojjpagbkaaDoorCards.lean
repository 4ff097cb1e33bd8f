/-
  DERIVED. GIVEN WITH THE SEED: THE CARDS: each row of YtlblkojjpagbkaaDoorRows.lean that lists a variable, with what it lists TIED to the program's text (the seventh form; the later family's looks); each row that meets fmt, with fmt's text TOLD by the authors' own Lean function (tested against real Go, not proved from fmt's source: count such statements apart). THE CARD IS WHAT COUNTS. Prove the row's statement (the work); the ties are given (YtlblkojjpagbkaaDoorTie.lean); close each card by the builder's one call (the guide's Derived/Test/ToyasCard.lean, 'card_holds'). Laid BY PROGRAM, IN A SANDBOX (cutbox-door.mjs). By AI agents, Wed Nov 11 2026. No macro, syntax, notation, axiom, sorry.
-/
import Derived.Test.YtlblkojjpagbkaaDoorRows
import GoSem.ClaimSeven
namespace Go.Proofs.YtlblkojjpagbkaaDoor
namespace Rows

/-- THE TIED CARD OF 'accountinglaw48.RulesNarrow'. -/
def rulesNarrowCard : Claim7 := { stood := { row := rulesNarrowRow, standIns := [], harness := (true, "8553fd83f3fd24aa77411a629af69680389155f1edd48a7c75756f98f3edd803"), looks := false }, kinds := [], alts := [], laidByText := true, laidKinds := [.data, .listed, .data], laidTests := true, laidLooks := .later }
def RulesNarrowCardSaid : Prop := Claim7.holds Tryd.pinned (.plain (OpenSpec.ofChange rulesNarrowSpec)) rulesNarrowCard

/-- THE SECOND FORM's CARD OF 'accountinglaw48.RulesNarrow'. -/
def rulesNarrowUptoCard : Claim7 := { stood := { row := rulesNarrowUptoRow, standIns := [], harness := (true, "8553fd83f3fd24aa77411a629af69680389155f1edd48a7c75756f98f3edd803"), looks := false }, kinds := [], alts := [], laidByText := true, laidKinds := [.data, .listed, .data], laidTests := true, laidLooks := .later }
def RulesNarrowUptoCardSaid : Prop := Claim7.holds Tryd.pinned (.plain (OpenSpec.upto rulesNarrowSpec)) rulesNarrowUptoCard
end Rows
end Go.Proofs.YtlblkojjpagbkaaDoor
