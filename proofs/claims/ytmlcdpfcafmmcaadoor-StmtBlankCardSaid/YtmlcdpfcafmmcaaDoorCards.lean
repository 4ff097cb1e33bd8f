/-
  DERIVED. GIVEN WITH THE SEED: THE CARDS: each row of YtmlcdpfcafmmcaaDoorRows.lean that lists a variable, with what it lists TIED to the program's text (the seventh form; the later family's looks); each row that meets fmt, with fmt's text TOLD by the authors' own Lean function (tested against real Go, not proved from fmt's source: count such statements apart). THE CARD IS WHAT COUNTS. Prove the row's statement (the work); the ties are given (YtmlcdpfcafmmcaaDoorTie.lean); close each card by the builder's one call (the guide's Derived/Test/ToyasCard.lean, 'card_holds'). Laid BY PROGRAM, IN A SANDBOX (cutbox-door.mjs). By AI agents, Wed Nov 11 2026. No macro, syntax, notation, axiom, sorry.
-/
import Derived.Test.YtmlcdpfcafmmcaaDoorRows
import GoSem.ClaimSeven
namespace Go.Proofs.YtmlcdpfcafmmcaaDoor
namespace Rows

/-- THE TIED CARD OF 'accountinglaw47.StmtCheck'. -/
def stmtCheckCard : Claim7 := { stood := { row := stmtCheckRow, standIns := [], harness := (true, "e2ca4102f9483c5686cf01e559ba30cc68b277cf3843f274404e99127137410b"), looks := false }, kinds := [], alts := [], laidByText := true, laidKinds := [.data, .data], laidTests := true, laidLooks := .later }
def StmtCheckCardSaid : Prop := Claim7.holds Tryd.pinned (.plain (OpenSpec.ofChange stmtCheckSpec)) stmtCheckCard

/-- THE TIED CARD OF 'accountinglaw47.StmtFollows'. -/
def stmtFollowsCard : Claim7 := { stood := { row := stmtFollowsRow, standIns := [], harness := (true, "e2ca4102f9483c5686cf01e559ba30cc68b277cf3843f274404e99127137410b"), looks := false }, kinds := [], alts := [], laidByText := true, laidKinds := [.data, .data], laidTests := true, laidLooks := .later }
def StmtFollowsCardSaid : Prop := Claim7.holds Tryd.pinned (.plain (OpenSpec.ofChange stmtFollowsSpec)) stmtFollowsCard

/-- THE TIED CARD OF 'accountinglaw47.StmtText'. -/
def stmtTextCard : Claim7 := { stood := { row := stmtTextRow, standIns := [], harness := (true, "e2ca4102f9483c5686cf01e559ba30cc68b277cf3843f274404e99127137410b"), looks := false }, kinds := [], alts := [], laidByText := true, laidKinds := [.data, .data], laidTests := true, laidLooks := .later }
def StmtTextCardSaid : Prop := Claim7.holds Tryd.pinned (.plain (OpenSpec.ofChange stmtTextSpec)) stmtTextCard

/-- THE TIED CARD OF 'accountinglaw47.StmtParse'. -/
def stmtParseCard : Claim7 := { stood := { row := stmtParseRow, standIns := [], harness := (true, "e2ca4102f9483c5686cf01e559ba30cc68b277cf3843f274404e99127137410b"), looks := false }, kinds := [], alts := [], laidByText := true, laidKinds := [.data, .data], laidTests := true, laidLooks := .later }
def StmtParseCardSaid : Prop := Claim7.holds Tryd.pinned (.plain (OpenSpec.ofChange stmtParseSpec)) stmtParseCard

/-- THE TIED CARD OF 'accountinglaw47.StmtBack'. -/
def stmtBackCard : Claim7 := { stood := { row := stmtBackRow, standIns := [], harness := (true, "e2ca4102f9483c5686cf01e559ba30cc68b277cf3843f274404e99127137410b"), looks := false }, kinds := [], alts := [], laidByText := true, laidKinds := [.data, .data], laidTests := true, laidLooks := .later }
def StmtBackCardSaid : Prop := Claim7.holds Tryd.pinned (.plain (OpenSpec.ofChange stmtBackSpec)) stmtBackCard

/-- THE TIED CARD OF 'accountinglaw47.StmtBlank'. -/
def stmtBlankCard : Claim7 := { stood := { row := stmtBlankRow, standIns := [], harness := (true, "e2ca4102f9483c5686cf01e559ba30cc68b277cf3843f274404e99127137410b"), looks := false }, kinds := [], alts := [], laidByText := true, laidKinds := [.data, .data], laidTests := true, laidLooks := .later }
def StmtBlankCardSaid : Prop := Claim7.holds Tryd.pinned (.plain (OpenSpec.ofChange stmtBlankSpec)) stmtBlankCard

/-- THE TIED CARD OF 'accountinglaw47.StmtChain'. -/
def stmtChainCard : Claim7 := { stood := { row := stmtChainRow, standIns := [], harness := (true, "e2ca4102f9483c5686cf01e559ba30cc68b277cf3843f274404e99127137410b"), looks := false }, kinds := [], alts := [], laidByText := true, laidKinds := [.data, .data], laidTests := true, laidLooks := .later }
def StmtChainCardSaid : Prop := Claim7.holds Tryd.pinned (.plain (OpenSpec.ofChange stmtChainSpec)) stmtChainCard

/-- THE SECOND FORM's CARD OF 'accountinglaw47.StmtCheck'. -/
def stmtCheckUptoCard : Claim7 := { stood := { row := stmtCheckUptoRow, standIns := [], harness := (true, "e2ca4102f9483c5686cf01e559ba30cc68b277cf3843f274404e99127137410b"), looks := false }, kinds := [], alts := [], laidByText := true, laidKinds := [.data, .data], laidTests := true, laidLooks := .later }
def StmtCheckUptoCardSaid : Prop := Claim7.holds Tryd.pinned (.plain (OpenSpec.upto stmtCheckSpec)) stmtCheckUptoCard

/-- THE SECOND FORM's CARD OF 'accountinglaw47.StmtFollows'. -/
def stmtFollowsUptoCard : Claim7 := { stood := { row := stmtFollowsUptoRow, standIns := [], harness := (true, "e2ca4102f9483c5686cf01e559ba30cc68b277cf3843f274404e99127137410b"), looks := false }, kinds := [], alts := [], laidByText := true, laidKinds := [.data, .data], laidTests := true, laidLooks := .later }
def StmtFollowsUptoCardSaid : Prop := Claim7.holds Tryd.pinned (.plain (OpenSpec.upto stmtFollowsSpec)) stmtFollowsUptoCard

/-- THE SECOND FORM's CARD OF 'accountinglaw47.StmtText'. -/
def stmtTextUptoCard : Claim7 := { stood := { row := stmtTextUptoRow, standIns := [], harness := (true, "e2ca4102f9483c5686cf01e559ba30cc68b277cf3843f274404e99127137410b"), looks := false }, kinds := [], alts := [], laidByText := true, laidKinds := [.data, .data], laidTests := true, laidLooks := .later }
def StmtTextUptoCardSaid : Prop := Claim7.holds Tryd.pinned (.plain (OpenSpec.upto stmtTextSpec)) stmtTextUptoCard

/-- THE SECOND FORM's CARD OF 'accountinglaw47.StmtParse'. -/
def stmtParseUptoCard : Claim7 := { stood := { row := stmtParseUptoRow, standIns := [], harness := (true, "e2ca4102f9483c5686cf01e559ba30cc68b277cf3843f274404e99127137410b"), looks := false }, kinds := [], alts := [], laidByText := true, laidKinds := [.data, .data], laidTests := true, laidLooks := .later }
def StmtParseUptoCardSaid : Prop := Claim7.holds Tryd.pinned (.plain (OpenSpec.upto stmtParseSpec)) stmtParseUptoCard

/-- THE SECOND FORM's CARD OF 'accountinglaw47.StmtBack'. -/
def stmtBackUptoCard : Claim7 := { stood := { row := stmtBackUptoRow, standIns := [], harness := (true, "e2ca4102f9483c5686cf01e559ba30cc68b277cf3843f274404e99127137410b"), looks := false }, kinds := [], alts := [], laidByText := true, laidKinds := [.data, .data], laidTests := true, laidLooks := .later }
def StmtBackUptoCardSaid : Prop := Claim7.holds Tryd.pinned (.plain (OpenSpec.upto stmtBackSpec)) stmtBackUptoCard

/-- THE SECOND FORM's CARD OF 'accountinglaw47.StmtBlank'. -/
def stmtBlankUptoCard : Claim7 := { stood := { row := stmtBlankUptoRow, standIns := [], harness := (true, "e2ca4102f9483c5686cf01e559ba30cc68b277cf3843f274404e99127137410b"), looks := false }, kinds := [], alts := [], laidByText := true, laidKinds := [.data, .data], laidTests := true, laidLooks := .later }
def StmtBlankUptoCardSaid : Prop := Claim7.holds Tryd.pinned (.plain (OpenSpec.upto stmtBlankSpec)) stmtBlankUptoCard

/-- THE SECOND FORM's CARD OF 'accountinglaw47.StmtChain'. -/
def stmtChainUptoCard : Claim7 := { stood := { row := stmtChainUptoRow, standIns := [], harness := (true, "e2ca4102f9483c5686cf01e559ba30cc68b277cf3843f274404e99127137410b"), looks := false }, kinds := [], alts := [], laidByText := true, laidKinds := [.data, .data], laidTests := true, laidLooks := .later }
def StmtChainUptoCardSaid : Prop := Claim7.holds Tryd.pinned (.plain (OpenSpec.upto stmtChainSpec)) stmtChainUptoCard
end Rows
end Go.Proofs.YtmlcdpfcafmmcaaDoor
