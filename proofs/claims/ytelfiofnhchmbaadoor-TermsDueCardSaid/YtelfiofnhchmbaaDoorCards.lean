/-
  DERIVED. GIVEN WITH THE SEED: THE CARDS: each row of YtelfiofnhchmbaaDoorRows.lean that lists a variable, with what it lists TIED to the program's text (the seventh form; the later family's looks); each row that meets fmt, with fmt's text TOLD by the authors' own Lean function (tested against real Go, not proved from fmt's source: count such statements apart). THE CARD IS WHAT COUNTS. Prove the row's statement (the work); the ties are given (YtelfiofnhchmbaaDoorTie.lean); close each card by the builder's one call (the guide's Derived/Test/ToyasCard.lean, 'card_holds'). Laid BY PROGRAM, IN A SANDBOX (cutbox-door.mjs). By AI agents, Wed Nov 11 2026. No macro, syntax, notation, axiom, sorry.
-/
import Derived.Test.YtelfiofnhchmbaaDoorRows
import GoSem.ClaimSeven
namespace Go.Proofs.YtelfiofnhchmbaaDoor
namespace Rows

/-- THE TIED CARD OF 'accountinglaw24.TermsRight'. -/
def termsRightCard : Claim7 := { stood := { row := termsRightRow, standIns := [], harness := (true, "c7969ce7119ab06b58b6b2489435afc0327924688fbe8a45aa7fac86b2dcf8fc"), looks := true }, kinds := [], alts := [], laidByText := true, laidKinds := [.data], laidTests := true, laidLooks := .later }
def TermsRightCardSaid : Prop := Claim7.holds Tryd.pinned (.plain (OpenSpec.ofChange termsRightSpec)) termsRightCard

/-- THE TIED CARD OF 'accountinglaw24.TermsDue'. -/
def termsDueCard : Claim7 := { stood := { row := termsDueRow, standIns := [], harness := (true, "c7969ce7119ab06b58b6b2489435afc0327924688fbe8a45aa7fac86b2dcf8fc"), looks := true }, kinds := [], alts := [], laidByText := true, laidKinds := [.data], laidTests := true, laidLooks := .later }
def TermsDueCardSaid : Prop := Claim7.holds Tryd.pinned (.plain (OpenSpec.ofChange termsDueSpec)) termsDueCard

/-- THE TIED CARD OF 'accountinglaw24.TermsCut'. -/
def termsCutCard : Claim7 := { stood := { row := termsCutRow, standIns := [], harness := (true, "c7969ce7119ab06b58b6b2489435afc0327924688fbe8a45aa7fac86b2dcf8fc"), looks := true }, kinds := [], alts := [], laidByText := true, laidKinds := [.data], laidTests := true, laidLooks := .later }
def TermsCutCardSaid : Prop := Claim7.holds Tryd.pinned (.plain (OpenSpec.ofChange termsCutSpec)) termsCutCard

/-- THE TIED CARD OF 'accountinglaw24.TermsParse'. -/
def termsParseCard : Claim7 := { stood := { row := termsParseRow, standIns := [], harness := (true, "c7969ce7119ab06b58b6b2489435afc0327924688fbe8a45aa7fac86b2dcf8fc"), looks := true }, kinds := [], alts := [], laidByText := true, laidKinds := [.data], laidTests := true, laidLooks := .later }
def TermsParseCardSaid : Prop := Claim7.holds Tryd.pinned (.plain (OpenSpec.ofChange termsParseSpec)) termsParseCard

/-- THE TIED CARD OF 'accountinglaw24.TermsBack'. -/
def termsBackCard : Claim7 := { stood := { row := termsBackRow, standIns := [], harness := (true, "c7969ce7119ab06b58b6b2489435afc0327924688fbe8a45aa7fac86b2dcf8fc"), looks := true }, kinds := [], alts := [], laidByText := true, laidKinds := [.data], laidTests := true, laidLooks := .later }
def TermsBackCardSaid : Prop := Claim7.holds Tryd.pinned (.plain (OpenSpec.ofChange termsBackSpec)) termsBackCard

/-- THE TIED CARD OF 'accountinglaw24.TermsLater'. -/
def termsLaterCard : Claim7 := { stood := { row := termsLaterRow, standIns := [], harness := (true, "c7969ce7119ab06b58b6b2489435afc0327924688fbe8a45aa7fac86b2dcf8fc"), looks := true }, kinds := [], alts := [], laidByText := true, laidKinds := [.data], laidTests := true, laidLooks := .later }
def TermsLaterCardSaid : Prop := Claim7.holds Tryd.pinned (.plain (OpenSpec.ofChange termsLaterSpec)) termsLaterCard

/-- THE SECOND FORM's CARD OF 'accountinglaw24.TermsRight'. -/
def termsRightUptoCard : Claim7 := { stood := { row := termsRightUptoRow, standIns := [], harness := (true, "c7969ce7119ab06b58b6b2489435afc0327924688fbe8a45aa7fac86b2dcf8fc"), looks := true }, kinds := [], alts := [], laidByText := true, laidKinds := [.data], laidTests := true, laidLooks := .later }
def TermsRightUptoCardSaid : Prop := Claim7.holds Tryd.pinned (.plain (OpenSpec.upto termsRightSpec)) termsRightUptoCard

/-- THE SECOND FORM's CARD OF 'accountinglaw24.TermsDue'. -/
def termsDueUptoCard : Claim7 := { stood := { row := termsDueUptoRow, standIns := [], harness := (true, "c7969ce7119ab06b58b6b2489435afc0327924688fbe8a45aa7fac86b2dcf8fc"), looks := true }, kinds := [], alts := [], laidByText := true, laidKinds := [.data], laidTests := true, laidLooks := .later }
def TermsDueUptoCardSaid : Prop := Claim7.holds Tryd.pinned (.plain (OpenSpec.upto termsDueSpec)) termsDueUptoCard

/-- THE SECOND FORM's CARD OF 'accountinglaw24.TermsCut'. -/
def termsCutUptoCard : Claim7 := { stood := { row := termsCutUptoRow, standIns := [], harness := (true, "c7969ce7119ab06b58b6b2489435afc0327924688fbe8a45aa7fac86b2dcf8fc"), looks := true }, kinds := [], alts := [], laidByText := true, laidKinds := [.data], laidTests := true, laidLooks := .later }
def TermsCutUptoCardSaid : Prop := Claim7.holds Tryd.pinned (.plain (OpenSpec.upto termsCutSpec)) termsCutUptoCard

/-- THE SECOND FORM's CARD OF 'accountinglaw24.TermsParse'. -/
def termsParseUptoCard : Claim7 := { stood := { row := termsParseUptoRow, standIns := [], harness := (true, "c7969ce7119ab06b58b6b2489435afc0327924688fbe8a45aa7fac86b2dcf8fc"), looks := true }, kinds := [], alts := [], laidByText := true, laidKinds := [.data], laidTests := true, laidLooks := .later }
def TermsParseUptoCardSaid : Prop := Claim7.holds Tryd.pinned (.plain (OpenSpec.upto termsParseSpec)) termsParseUptoCard

/-- THE SECOND FORM's CARD OF 'accountinglaw24.TermsBack'. -/
def termsBackUptoCard : Claim7 := { stood := { row := termsBackUptoRow, standIns := [], harness := (true, "c7969ce7119ab06b58b6b2489435afc0327924688fbe8a45aa7fac86b2dcf8fc"), looks := true }, kinds := [], alts := [], laidByText := true, laidKinds := [.data], laidTests := true, laidLooks := .later }
def TermsBackUptoCardSaid : Prop := Claim7.holds Tryd.pinned (.plain (OpenSpec.upto termsBackSpec)) termsBackUptoCard

/-- THE SECOND FORM's CARD OF 'accountinglaw24.TermsLater'. -/
def termsLaterUptoCard : Claim7 := { stood := { row := termsLaterUptoRow, standIns := [], harness := (true, "c7969ce7119ab06b58b6b2489435afc0327924688fbe8a45aa7fac86b2dcf8fc"), looks := true }, kinds := [], alts := [], laidByText := true, laidKinds := [.data], laidTests := true, laidLooks := .later }
def TermsLaterUptoCardSaid : Prop := Claim7.holds Tryd.pinned (.plain (OpenSpec.upto termsLaterSpec)) termsLaterUptoCard
end Rows
end Go.Proofs.YtelfiofnhchmbaaDoor
