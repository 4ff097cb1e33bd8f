/-
  NARROWER THAN 'FOR EVERY INPUT', by the rows' own cells (each row's printed sentence says how): MoneyScales: laid · MoneyBack: laid · MoneyRounds: laid · MoneyOrder: laid · MoneyTexts: laid · MoneyParses: laid · MoneyTables: laid.
  DERIVED. THE GIVEN ROWS OF THIS SEAT. 7 by the template 'for every input the law returns true; each argument reads behind the call as it read before'; 0 by the template 'total and deterministic' (their statements: YthmpapnhomngnaaDoorTotals.lean).
  GIVEN WITH THE SEED: the statements are not yours to turn. If you find one false, say at which input.
  Laid BY PROGRAM, IN A SANDBOX (cutbox-rows.mjs): the forced cells as the released guide's own fill.sh prints them over the translation 8c269ea04c2f6d94… (all of the seat's roots in one cut). By AI agents, Wed Nov 11 2026. No macro, syntax, notation, axiom, sorry.
-/
import Derived.Test.YthmpapnhomngnaaDoorChecked
import GoSem.Claim
import GoSem.ClaimJoined
import GoSem.ClaimMapViews
import Derived.JoinedTies
import Derived.KernelRfl
namespace Go.Proofs.YthmpapnhomngnaaDoor
/- THE CELL 'sum', in the pinned program and in every row, IS THE sha256 OF THE DUMP (.gsa) THAT YthmpapnhomngnaaDoorProg.lean LOADS. Nothing in Lean hashes anything: it is a label: what it is worth is what the hold of that sum in a sandbox is worth. -/
noncomputable def Tryd.pinned : Pinned := { name := "ythmpapnhomngnaadoor", sum := "8c269ea04c2f6d9429d27dda7b247e937fd0ea7966c1607cb095c49e359e2ea0", checked := Tryd.checked }
namespace Rows
def none {H : Type} : Left H := { results := [], args := [] }

/- WHAT THE LISTED PACKAGE-LEVEL VARIABLES READ AS WHEN THE CALL BEGINS. Each datum BY PROGRAM (the guide's laid-datum.mjs) off the statement by which the dump's own 'gosem.cut.vars' lays the variable. In a bare row this is a premise. The card (YthmpapnhomngnaaDoorCards.lean) ties it to the program's text. -/
def laid_accounting_money_powers {H : Type} : DataW H := .agg [.lit (.int .i64 1), .lit (.int .i64 10), .lit (.int .i64 100), .lit (.int .i64 1000), .lit (.int .i64 10000)]

/-- 'accountinglaw07.MoneyScales': WHATEVER THE INPUT: true; the input reads as it did. -/
def moneyScalesSpec : ChangeSpec := { name := "moneyScales", fn := fun _ => fun
  | [d1, d2, d3, d4] => { results := [.lit (.bool true)], args := [d1, d2, d3, d4] }
  | _ => none }
def moneyScalesRow : OpenClaim := { program := "ythmpapnhomngnaadoor", sum := "8c269ea04c2f6d9429d27dda7b247e937fd0ea7966c1607cb095c49e359e2ea0", func := "accounting/accountinglaw07.MoneyScales", spec := "moneyScales", unfollowed := true, recurses := true, named := ["accounting/money.powers"], apart := false, laid := [("accounting/money.powers", laid_accounting_money_powers)] }
def MoneyScalesSaid : Prop := moneyScalesRow.holds Tryd.pinned (OpenSpec.ofChange moneyScalesSpec)

/-- ITS FALSE NEIGHBOUR: 'it returns false'. Refute it at one input. -/
def moneyScalesWrong : ChangeSpec := { name := "moneyScales", fn := fun _ => fun
  | [d1, d2, d3, d4] => { results := [.lit (.bool false)], args := [d1, d2, d3, d4] }
  | _ => none }
def MoneyScalesWrongFalsely : Prop := moneyScalesRow.holds Tryd.pinned (OpenSpec.ofChange moneyScalesWrong)

/-- 'accountinglaw07.MoneyBack': WHATEVER THE INPUT: true; the input reads as it did. -/
def moneyBackSpec : ChangeSpec := { name := "moneyBack", fn := fun _ => fun
  | [d1, d2, d3, d4] => { results := [.lit (.bool true)], args := [d1, d2, d3, d4] }
  | _ => none }
def moneyBackRow : OpenClaim := { program := "ythmpapnhomngnaadoor", sum := "8c269ea04c2f6d9429d27dda7b247e937fd0ea7966c1607cb095c49e359e2ea0", func := "accounting/accountinglaw07.MoneyBack", spec := "moneyBack", unfollowed := true, recurses := true, named := ["accounting/money.powers"], apart := false, laid := [("accounting/money.powers", laid_accounting_money_powers)] }
def MoneyBackSaid : Prop := moneyBackRow.holds Tryd.pinned (OpenSpec.ofChange moneyBackSpec)

/-- ITS FALSE NEIGHBOUR: 'it returns false'. Refute it at one input. -/
def moneyBackWrong : ChangeSpec := { name := "moneyBack", fn := fun _ => fun
  | [d1, d2, d3, d4] => { results := [.lit (.bool false)], args := [d1, d2, d3, d4] }
  | _ => none }
def MoneyBackWrongFalsely : Prop := moneyBackRow.holds Tryd.pinned (OpenSpec.ofChange moneyBackWrong)

/-- 'accountinglaw07.MoneyRounds': WHATEVER THE INPUT: true; the input reads as it did. -/
def moneyRoundsSpec : ChangeSpec := { name := "moneyRounds", fn := fun _ => fun
  | [d1, d2, d3, d4] => { results := [.lit (.bool true)], args := [d1, d2, d3, d4] }
  | _ => none }
def moneyRoundsRow : OpenClaim := { program := "ythmpapnhomngnaadoor", sum := "8c269ea04c2f6d9429d27dda7b247e937fd0ea7966c1607cb095c49e359e2ea0", func := "accounting/accountinglaw07.MoneyRounds", spec := "moneyRounds", unfollowed := true, recurses := true, named := ["accounting/money.powers"], apart := false, laid := [("accounting/money.powers", laid_accounting_money_powers)] }
def MoneyRoundsSaid : Prop := moneyRoundsRow.holds Tryd.pinned (OpenSpec.ofChange moneyRoundsSpec)

/-- ITS FALSE NEIGHBOUR: 'it returns false'. Refute it at one input. -/
def moneyRoundsWrong : ChangeSpec := { name := "moneyRounds", fn := fun _ => fun
  | [d1, d2, d3, d4] => { results := [.lit (.bool false)], args := [d1, d2, d3, d4] }
  | _ => none }
def MoneyRoundsWrongFalsely : Prop := moneyRoundsRow.holds Tryd.pinned (OpenSpec.ofChange moneyRoundsWrong)

/-- 'accountinglaw07.MoneyOrder': WHATEVER THE INPUT: true; the input reads as it did. -/
def moneyOrderSpec : ChangeSpec := { name := "moneyOrder", fn := fun _ => fun
  | [d1, d2, d3, d4, d5] => { results := [.lit (.bool true)], args := [d1, d2, d3, d4, d5] }
  | _ => none }
def moneyOrderRow : OpenClaim := { program := "ythmpapnhomngnaadoor", sum := "8c269ea04c2f6d9429d27dda7b247e937fd0ea7966c1607cb095c49e359e2ea0", func := "accounting/accountinglaw07.MoneyOrder", spec := "moneyOrder", unfollowed := true, recurses := true, named := ["accounting/money.powers"], apart := false, laid := [("accounting/money.powers", laid_accounting_money_powers)] }
def MoneyOrderSaid : Prop := moneyOrderRow.holds Tryd.pinned (OpenSpec.ofChange moneyOrderSpec)

/-- ITS FALSE NEIGHBOUR: 'it returns false'. Refute it at one input. -/
def moneyOrderWrong : ChangeSpec := { name := "moneyOrder", fn := fun _ => fun
  | [d1, d2, d3, d4, d5] => { results := [.lit (.bool false)], args := [d1, d2, d3, d4, d5] }
  | _ => none }
def MoneyOrderWrongFalsely : Prop := moneyOrderRow.holds Tryd.pinned (OpenSpec.ofChange moneyOrderWrong)

/-- 'accountinglaw07.MoneyTexts': WHATEVER THE INPUT: true; the input reads as it did. -/
def moneyTextsSpec : ChangeSpec := { name := "moneyTexts", fn := fun _ => fun
  | [d1, d2] => { results := [.lit (.bool true)], args := [d1, d2] }
  | _ => none }
def moneyTextsRow : OpenClaim := { program := "ythmpapnhomngnaadoor", sum := "8c269ea04c2f6d9429d27dda7b247e937fd0ea7966c1607cb095c49e359e2ea0", func := "accounting/accountinglaw07.MoneyTexts", spec := "moneyTexts", unfollowed := true, recurses := true, named := ["accounting/money.powers"], apart := false, laid := [("accounting/money.powers", laid_accounting_money_powers)] }
def MoneyTextsSaid : Prop := moneyTextsRow.holds Tryd.pinned (OpenSpec.ofChange moneyTextsSpec)

/-- ITS FALSE NEIGHBOUR: 'it returns false'. Refute it at one input. -/
def moneyTextsWrong : ChangeSpec := { name := "moneyTexts", fn := fun _ => fun
  | [d1, d2] => { results := [.lit (.bool false)], args := [d1, d2] }
  | _ => none }
def MoneyTextsWrongFalsely : Prop := moneyTextsRow.holds Tryd.pinned (OpenSpec.ofChange moneyTextsWrong)

/-- 'accountinglaw07.MoneyParses': WHATEVER THE INPUT: true; the input reads as it did. -/
def moneyParsesSpec : ChangeSpec := { name := "moneyParses", fn := fun _ => fun
  | [d1, d2] => { results := [.lit (.bool true)], args := [d1, d2] }
  | _ => none }
def moneyParsesRow : OpenClaim := { program := "ythmpapnhomngnaadoor", sum := "8c269ea04c2f6d9429d27dda7b247e937fd0ea7966c1607cb095c49e359e2ea0", func := "accounting/accountinglaw07.MoneyParses", spec := "moneyParses", unfollowed := true, recurses := true, named := ["accounting/money.powers"], apart := false, laid := [("accounting/money.powers", laid_accounting_money_powers)] }
def MoneyParsesSaid : Prop := moneyParsesRow.holds Tryd.pinned (OpenSpec.ofChange moneyParsesSpec)

/-- ITS FALSE NEIGHBOUR: 'it returns false'. Refute it at one input. -/
def moneyParsesWrong : ChangeSpec := { name := "moneyParses", fn := fun _ => fun
  | [d1, d2] => { results := [.lit (.bool false)], args := [d1, d2] }
  | _ => none }
def MoneyParsesWrongFalsely : Prop := moneyParsesRow.holds Tryd.pinned (OpenSpec.ofChange moneyParsesWrong)

/-- 'accountinglaw07.MoneyTables': WHATEVER THE INPUT: true; the input reads as it did. -/
def moneyTablesSpec : ChangeSpec := { name := "moneyTables", fn := fun _ => fun
  | [d1, d2] => { results := [.lit (.bool true)], args := [d1, d2] }
  | _ => none }
def moneyTablesRow : OpenClaim := { program := "ythmpapnhomngnaadoor", sum := "8c269ea04c2f6d9429d27dda7b247e937fd0ea7966c1607cb095c49e359e2ea0", func := "accounting/accountinglaw07.MoneyTables", spec := "moneyTables", unfollowed := true, recurses := true, named := ["accounting/money.powers"], apart := false, laid := [("accounting/money.powers", laid_accounting_money_powers)] }
def MoneyTablesSaid : Prop := moneyTablesRow.holds Tryd.pinned (OpenSpec.ofChange moneyTablesSpec)

/-- ITS FALSE NEIGHBOUR: 'it returns false'. Refute it at one input. -/
def moneyTablesWrong : ChangeSpec := { name := "moneyTables", fn := fun _ => fun
  | [d1, d2] => { results := [.lit (.bool false)], args := [d1, d2] }
  | _ => none }
def MoneyTablesWrongFalsely : Prop := moneyTablesRow.holds Tryd.pinned (OpenSpec.ofChange moneyTablesWrong)

/- THE SECOND FORM. 'bulk': how many values and letters a reading holds, each counted each time it is reached (what is shared counts as often as it is met; a slice's spare places count too). A statement '..UptoSaid' is the law's where the arguments, and the package variables that the reading takes, are together of bulk at most 1048576: NARROWER than '..Said'. Prove '..Said' where nothing that the law and all that it calls make is longer than what came in: it says more and counts as full. Else prove '..UptoSaid'. A law counts once. -/
mutual
def uptoBulk {H : Type} : DataW H → Nat
  | .lit (.string bytes) => bytes.length + 1
  | .lit _ => 1
  | .nil => 1
  | .ptr d => uptoBulk d + 1
  | .slice elems spare => uptoBulkAll elems + uptoBulkAll spare + 1
  | .agg parts => uptoBulkAll parts + 1
  | .iface _ d => uptoBulk d + 1
  | .map entries => uptoBulkEntries entries + 1
  | .held _ => 1
def uptoBulkAll {H : Type} : List (DataW H) → Nat
  | [] => 0
  | d :: r => uptoBulk d + uptoBulkAll r
def uptoBulkEntries {H : Type} : List (Lit × DataW H) → Nat
  | [] => 0
  | x :: r => uptoBulkEntry x + uptoBulkEntries r
def uptoBulkEntry {H : Type} : Lit × DataW H → Nat
  | (.string bytes, d) => bytes.length + uptoBulk d + 1
  | (_, d) => uptoBulk d + 1
 end
def uptoSmall : (H : Type) → List (DataW H) → Bool := fun _ ds => decide (uptoBulkAll ds ≤ 1048576)
def OpenSpec.upto (s : _root_.Go.ChangeSpec) : _root_.Go.OpenSpec := { _root_.Go.OpenSpec.ofChange s with cond := some uptoSmall }

/-- 'accountinglaw07.MoneyScales', WHERE WHAT IT READS IS OF BULK AT MOST 1048576: true; the input reads as it did. -/
def moneyScalesUptoRow : OpenClaim := { program := "ythmpapnhomngnaadoor", sum := "8c269ea04c2f6d9429d27dda7b247e937fd0ea7966c1607cb095c49e359e2ea0", func := "accounting/accountinglaw07.MoneyScales", spec := "moneyScales", unfollowed := true, recurses := true, named := ["accounting/money.powers"], apart := false, laid := [("accounting/money.powers", laid_accounting_money_powers)], narrowed := true }
def MoneyScalesUptoSaid : Prop := moneyScalesUptoRow.holds Tryd.pinned (OpenSpec.upto moneyScalesSpec)

/-- 'accountinglaw07.MoneyBack', WHERE WHAT IT READS IS OF BULK AT MOST 1048576: true; the input reads as it did. -/
def moneyBackUptoRow : OpenClaim := { program := "ythmpapnhomngnaadoor", sum := "8c269ea04c2f6d9429d27dda7b247e937fd0ea7966c1607cb095c49e359e2ea0", func := "accounting/accountinglaw07.MoneyBack", spec := "moneyBack", unfollowed := true, recurses := true, named := ["accounting/money.powers"], apart := false, laid := [("accounting/money.powers", laid_accounting_money_powers)], narrowed := true }
def MoneyBackUptoSaid : Prop := moneyBackUptoRow.holds Tryd.pinned (OpenSpec.upto moneyBackSpec)

/-- 'accountinglaw07.MoneyRounds', WHERE WHAT IT READS IS OF BULK AT MOST 1048576: true; the input reads as it did. -/
def moneyRoundsUptoRow : OpenClaim := { program := "ythmpapnhomngnaadoor", sum := "8c269ea04c2f6d9429d27dda7b247e937fd0ea7966c1607cb095c49e359e2ea0", func := "accounting/accountinglaw07.MoneyRounds", spec := "moneyRounds", unfollowed := true, recurses := true, named := ["accounting/money.powers"], apart := false, laid := [("accounting/money.powers", laid_accounting_money_powers)], narrowed := true }
def MoneyRoundsUptoSaid : Prop := moneyRoundsUptoRow.holds Tryd.pinned (OpenSpec.upto moneyRoundsSpec)

/-- 'accountinglaw07.MoneyOrder', WHERE WHAT IT READS IS OF BULK AT MOST 1048576: true; the input reads as it did. -/
def moneyOrderUptoRow : OpenClaim := { program := "ythmpapnhomngnaadoor", sum := "8c269ea04c2f6d9429d27dda7b247e937fd0ea7966c1607cb095c49e359e2ea0", func := "accounting/accountinglaw07.MoneyOrder", spec := "moneyOrder", unfollowed := true, recurses := true, named := ["accounting/money.powers"], apart := false, laid := [("accounting/money.powers", laid_accounting_money_powers)], narrowed := true }
def MoneyOrderUptoSaid : Prop := moneyOrderUptoRow.holds Tryd.pinned (OpenSpec.upto moneyOrderSpec)

/-- 'accountinglaw07.MoneyTexts', WHERE WHAT IT READS IS OF BULK AT MOST 1048576: true; the input reads as it did. -/
def moneyTextsUptoRow : OpenClaim := { program := "ythmpapnhomngnaadoor", sum := "8c269ea04c2f6d9429d27dda7b247e937fd0ea7966c1607cb095c49e359e2ea0", func := "accounting/accountinglaw07.MoneyTexts", spec := "moneyTexts", unfollowed := true, recurses := true, named := ["accounting/money.powers"], apart := false, laid := [("accounting/money.powers", laid_accounting_money_powers)], narrowed := true }
def MoneyTextsUptoSaid : Prop := moneyTextsUptoRow.holds Tryd.pinned (OpenSpec.upto moneyTextsSpec)

/-- 'accountinglaw07.MoneyParses', WHERE WHAT IT READS IS OF BULK AT MOST 1048576: true; the input reads as it did. -/
def moneyParsesUptoRow : OpenClaim := { program := "ythmpapnhomngnaadoor", sum := "8c269ea04c2f6d9429d27dda7b247e937fd0ea7966c1607cb095c49e359e2ea0", func := "accounting/accountinglaw07.MoneyParses", spec := "moneyParses", unfollowed := true, recurses := true, named := ["accounting/money.powers"], apart := false, laid := [("accounting/money.powers", laid_accounting_money_powers)], narrowed := true }
def MoneyParsesUptoSaid : Prop := moneyParsesUptoRow.holds Tryd.pinned (OpenSpec.upto moneyParsesSpec)

/-- 'accountinglaw07.MoneyTables', WHERE WHAT IT READS IS OF BULK AT MOST 1048576: true; the input reads as it did. -/
def moneyTablesUptoRow : OpenClaim := { program := "ythmpapnhomngnaadoor", sum := "8c269ea04c2f6d9429d27dda7b247e937fd0ea7966c1607cb095c49e359e2ea0", func := "accounting/accountinglaw07.MoneyTables", spec := "moneyTables", unfollowed := true, recurses := true, named := ["accounting/money.powers"], apart := false, laid := [("accounting/money.powers", laid_accounting_money_powers)], narrowed := true }
def MoneyTablesUptoSaid : Prop := moneyTablesUptoRow.holds Tryd.pinned (OpenSpec.upto moneyTablesSpec)

end Rows
end Go.Proofs.YthmpapnhomngnaaDoor
