/-
  NARROWER THAN 'FOR EVERY INPUT', by the rows' own cells (each row's printed sentence says how): StmtCheck: laid · StmtFollows: laid · StmtText: laid · StmtParse: laid · StmtBack: laid · StmtBlank: laid · StmtChain: laid.
  DERIVED. THE GIVEN ROWS OF THIS SEAT. 7 by the template 'for every input the law returns true; each argument reads behind the call as it read before'; 0 by the template 'total and deterministic' (their statements: YtmlcdpfcafmmcaaDoorTotals.lean).
  GIVEN WITH THE SEED: the statements are not yours to turn. If you find one false, say at which input.
  Laid BY PROGRAM, IN A SANDBOX (cutbox-rows.mjs): the forced cells as the released guide's own fill.sh prints them over the translation 372f07d84bf54140… (all of the seat's roots in one cut). By AI agents, Wed Nov 11 2026. No macro, syntax, notation, axiom, sorry.
-/
import Derived.Test.YtmlcdpfcafmmcaaDoorChecked
import GoSem.Claim
import GoSem.ClaimJoined
import GoSem.ClaimMapViews
import Derived.JoinedTies
import Derived.KernelRfl
namespace Go.Proofs.YtmlcdpfcafmmcaaDoor
/- THE CELL 'sum', in the pinned program and in every row, IS THE sha256 OF THE DUMP (.gsa) THAT YtmlcdpfcafmmcaaDoorProg.lean LOADS. Nothing in Lean hashes anything: it is a label: what it is worth is what the hold of that sum in a sandbox is worth. -/
noncomputable def Tryd.pinned : Pinned := { name := "ytmlcdpfcafmmcaadoor", sum := "372f07d84bf541408cb3fc15918afb759e1f41007239ccccfcf47517da26522c", checked := Tryd.checked }
namespace Rows
def none {H : Type} : Left H := { results := [], args := [] }

/- WHAT THE LISTED PACKAGE-LEVEL VARIABLES READ AS WHEN THE CALL BEGINS. Each datum BY PROGRAM (the guide's laid-datum.mjs) off the statement by which the dump's own 'gosem.cut.vars' lays the variable. In a bare row this is a premise. The card (YtmlcdpfcafmmcaaDoorCards.lean) ties it to the program's text. -/
def laid_accounting_days_lengths {H : Type} : DataW H := .agg [.lit (.int .i64 31), .lit (.int .i64 28), .lit (.int .i64 31), .lit (.int .i64 30), .lit (.int .i64 31), .lit (.int .i64 30), .lit (.int .i64 31), .lit (.int .i64 31), .lit (.int .i64 30), .lit (.int .i64 31), .lit (.int .i64 30), .lit (.int .i64 31)]
def laid_accounting_money_powers {H : Type} : DataW H := .agg [.lit (.int .i64 1), .lit (.int .i64 10), .lit (.int .i64 100), .lit (.int .i64 1000), .lit (.int .i64 10000)]

/-- 'accountinglaw47.StmtCheck': WHATEVER THE INPUT: true; the input reads as it did. -/
def stmtCheckSpec : ChangeSpec := { name := "stmtCheck", fn := fun _ => fun
  | [d] => { results := [.lit (.bool true)], args := [d] }
  | _ => none }
def stmtCheckRow : OpenClaim := { program := "ytmlcdpfcafmmcaadoor", sum := "372f07d84bf541408cb3fc15918afb759e1f41007239ccccfcf47517da26522c", func := "accounting/accountinglaw47.StmtCheck", spec := "stmtCheck", unfollowed := true, recurses := true, named := ["accounting/days.lengths", "accounting/money.powers"], apart := false, laid := [("accounting/days.lengths", laid_accounting_days_lengths), ("accounting/money.powers", laid_accounting_money_powers)] }
def StmtCheckSaid : Prop := stmtCheckRow.holds Tryd.pinned (OpenSpec.ofChange stmtCheckSpec)

/-- ITS FALSE NEIGHBOUR: 'it returns false'. Refute it at one input. -/
def stmtCheckWrong : ChangeSpec := { name := "stmtCheck", fn := fun _ => fun
  | [d] => { results := [.lit (.bool false)], args := [d] }
  | _ => none }
def StmtCheckWrongFalsely : Prop := stmtCheckRow.holds Tryd.pinned (OpenSpec.ofChange stmtCheckWrong)

/-- 'accountinglaw47.StmtFollows': WHATEVER THE INPUT: true; the input reads as it did. -/
def stmtFollowsSpec : ChangeSpec := { name := "stmtFollows", fn := fun _ => fun
  | [d1, d2] => { results := [.lit (.bool true)], args := [d1, d2] }
  | _ => none }
def stmtFollowsRow : OpenClaim := { program := "ytmlcdpfcafmmcaadoor", sum := "372f07d84bf541408cb3fc15918afb759e1f41007239ccccfcf47517da26522c", func := "accounting/accountinglaw47.StmtFollows", spec := "stmtFollows", unfollowed := true, recurses := true, named := ["accounting/days.lengths", "accounting/money.powers"], apart := false, laid := [("accounting/days.lengths", laid_accounting_days_lengths), ("accounting/money.powers", laid_accounting_money_powers)] }
def StmtFollowsSaid : Prop := stmtFollowsRow.holds Tryd.pinned (OpenSpec.ofChange stmtFollowsSpec)

/-- ITS FALSE NEIGHBOUR: 'it returns false'. Refute it at one input. -/
def stmtFollowsWrong : ChangeSpec := { name := "stmtFollows", fn := fun _ => fun
  | [d1, d2] => { results := [.lit (.bool false)], args := [d1, d2] }
  | _ => none }
def StmtFollowsWrongFalsely : Prop := stmtFollowsRow.holds Tryd.pinned (OpenSpec.ofChange stmtFollowsWrong)

/-- 'accountinglaw47.StmtText': WHATEVER THE INPUT: true; the input reads as it did. -/
def stmtTextSpec : ChangeSpec := { name := "stmtText", fn := fun _ => fun
  | [d1, d2] => { results := [.lit (.bool true)], args := [d1, d2] }
  | _ => none }
def stmtTextRow : OpenClaim := { program := "ytmlcdpfcafmmcaadoor", sum := "372f07d84bf541408cb3fc15918afb759e1f41007239ccccfcf47517da26522c", func := "accounting/accountinglaw47.StmtText", spec := "stmtText", unfollowed := true, recurses := true, named := ["accounting/days.lengths", "accounting/money.powers"], apart := false, laid := [("accounting/days.lengths", laid_accounting_days_lengths), ("accounting/money.powers", laid_accounting_money_powers)] }
def StmtTextSaid : Prop := stmtTextRow.holds Tryd.pinned (OpenSpec.ofChange stmtTextSpec)

/-- ITS FALSE NEIGHBOUR: 'it returns false'. Refute it at one input. -/
def stmtTextWrong : ChangeSpec := { name := "stmtText", fn := fun _ => fun
  | [d1, d2] => { results := [.lit (.bool false)], args := [d1, d2] }
  | _ => none }
def StmtTextWrongFalsely : Prop := stmtTextRow.holds Tryd.pinned (OpenSpec.ofChange stmtTextWrong)

/-- 'accountinglaw47.StmtParse': WHATEVER THE INPUT: true; the input reads as it did. -/
def stmtParseSpec : ChangeSpec := { name := "stmtParse", fn := fun _ => fun
  | [d1, d2] => { results := [.lit (.bool true)], args := [d1, d2] }
  | _ => none }
def stmtParseRow : OpenClaim := { program := "ytmlcdpfcafmmcaadoor", sum := "372f07d84bf541408cb3fc15918afb759e1f41007239ccccfcf47517da26522c", func := "accounting/accountinglaw47.StmtParse", spec := "stmtParse", unfollowed := true, recurses := true, named := ["accounting/days.lengths", "accounting/money.powers"], apart := false, laid := [("accounting/days.lengths", laid_accounting_days_lengths), ("accounting/money.powers", laid_accounting_money_powers)] }
def StmtParseSaid : Prop := stmtParseRow.holds Tryd.pinned (OpenSpec.ofChange stmtParseSpec)

/-- ITS FALSE NEIGHBOUR: 'it returns false'. Refute it at one input. -/
def stmtParseWrong : ChangeSpec := { name := "stmtParse", fn := fun _ => fun
  | [d1, d2] => { results := [.lit (.bool false)], args := [d1, d2] }
  | _ => none }
def StmtParseWrongFalsely : Prop := stmtParseRow.holds Tryd.pinned (OpenSpec.ofChange stmtParseWrong)

/-- 'accountinglaw47.StmtBack': WHATEVER THE INPUT: true; the input reads as it did. -/
def stmtBackSpec : ChangeSpec := { name := "stmtBack", fn := fun _ => fun
  | [d1, d2, d3] => { results := [.lit (.bool true)], args := [d1, d2, d3] }
  | _ => none }
def stmtBackRow : OpenClaim := { program := "ytmlcdpfcafmmcaadoor", sum := "372f07d84bf541408cb3fc15918afb759e1f41007239ccccfcf47517da26522c", func := "accounting/accountinglaw47.StmtBack", spec := "stmtBack", unfollowed := true, recurses := true, named := ["accounting/days.lengths", "accounting/money.powers"], apart := false, laid := [("accounting/days.lengths", laid_accounting_days_lengths), ("accounting/money.powers", laid_accounting_money_powers)] }
def StmtBackSaid : Prop := stmtBackRow.holds Tryd.pinned (OpenSpec.ofChange stmtBackSpec)

/-- ITS FALSE NEIGHBOUR: 'it returns false'. Refute it at one input. -/
def stmtBackWrong : ChangeSpec := { name := "stmtBack", fn := fun _ => fun
  | [d1, d2, d3] => { results := [.lit (.bool false)], args := [d1, d2, d3] }
  | _ => none }
def StmtBackWrongFalsely : Prop := stmtBackRow.holds Tryd.pinned (OpenSpec.ofChange stmtBackWrong)

/-- 'accountinglaw47.StmtBlank': WHATEVER THE INPUT: true; the input reads as it did. -/
def stmtBlankSpec : ChangeSpec := { name := "stmtBlank", fn := fun _ => fun
  | [d1, d2] => { results := [.lit (.bool true)], args := [d1, d2] }
  | _ => none }
def stmtBlankRow : OpenClaim := { program := "ytmlcdpfcafmmcaadoor", sum := "372f07d84bf541408cb3fc15918afb759e1f41007239ccccfcf47517da26522c", func := "accounting/accountinglaw47.StmtBlank", spec := "stmtBlank", unfollowed := true, recurses := true, named := ["accounting/days.lengths", "accounting/money.powers"], apart := false, laid := [("accounting/days.lengths", laid_accounting_days_lengths), ("accounting/money.powers", laid_accounting_money_powers)] }
def StmtBlankSaid : Prop := stmtBlankRow.holds Tryd.pinned (OpenSpec.ofChange stmtBlankSpec)

/-- ITS FALSE NEIGHBOUR: 'it returns false'. Refute it at one input. -/
def stmtBlankWrong : ChangeSpec := { name := "stmtBlank", fn := fun _ => fun
  | [d1, d2] => { results := [.lit (.bool false)], args := [d1, d2] }
  | _ => none }
def StmtBlankWrongFalsely : Prop := stmtBlankRow.holds Tryd.pinned (OpenSpec.ofChange stmtBlankWrong)

/-- 'accountinglaw47.StmtChain': WHATEVER THE INPUT: true; the input reads as it did. -/
def stmtChainSpec : ChangeSpec := { name := "stmtChain", fn := fun _ => fun
  | [d1, d2] => { results := [.lit (.bool true)], args := [d1, d2] }
  | _ => none }
def stmtChainRow : OpenClaim := { program := "ytmlcdpfcafmmcaadoor", sum := "372f07d84bf541408cb3fc15918afb759e1f41007239ccccfcf47517da26522c", func := "accounting/accountinglaw47.StmtChain", spec := "stmtChain", unfollowed := true, recurses := true, named := ["accounting/days.lengths", "accounting/money.powers"], apart := false, laid := [("accounting/days.lengths", laid_accounting_days_lengths), ("accounting/money.powers", laid_accounting_money_powers)] }
def StmtChainSaid : Prop := stmtChainRow.holds Tryd.pinned (OpenSpec.ofChange stmtChainSpec)

/-- ITS FALSE NEIGHBOUR: 'it returns false'. Refute it at one input. -/
def stmtChainWrong : ChangeSpec := { name := "stmtChain", fn := fun _ => fun
  | [d1, d2] => { results := [.lit (.bool false)], args := [d1, d2] }
  | _ => none }
def StmtChainWrongFalsely : Prop := stmtChainRow.holds Tryd.pinned (OpenSpec.ofChange stmtChainWrong)

/- THE SECOND FORM. 'bulk': how many values and letters a reading holds, each counted each time it is reached (what is shared counts as often as it is met; a slice's spare places count too). A statement '..UptoSaid' is the law's where the arguments, and the package variables that the reading takes, are together of bulk at most 1048576: NARROWER than '..Said'. Prove '..Said' where nothing that the law and all that it calls make is longer than what came in: it says more and counts as full. Else prove '..UptoSaid'. A law counts once. -/
mutual
def uptoBulk {H : Type} : DataW H → Nat
  | .lit (.string bytes) => bytes.length + 1
  | .lit _ => 1
  | .nil => 1
  | .ptr d => uptoBulk d + 1
  | .slice elems spare => uptoBulkAll elems + uptoBulkAll spare + 1
  | .agg parts => uptoBulkAll parts + 1
  | .iface _ d => uptoBulk d + 1
  | .map entries => uptoBulkEntries entries + 1
  | .held _ => 1
def uptoBulkAll {H : Type} : List (DataW H) → Nat
  | [] => 0
  | d :: r => uptoBulk d + uptoBulkAll r
def uptoBulkEntries {H : Type} : List (Lit × DataW H) → Nat
  | [] => 0
  | x :: r => uptoBulkEntry x + uptoBulkEntries r
def uptoBulkEntry {H : Type} : Lit × DataW H → Nat
  | (.string bytes, d) => bytes.length + uptoBulk d + 1
  | (_, d) => uptoBulk d + 1
 end
def uptoSmall : (H : Type) → List (DataW H) → Bool := fun _ ds => decide (uptoBulkAll ds ≤ 1048576)
def OpenSpec.upto (s : _root_.Go.ChangeSpec) : _root_.Go.OpenSpec := { _root_.Go.OpenSpec.ofChange s with cond := some uptoSmall }

/-- 'accountinglaw47.StmtCheck', WHERE WHAT IT READS IS OF BULK AT MOST 1048576: true; the input reads as it did. -/
def stmtCheckUptoRow : OpenClaim := { program := "ytmlcdpfcafmmcaadoor", sum := "372f07d84bf541408cb3fc15918afb759e1f41007239ccccfcf47517da26522c", func := "accounting/accountinglaw47.StmtCheck", spec := "stmtCheck", unfollowed := true, recurses := true, named := ["accounting/days.lengths", "accounting/money.powers"], apart := false, laid := [("accounting/days.lengths", laid_accounting_days_lengths), ("accounting/money.powers", laid_accounting_money_powers)], narrowed := true }
def StmtCheckUptoSaid : Prop := stmtCheckUptoRow.holds Tryd.pinned (OpenSpec.upto stmtCheckSpec)

/-- 'accountinglaw47.StmtFollows', WHERE WHAT IT READS IS OF BULK AT MOST 1048576: true; the input reads as it did. -/
def stmtFollowsUptoRow : OpenClaim := { program := "ytmlcdpfcafmmcaadoor", sum := "372f07d84bf541408cb3fc15918afb759e1f41007239ccccfcf47517da26522c", func := "accounting/accountinglaw47.StmtFollows", spec := "stmtFollows", unfollowed := true, recurses := true, named := ["accounting/days.lengths", "accounting/money.powers"], apart := false, laid := [("accounting/days.lengths", laid_accounting_days_lengths), ("accounting/money.powers", laid_accounting_money_powers)], narrowed := true }
def StmtFollowsUptoSaid : Prop := stmtFollowsUptoRow.holds Tryd.pinned (OpenSpec.upto stmtFollowsSpec)

/-- 'accountinglaw47.StmtText', WHERE WHAT IT READS IS OF BULK AT MOST 1048576: true; the input reads as it did. -/
def stmtTextUptoRow : OpenClaim := { program := "ytmlcdpfcafmmcaadoor", sum := "372f07d84bf541408cb3fc15918afb759e1f41007239ccccfcf47517da26522c", func := "accounting/accountinglaw47.StmtText", spec := "stmtText", unfollowed := true, recurses := true, named := ["accounting/days.lengths", "accounting/money.powers"], apart := false, laid := [("accounting/days.lengths", laid_accounting_days_lengths), ("accounting/money.powers", laid_accounting_money_powers)], narrowed := true }
def StmtTextUptoSaid : Prop := stmtTextUptoRow.holds Tryd.pinned (OpenSpec.upto stmtTextSpec)

/-- 'accountinglaw47.StmtParse', WHERE WHAT IT READS IS OF BULK AT MOST 1048576: true; the input reads as it did. -/
def stmtParseUptoRow : OpenClaim := { program := "ytmlcdpfcafmmcaadoor", sum := "372f07d84bf541408cb3fc15918afb759e1f41007239ccccfcf47517da26522c", func := "accounting/accountinglaw47.StmtParse", spec := "stmtParse", unfollowed := true, recurses := true, named := ["accounting/days.lengths", "accounting/money.powers"], apart := false, laid := [("accounting/days.lengths", laid_accounting_days_lengths), ("accounting/money.powers", laid_accounting_money_powers)], narrowed := true }
def StmtParseUptoSaid : Prop := stmtParseUptoRow.holds Tryd.pinned (OpenSpec.upto stmtParseSpec)

/-- 'accountinglaw47.StmtBack', WHERE WHAT IT READS IS OF BULK AT MOST 1048576: true; the input reads as it did. -/
def stmtBackUptoRow : OpenClaim := { program := "ytmlcdpfcafmmcaadoor", sum := "372f07d84bf541408cb3fc15918afb759e1f41007239ccccfcf47517da26522c", func := "accounting/accountinglaw47.StmtBack", spec := "stmtBack", unfollowed := true, recurses := true, named := ["accounting/days.lengths", "accounting/money.powers"], apart := false, laid := [("accounting/days.lengths", laid_accounting_days_lengths), ("accounting/money.powers", laid_accounting_money_powers)], narrowed := true }
def StmtBackUptoSaid : Prop := stmtBackUptoRow.holds Tryd.pinned (OpenSpec.upto stmtBackSpec)

/-- 'accountinglaw47.StmtBlank', WHERE WHAT IT READS IS OF BULK AT MOST 1048576: true; the input reads as it did. -/
def stmtBlankUptoRow : OpenClaim := { program := "ytmlcdpfcafmmcaadoor", sum := "372f07d84bf541408cb3fc15918afb759e1f41007239ccccfcf47517da26522c", func := "accounting/accountinglaw47.StmtBlank", spec := "stmtBlank", unfollowed := true, recurses := true, named := ["accounting/days.lengths", "accounting/money.powers"], apart := false, laid := [("accounting/days.lengths", laid_accounting_days_lengths), ("accounting/money.powers", laid_accounting_money_powers)], narrowed := true }
def StmtBlankUptoSaid : Prop := stmtBlankUptoRow.holds Tryd.pinned (OpenSpec.upto stmtBlankSpec)

/-- 'accountinglaw47.StmtChain', WHERE WHAT IT READS IS OF BULK AT MOST 1048576: true; the input reads as it did. -/
def stmtChainUptoRow : OpenClaim := { program := "ytmlcdpfcafmmcaadoor", sum := "372f07d84bf541408cb3fc15918afb759e1f41007239ccccfcf47517da26522c", func := "accounting/accountinglaw47.StmtChain", spec := "stmtChain", unfollowed := true, recurses := true, named := ["accounting/days.lengths", "accounting/money.powers"], apart := false, laid := [("accounting/days.lengths", laid_accounting_days_lengths), ("accounting/money.powers", laid_accounting_money_powers)], narrowed := true }
def StmtChainUptoSaid : Prop := stmtChainUptoRow.holds Tryd.pinned (OpenSpec.upto stmtChainSpec)

end Rows
end Go.Proofs.YtmlcdpfcafmmcaaDoor
