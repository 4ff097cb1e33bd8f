/-
  NARROWER THAN 'FOR EVERY INPUT', by the rows' own cells (each row's printed sentence says how): TermsRight: laid · TermsDue: laid · TermsCut: laid · TermsParse: laid · TermsBack: laid · TermsLater: laid.
  DERIVED. THE GIVEN ROWS OF THIS SEAT. 6 by the template 'for every input the law returns true; each argument reads behind the call as it read before'; 0 by the template 'total and deterministic' (their statements: YtelfiofnhchmbaaDoorTotals.lean).
  GIVEN WITH THE SEED: the statements are not yours to turn. If you find one false, say at which input.
  Laid BY PROGRAM, IN A SANDBOX (cutbox-rows.mjs): the forced cells as the released guide's own fill.sh prints them over the translation 9db013b49813f432… (all of the seat's roots in one cut). By AI agents, Wed Nov 11 2026. No macro, syntax, notation, axiom, sorry.
-/
import Derived.Test.YtelfiofnhchmbaaDoorChecked
import GoSem.Claim
import GoSem.ClaimJoined
import GoSem.ClaimMapViews
import Derived.JoinedTies
import Derived.KernelRfl
namespace Go.Proofs.YtelfiofnhchmbaaDoor
/- THE CELL 'sum', in the pinned program and in every row, IS THE sha256 OF THE DUMP (.gsa) THAT YtelfiofnhchmbaaDoorProg.lean LOADS. Nothing in Lean hashes anything: it is a label: what it is worth is what the hold of that sum in a sandbox is worth. -/
noncomputable def Tryd.pinned : Pinned := { name := "ytelfiofnhchmbaadoor", sum := "9db013b49813f432723cc7c1fbbbc158eb3f1beaeb585e8ed229fdc8ec76c129", checked := Tryd.checked }
namespace Rows
def none {H : Type} : Left H := { results := [], args := [] }

/- WHAT THE LISTED PACKAGE-LEVEL VARIABLES READ AS WHEN THE CALL BEGINS. Each datum BY PROGRAM (the guide's laid-datum.mjs) off the statement by which the dump's own 'gosem.cut.vars' lays the variable. In a bare row this is a premise. The card (YtelfiofnhchmbaaDoorCards.lean) ties it to the program's text. -/
def laid_accounting_days_lengths {H : Type} : DataW H := .agg [.lit (.int .i64 31), .lit (.int .i64 28), .lit (.int .i64 31), .lit (.int .i64 30), .lit (.int .i64 31), .lit (.int .i64 30), .lit (.int .i64 31), .lit (.int .i64 31), .lit (.int .i64 30), .lit (.int .i64 31), .lit (.int .i64 30), .lit (.int .i64 31)]

/-- 'accountinglaw24.TermsRight': WHATEVER THE INPUT: true; the input reads as it did. -/
def termsRightSpec : ChangeSpec := { name := "termsRight", fn := fun _ => fun
  | [d] => { results := [.lit (.bool true)], args := [d] }
  | _ => none }
def termsRightRow : OpenClaim := { program := "ytelfiofnhchmbaadoor", sum := "9db013b49813f432723cc7c1fbbbc158eb3f1beaeb585e8ed229fdc8ec76c129", func := "accounting/accountinglaw24.TermsRight", spec := "termsRight", unfollowed := true, recurses := true, named := ["accounting/days.lengths"], apart := false, laid := [("accounting/days.lengths", laid_accounting_days_lengths)] }
def TermsRightSaid : Prop := termsRightRow.holds Tryd.pinned (OpenSpec.ofChange termsRightSpec)

/-- ITS FALSE NEIGHBOUR: 'it returns false'. Refute it at one input. -/
def termsRightWrong : ChangeSpec := { name := "termsRight", fn := fun _ => fun
  | [d] => { results := [.lit (.bool false)], args := [d] }
  | _ => none }
def TermsRightWrongFalsely : Prop := termsRightRow.holds Tryd.pinned (OpenSpec.ofChange termsRightWrong)

/-- 'accountinglaw24.TermsDue': WHATEVER THE INPUT: true; the input reads as it did. -/
def termsDueSpec : ChangeSpec := { name := "termsDue", fn := fun _ => fun
  | [d1, d2] => { results := [.lit (.bool true)], args := [d1, d2] }
  | _ => none }
def termsDueRow : OpenClaim := { program := "ytelfiofnhchmbaadoor", sum := "9db013b49813f432723cc7c1fbbbc158eb3f1beaeb585e8ed229fdc8ec76c129", func := "accounting/accountinglaw24.TermsDue", spec := "termsDue", unfollowed := true, recurses := true, named := ["accounting/days.lengths"], apart := false, laid := [("accounting/days.lengths", laid_accounting_days_lengths)] }
def TermsDueSaid : Prop := termsDueRow.holds Tryd.pinned (OpenSpec.ofChange termsDueSpec)

/-- ITS FALSE NEIGHBOUR: 'it returns false'. Refute it at one input. -/
def termsDueWrong : ChangeSpec := { name := "termsDue", fn := fun _ => fun
  | [d1, d2] => { results := [.lit (.bool false)], args := [d1, d2] }
  | _ => none }
def TermsDueWrongFalsely : Prop := termsDueRow.holds Tryd.pinned (OpenSpec.ofChange termsDueWrong)

/-- 'accountinglaw24.TermsCut': WHATEVER THE INPUT: true; the input reads as it did. -/
def termsCutSpec : ChangeSpec := { name := "termsCut", fn := fun _ => fun
  | [d1, d2, d3] => { results := [.lit (.bool true)], args := [d1, d2, d3] }
  | _ => none }
def termsCutRow : OpenClaim := { program := "ytelfiofnhchmbaadoor", sum := "9db013b49813f432723cc7c1fbbbc158eb3f1beaeb585e8ed229fdc8ec76c129", func := "accounting/accountinglaw24.TermsCut", spec := "termsCut", unfollowed := true, recurses := true, named := ["accounting/days.lengths"], apart := false, laid := [("accounting/days.lengths", laid_accounting_days_lengths)] }
def TermsCutSaid : Prop := termsCutRow.holds Tryd.pinned (OpenSpec.ofChange termsCutSpec)

/-- ITS FALSE NEIGHBOUR: 'it returns false'. Refute it at one input. -/
def termsCutWrong : ChangeSpec := { name := "termsCut", fn := fun _ => fun
  | [d1, d2, d3] => { results := [.lit (.bool false)], args := [d1, d2, d3] }
  | _ => none }
def TermsCutWrongFalsely : Prop := termsCutRow.holds Tryd.pinned (OpenSpec.ofChange termsCutWrong)

/-- 'accountinglaw24.TermsParse': WHATEVER THE INPUT: true; the input reads as it did. -/
def termsParseSpec : ChangeSpec := { name := "termsParse", fn := fun _ => fun
  | [d] => { results := [.lit (.bool true)], args := [d] }
  | _ => none }
def termsParseRow : OpenClaim := { program := "ytelfiofnhchmbaadoor", sum := "9db013b49813f432723cc7c1fbbbc158eb3f1beaeb585e8ed229fdc8ec76c129", func := "accounting/accountinglaw24.TermsParse", spec := "termsParse", unfollowed := true, recurses := true, named := ["accounting/days.lengths"], apart := false, laid := [("accounting/days.lengths", laid_accounting_days_lengths)] }
def TermsParseSaid : Prop := termsParseRow.holds Tryd.pinned (OpenSpec.ofChange termsParseSpec)

/-- ITS FALSE NEIGHBOUR: 'it returns false'. Refute it at one input. -/
def termsParseWrong : ChangeSpec := { name := "termsParse", fn := fun _ => fun
  | [d] => { results := [.lit (.bool false)], args := [d] }
  | _ => none }
def TermsParseWrongFalsely : Prop := termsParseRow.holds Tryd.pinned (OpenSpec.ofChange termsParseWrong)

/-- 'accountinglaw24.TermsBack': WHATEVER THE INPUT: true; the input reads as it did. -/
def termsBackSpec : ChangeSpec := { name := "termsBack", fn := fun _ => fun
  | [d1, d2] => { results := [.lit (.bool true)], args := [d1, d2] }
  | _ => none }
def termsBackRow : OpenClaim := { program := "ytelfiofnhchmbaadoor", sum := "9db013b49813f432723cc7c1fbbbc158eb3f1beaeb585e8ed229fdc8ec76c129", func := "accounting/accountinglaw24.TermsBack", spec := "termsBack", unfollowed := true, recurses := true, named := ["accounting/days.lengths"], apart := false, laid := [("accounting/days.lengths", laid_accounting_days_lengths)] }
def TermsBackSaid : Prop := termsBackRow.holds Tryd.pinned (OpenSpec.ofChange termsBackSpec)

/-- ITS FALSE NEIGHBOUR: 'it returns false'. Refute it at one input. -/
def termsBackWrong : ChangeSpec := { name := "termsBack", fn := fun _ => fun
  | [d1, d2] => { results := [.lit (.bool false)], args := [d1, d2] }
  | _ => none }
def TermsBackWrongFalsely : Prop := termsBackRow.holds Tryd.pinned (OpenSpec.ofChange termsBackWrong)

/-- 'accountinglaw24.TermsLater': WHATEVER THE INPUT: true; the input reads as it did. -/
def termsLaterSpec : ChangeSpec := { name := "termsLater", fn := fun _ => fun
  | [d1, d2, d3] => { results := [.lit (.bool true)], args := [d1, d2, d3] }
  | _ => none }
def termsLaterRow : OpenClaim := { program := "ytelfiofnhchmbaadoor", sum := "9db013b49813f432723cc7c1fbbbc158eb3f1beaeb585e8ed229fdc8ec76c129", func := "accounting/accountinglaw24.TermsLater", spec := "termsLater", unfollowed := true, recurses := true, named := ["accounting/days.lengths"], apart := false, laid := [("accounting/days.lengths", laid_accounting_days_lengths)] }
def TermsLaterSaid : Prop := termsLaterRow.holds Tryd.pinned (OpenSpec.ofChange termsLaterSpec)

/-- ITS FALSE NEIGHBOUR: 'it returns false'. Refute it at one input. -/
def termsLaterWrong : ChangeSpec := { name := "termsLater", fn := fun _ => fun
  | [d1, d2, d3] => { results := [.lit (.bool false)], args := [d1, d2, d3] }
  | _ => none }
def TermsLaterWrongFalsely : Prop := termsLaterRow.holds Tryd.pinned (OpenSpec.ofChange termsLaterWrong)

/- THE SECOND FORM. 'bulk': how many values and letters a reading holds, each counted each time it is reached (what is shared counts as often as it is met; a slice's spare places count too). A statement '..UptoSaid' is the law's where the arguments, and the package variables that the reading takes, are together of bulk at most 1048576: NARROWER than '..Said'. Prove '..Said' where nothing that the law and all that it calls make is longer than what came in: it says more and counts as full. Else prove '..UptoSaid'. A law counts once. -/
mutual
def uptoBulk {H : Type} : DataW H → Nat
  | .lit (.string bytes) => bytes.length + 1
  | .lit _ => 1
  | .nil => 1
  | .ptr d => uptoBulk d + 1
  | .slice elems spare => uptoBulkAll elems + uptoBulkAll spare + 1
  | .agg parts => uptoBulkAll parts + 1
  | .iface _ d => uptoBulk d + 1
  | .map entries => uptoBulkEntries entries + 1
  | .held _ => 1
def uptoBulkAll {H : Type} : List (DataW H) → Nat
  | [] => 0
  | d :: r => uptoBulk d + uptoBulkAll r
def uptoBulkEntries {H : Type} : List (Lit × DataW H) → Nat
  | [] => 0
  | x :: r => uptoBulkEntry x + uptoBulkEntries r
def uptoBulkEntry {H : Type} : Lit × DataW H → Nat
  | (.string bytes, d) => bytes.length + uptoBulk d + 1
  | (_, d) => uptoBulk d + 1
 end
def uptoSmall : (H : Type) → List (DataW H) → Bool := fun _ ds => decide (uptoBulkAll ds ≤ 1048576)
def OpenSpec.upto (s : _root_.Go.ChangeSpec) : _root_.Go.OpenSpec := { _root_.Go.OpenSpec.ofChange s with cond := some uptoSmall }

/-- 'accountinglaw24.TermsRight', WHERE WHAT IT READS IS OF BULK AT MOST 1048576: true; the input reads as it did. -/
def termsRightUptoRow : OpenClaim := { program := "ytelfiofnhchmbaadoor", sum := "9db013b49813f432723cc7c1fbbbc158eb3f1beaeb585e8ed229fdc8ec76c129", func := "accounting/accountinglaw24.TermsRight", spec := "termsRight", unfollowed := true, recurses := true, named := ["accounting/days.lengths"], apart := false, laid := [("accounting/days.lengths", laid_accounting_days_lengths)], narrowed := true }
def TermsRightUptoSaid : Prop := termsRightUptoRow.holds Tryd.pinned (OpenSpec.upto termsRightSpec)

/-- 'accountinglaw24.TermsDue', WHERE WHAT IT READS IS OF BULK AT MOST 1048576: true; the input reads as it did. -/
def termsDueUptoRow : OpenClaim := { program := "ytelfiofnhchmbaadoor", sum := "9db013b49813f432723cc7c1fbbbc158eb3f1beaeb585e8ed229fdc8ec76c129", func := "accounting/accountinglaw24.TermsDue", spec := "termsDue", unfollowed := true, recurses := true, named := ["accounting/days.lengths"], apart := false, laid := [("accounting/days.lengths", laid_accounting_days_lengths)], narrowed := true }
def TermsDueUptoSaid : Prop := termsDueUptoRow.holds Tryd.pinned (OpenSpec.upto termsDueSpec)

/-- 'accountinglaw24.TermsCut', WHERE WHAT IT READS IS OF BULK AT MOST 1048576: true; the input reads as it did. -/
def termsCutUptoRow : OpenClaim := { program := "ytelfiofnhchmbaadoor", sum := "9db013b49813f432723cc7c1fbbbc158eb3f1beaeb585e8ed229fdc8ec76c129", func := "accounting/accountinglaw24.TermsCut", spec := "termsCut", unfollowed := true, recurses := true, named := ["accounting/days.lengths"], apart := false, laid := [("accounting/days.lengths", laid_accounting_days_lengths)], narrowed := true }
def TermsCutUptoSaid : Prop := termsCutUptoRow.holds Tryd.pinned (OpenSpec.upto termsCutSpec)

/-- 'accountinglaw24.TermsParse', WHERE WHAT IT READS IS OF BULK AT MOST 1048576: true; the input reads as it did. -/
def termsParseUptoRow : OpenClaim := { program := "ytelfiofnhchmbaadoor", sum := "9db013b49813f432723cc7c1fbbbc158eb3f1beaeb585e8ed229fdc8ec76c129", func := "accounting/accountinglaw24.TermsParse", spec := "termsParse", unfollowed := true, recurses := true, named := ["accounting/days.lengths"], apart := false, laid := [("accounting/days.lengths", laid_accounting_days_lengths)], narrowed := true }
def TermsParseUptoSaid : Prop := termsParseUptoRow.holds Tryd.pinned (OpenSpec.upto termsParseSpec)

/-- 'accountinglaw24.TermsBack', WHERE WHAT IT READS IS OF BULK AT MOST 1048576: true; the input reads as it did. -/
def termsBackUptoRow : OpenClaim := { program := "ytelfiofnhchmbaadoor", sum := "9db013b49813f432723cc7c1fbbbc158eb3f1beaeb585e8ed229fdc8ec76c129", func := "accounting/accountinglaw24.TermsBack", spec := "termsBack", unfollowed := true, recurses := true, named := ["accounting/days.lengths"], apart := false, laid := [("accounting/days.lengths", laid_accounting_days_lengths)], narrowed := true }
def TermsBackUptoSaid : Prop := termsBackUptoRow.holds Tryd.pinned (OpenSpec.upto termsBackSpec)

/-- 'accountinglaw24.TermsLater', WHERE WHAT IT READS IS OF BULK AT MOST 1048576: true; the input reads as it did. -/
def termsLaterUptoRow : OpenClaim := { program := "ytelfiofnhchmbaadoor", sum := "9db013b49813f432723cc7c1fbbbc158eb3f1beaeb585e8ed229fdc8ec76c129", func := "accounting/accountinglaw24.TermsLater", spec := "termsLater", unfollowed := true, recurses := true, named := ["accounting/days.lengths"], apart := false, laid := [("accounting/days.lengths", laid_accounting_days_lengths)], narrowed := true }
def TermsLaterUptoSaid : Prop := termsLaterUptoRow.holds Tryd.pinned (OpenSpec.upto termsLaterSpec)

end Rows
end Go.Proofs.YtelfiofnhchmbaaDoor
