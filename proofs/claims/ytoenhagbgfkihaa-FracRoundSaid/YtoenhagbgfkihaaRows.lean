/-
  No cell of these rows narrows 'for every input' (looked for: loops, veiled, ifaces, maps, wideKeys, modest, calm, conditions, laid).
  DERIVED. THE GIVEN ROWS OF THIS SEAT. 9 by the template 'for every input the law returns true; each argument reads behind the call as it read before'; 0 by the template 'total and deterministic' (their statements: YtoenhagbgfkihaaTotals.lean).
  GIVEN WITH THE SEED: the statements are not yours to turn. If you find one false, say at which input.
  Laid BY PROGRAM, IN A SANDBOX (cutbox-rows.mjs): the forced cells as the released guide's own fill.sh prints them over the translation 08ff46fe37830d52… (all of the seat's roots in one cut). By AI agents, Wed Nov 11 2026. No macro, syntax, notation, axiom, sorry.
-/
import Derived.Test.YtoenhagbgfkihaaChecked
import GoSem.Claim
import GoSem.ClaimJoined
import GoSem.ClaimMapViews
import Derived.JoinedTies
import Derived.KernelRfl
namespace Go.Proofs.Ytoenhagbgfkihaa
/- THE CELL 'sum', in the pinned program and in every row, IS THE sha256 OF THE DUMP (.gsa) THAT YtoenhagbgfkihaaProg.lean LOADS. Nothing in Lean hashes anything: it is a label: what it is worth is what the hold of that sum in a sandbox is worth. -/
noncomputable def Try.pinned : Pinned := { name := "ytoenhagbgfkihaa", sum := "08ff46fe37830d52eca9ceed260affba494a2515373803bee5140497c9a38f7d", checked := Try.checked }
namespace Rows
def none {H : Type} : Left H := { results := [], args := [] }

/-- 'accountinglaw03.FracRight': WHATEVER THE INPUT: true; the input reads as it did. -/
def fracRightSpec : ChangeSpec := { name := "fracRight", fn := fun _ => fun
  | [d] => { results := [.lit (.bool true)], args := [d] }
  | _ => none }
def fracRightRow : OpenClaim := { program := "ytoenhagbgfkihaa", sum := "08ff46fe37830d52eca9ceed260affba494a2515373803bee5140497c9a38f7d", func := "accounting/accountinglaw03.FracRight", spec := "fracRight", unfollowed := true, recurses := true, apart := false }
def FracRightSaid : Prop := fracRightRow.holds Try.pinned (OpenSpec.ofChange fracRightSpec)

/-- ITS FALSE NEIGHBOUR: 'it returns false'. Refute it at one input. -/
def fracRightWrong : ChangeSpec := { name := "fracRight", fn := fun _ => fun
  | [d] => { results := [.lit (.bool false)], args := [d] }
  | _ => none }
def FracRightWrongFalsely : Prop := fracRightRow.holds Try.pinned (OpenSpec.ofChange fracRightWrong)

/-- 'accountinglaw03.FracMake': WHATEVER THE INPUT: true; the input reads as it did. -/
def fracMakeSpec : ChangeSpec := { name := "fracMake", fn := fun _ => fun
  | [d1, d2] => { results := [.lit (.bool true)], args := [d1, d2] }
  | _ => none }
def fracMakeRow : OpenClaim := { program := "ytoenhagbgfkihaa", sum := "08ff46fe37830d52eca9ceed260affba494a2515373803bee5140497c9a38f7d", func := "accounting/accountinglaw03.FracMake", spec := "fracMake", unfollowed := true, recurses := true, apart := false }
def FracMakeSaid : Prop := fracMakeRow.holds Try.pinned (OpenSpec.ofChange fracMakeSpec)

/-- ITS FALSE NEIGHBOUR: 'it returns false'. Refute it at one input. -/
def fracMakeWrong : ChangeSpec := { name := "fracMake", fn := fun _ => fun
  | [d1, d2] => { results := [.lit (.bool false)], args := [d1, d2] }
  | _ => none }
def FracMakeWrongFalsely : Prop := fracMakeRow.holds Try.pinned (OpenSpec.ofChange fracMakeWrong)

/-- 'accountinglaw03.FracApply': WHATEVER THE INPUT: true; the input reads as it did. -/
def fracApplySpec : ChangeSpec := { name := "fracApply", fn := fun _ => fun
  | [d1, d2, d3] => { results := [.lit (.bool true)], args := [d1, d2, d3] }
  | _ => none }
def fracApplyRow : OpenClaim := { program := "ytoenhagbgfkihaa", sum := "08ff46fe37830d52eca9ceed260affba494a2515373803bee5140497c9a38f7d", func := "accounting/accountinglaw03.FracApply", spec := "fracApply", unfollowed := true, recurses := true, apart := false }
def FracApplySaid : Prop := fracApplyRow.holds Try.pinned (OpenSpec.ofChange fracApplySpec)

/-- ITS FALSE NEIGHBOUR: 'it returns false'. Refute it at one input. -/
def fracApplyWrong : ChangeSpec := { name := "fracApply", fn := fun _ => fun
  | [d1, d2, d3] => { results := [.lit (.bool false)], args := [d1, d2, d3] }
  | _ => none }
def FracApplyWrongFalsely : Prop := fracApplyRow.holds Try.pinned (OpenSpec.ofChange fracApplyWrong)

/-- 'accountinglaw03.FracText': WHATEVER THE INPUT: true; the input reads as it did. -/
def fracTextSpec : ChangeSpec := { name := "fracText", fn := fun _ => fun
  | [d] => { results := [.lit (.bool true)], args := [d] }
  | _ => none }
def fracTextRow : OpenClaim := { program := "ytoenhagbgfkihaa", sum := "08ff46fe37830d52eca9ceed260affba494a2515373803bee5140497c9a38f7d", func := "accounting/accountinglaw03.FracText", spec := "fracText", unfollowed := true, recurses := true, apart := false }
def FracTextSaid : Prop := fracTextRow.holds Try.pinned (OpenSpec.ofChange fracTextSpec)

/-- ITS FALSE NEIGHBOUR: 'it returns false'. Refute it at one input. -/
def fracTextWrong : ChangeSpec := { name := "fracText", fn := fun _ => fun
  | [d] => { results := [.lit (.bool false)], args := [d] }
  | _ => none }
def FracTextWrongFalsely : Prop := fracTextRow.holds Try.pinned (OpenSpec.ofChange fracTextWrong)

/-- 'accountinglaw03.FracParse': WHATEVER THE INPUT: true; the input reads as it did. -/
def fracParseSpec : ChangeSpec := { name := "fracParse", fn := fun _ => fun
  | [d] => { results := [.lit (.bool true)], args := [d] }
  | _ => none }
def fracParseRow : OpenClaim := { program := "ytoenhagbgfkihaa", sum := "08ff46fe37830d52eca9ceed260affba494a2515373803bee5140497c9a38f7d", func := "accounting/accountinglaw03.FracParse", spec := "fracParse", unfollowed := true, recurses := true, apart := false }
def FracParseSaid : Prop := fracParseRow.holds Try.pinned (OpenSpec.ofChange fracParseSpec)

/-- ITS FALSE NEIGHBOUR: 'it returns false'. Refute it at one input. -/
def fracParseWrong : ChangeSpec := { name := "fracParse", fn := fun _ => fun
  | [d] => { results := [.lit (.bool false)], args := [d] }
  | _ => none }
def FracParseWrongFalsely : Prop := fracParseRow.holds Try.pinned (OpenSpec.ofChange fracParseWrong)

/-- 'accountinglaw03.FracRound': WHATEVER THE INPUT: true; the input reads as it did. -/
def fracRoundSpec : ChangeSpec := { name := "fracRound", fn := fun _ => fun
  | [d1, d2] => { results := [.lit (.bool true)], args := [d1, d2] }
  | _ => none }
def fracRoundRow : OpenClaim := { program := "ytoenhagbgfkihaa", sum := "08ff46fe37830d52eca9ceed260affba494a2515373803bee5140497c9a38f7d", func := "accounting/accountinglaw03.FracRound", spec := "fracRound", unfollowed := true, recurses := true, apart := false }
def FracRoundSaid : Prop := fracRoundRow.holds Try.pinned (OpenSpec.ofChange fracRoundSpec)

/-- ITS FALSE NEIGHBOUR: 'it returns false'. Refute it at one input. -/
def fracRoundWrong : ChangeSpec := { name := "fracRound", fn := fun _ => fun
  | [d1, d2] => { results := [.lit (.bool false)], args := [d1, d2] }
  | _ => none }
def FracRoundWrongFalsely : Prop := fracRoundRow.holds Try.pinned (OpenSpec.ofChange fracRoundWrong)

/-- 'accountinglaw03.FracOrder': WHATEVER THE INPUT: true; the input reads as it did. -/
def fracOrderSpec : ChangeSpec := { name := "fracOrder", fn := fun _ => fun
  | [d1, d2] => { results := [.lit (.bool true)], args := [d1, d2] }
  | _ => none }
def fracOrderRow : OpenClaim := { program := "ytoenhagbgfkihaa", sum := "08ff46fe37830d52eca9ceed260affba494a2515373803bee5140497c9a38f7d", func := "accounting/accountinglaw03.FracOrder", spec := "fracOrder", unfollowed := true, recurses := true, apart := false }
def FracOrderSaid : Prop := fracOrderRow.holds Try.pinned (OpenSpec.ofChange fracOrderSpec)

/-- ITS FALSE NEIGHBOUR: 'it returns false'. Refute it at one input. -/
def fracOrderWrong : ChangeSpec := { name := "fracOrder", fn := fun _ => fun
  | [d1, d2] => { results := [.lit (.bool false)], args := [d1, d2] }
  | _ => none }
def FracOrderWrongFalsely : Prop := fracOrderRow.holds Try.pinned (OpenSpec.ofChange fracOrderWrong)

/-- 'accountinglaw03.FracArith': WHATEVER THE INPUT: true; the input reads as it did. -/
def fracArithSpec : ChangeSpec := { name := "fracArith", fn := fun _ => fun
  | [d1, d2] => { results := [.lit (.bool true)], args := [d1, d2] }
  | _ => none }
def fracArithRow : OpenClaim := { program := "ytoenhagbgfkihaa", sum := "08ff46fe37830d52eca9ceed260affba494a2515373803bee5140497c9a38f7d", func := "accounting/accountinglaw03.FracArith", spec := "fracArith", unfollowed := true, recurses := true, apart := false }
def FracArithSaid : Prop := fracArithRow.holds Try.pinned (OpenSpec.ofChange fracArithSpec)

/-- ITS FALSE NEIGHBOUR: 'it returns false'. Refute it at one input. -/
def fracArithWrong : ChangeSpec := { name := "fracArith", fn := fun _ => fun
  | [d1, d2] => { results := [.lit (.bool false)], args := [d1, d2] }
  | _ => none }
def FracArithWrongFalsely : Prop := fracArithRow.holds Try.pinned (OpenSpec.ofChange fracArithWrong)

/-- 'accountinglaw03.FracInverse': WHATEVER THE INPUT: true; the input reads as it did. -/
def fracInverseSpec : ChangeSpec := { name := "fracInverse", fn := fun _ => fun
  | [d1, d2] => { results := [.lit (.bool true)], args := [d1, d2] }
  | _ => none }
def fracInverseRow : OpenClaim := { program := "ytoenhagbgfkihaa", sum := "08ff46fe37830d52eca9ceed260affba494a2515373803bee5140497c9a38f7d", func := "accounting/accountinglaw03.FracInverse", spec := "fracInverse", unfollowed := true, recurses := true, apart := false }
def FracInverseSaid : Prop := fracInverseRow.holds Try.pinned (OpenSpec.ofChange fracInverseSpec)

/-- ITS FALSE NEIGHBOUR: 'it returns false'. Refute it at one input. -/
def fracInverseWrong : ChangeSpec := { name := "fracInverse", fn := fun _ => fun
  | [d1, d2] => { results := [.lit (.bool false)], args := [d1, d2] }
  | _ => none }
def FracInverseWrongFalsely : Prop := fracInverseRow.holds Try.pinned (OpenSpec.ofChange fracInverseWrong)

/- THE SECOND FORM. 'bulk': how many values and letters a reading holds, each counted each time it is reached (what is shared counts as often as it is met; a slice's spare places count too). A statement '..UptoSaid' is the law's where the arguments, and the package variables that the reading takes, are together of bulk at most 1048576: NARROWER than '..Said'. Prove '..Said' where nothing that the law and all that it calls make is longer than what came in: it says more and counts as full. Else prove '..UptoSaid'. A law counts once. -/
mutual
def uptoBulk {H : Type} : DataW H → Nat
  | .lit (.string bytes) => bytes.length + 1
  | .lit _ => 1
  | .nil => 1
  | .ptr d => uptoBulk d + 1
  | .slice elems spare => uptoBulkAll elems + uptoBulkAll spare + 1
  | .agg parts => uptoBulkAll parts + 1
  | .iface _ d => uptoBulk d + 1
  | .map entries => uptoBulkEntries entries + 1
  | .held _ => 1
def uptoBulkAll {H : Type} : List (DataW H) → Nat
  | [] => 0
  | d :: r => uptoBulk d + uptoBulkAll r
def uptoBulkEntries {H : Type} : List (Lit × DataW H) → Nat
  | [] => 0
  | x :: r => uptoBulkEntry x + uptoBulkEntries r
def uptoBulkEntry {H : Type} : Lit × DataW H → Nat
  | (.string bytes, d) => bytes.length + uptoBulk d + 1
  | (_, d) => uptoBulk d + 1
 end
def uptoSmall : (H : Type) → List (DataW H) → Bool := fun _ ds => decide (uptoBulkAll ds ≤ 1048576)
def OpenSpec.upto (s : _root_.Go.ChangeSpec) : _root_.Go.OpenSpec := { _root_.Go.OpenSpec.ofChange s with cond := some uptoSmall }

/-- 'accountinglaw03.FracRight', WHERE WHAT IT READS IS OF BULK AT MOST 1048576: true; the input reads as it did. -/
def fracRightUptoRow : OpenClaim := { program := "ytoenhagbgfkihaa", sum := "08ff46fe37830d52eca9ceed260affba494a2515373803bee5140497c9a38f7d", func := "accounting/accountinglaw03.FracRight", spec := "fracRight", unfollowed := true, recurses := true, apart := false, narrowed := true }
def FracRightUptoSaid : Prop := fracRightUptoRow.holds Try.pinned (OpenSpec.upto fracRightSpec)

/-- 'accountinglaw03.FracMake', WHERE WHAT IT READS IS OF BULK AT MOST 1048576: true; the input reads as it did. -/
def fracMakeUptoRow : OpenClaim := { program := "ytoenhagbgfkihaa", sum := "08ff46fe37830d52eca9ceed260affba494a2515373803bee5140497c9a38f7d", func := "accounting/accountinglaw03.FracMake", spec := "fracMake", unfollowed := true, recurses := true, apart := false, narrowed := true }
def FracMakeUptoSaid : Prop := fracMakeUptoRow.holds Try.pinned (OpenSpec.upto fracMakeSpec)

/-- 'accountinglaw03.FracApply', WHERE WHAT IT READS IS OF BULK AT MOST 1048576: true; the input reads as it did. -/
def fracApplyUptoRow : OpenClaim := { program := "ytoenhagbgfkihaa", sum := "08ff46fe37830d52eca9ceed260affba494a2515373803bee5140497c9a38f7d", func := "accounting/accountinglaw03.FracApply", spec := "fracApply", unfollowed := true, recurses := true, apart := false, narrowed := true }
def FracApplyUptoSaid : Prop := fracApplyUptoRow.holds Try.pinned (OpenSpec.upto fracApplySpec)

/-- 'accountinglaw03.FracText', WHERE WHAT IT READS IS OF BULK AT MOST 1048576: true; the input reads as it did. -/
def fracTextUptoRow : OpenClaim := { program := "ytoenhagbgfkihaa", sum := "08ff46fe37830d52eca9ceed260affba494a2515373803bee5140497c9a38f7d", func := "accounting/accountinglaw03.FracText", spec := "fracText", unfollowed := true, recurses := true, apart := false, narrowed := true }
def FracTextUptoSaid : Prop := fracTextUptoRow.holds Try.pinned (OpenSpec.upto fracTextSpec)

/-- 'accountinglaw03.FracParse', WHERE WHAT IT READS IS OF BULK AT MOST 1048576: true; the input reads as it did. -/
def fracParseUptoRow : OpenClaim := { program := "ytoenhagbgfkihaa", sum := "08ff46fe37830d52eca9ceed260affba494a2515373803bee5140497c9a38f7d", func := "accounting/accountinglaw03.FracParse", spec := "fracParse", unfollowed := true, recurses := true, apart := false, narrowed := true }
def FracParseUptoSaid : Prop := fracParseUptoRow.holds Try.pinned (OpenSpec.upto fracParseSpec)

/-- 'accountinglaw03.FracRound', WHERE WHAT IT READS IS OF BULK AT MOST 1048576: true; the input reads as it did. -/
def fracRoundUptoRow : OpenClaim := { program := "ytoenhagbgfkihaa", sum := "08ff46fe37830d52eca9ceed260affba494a2515373803bee5140497c9a38f7d", func := "accounting/accountinglaw03.FracRound", spec := "fracRound", unfollowed := true, recurses := true, apart := false, narrowed := true }
def FracRoundUptoSaid : Prop := fracRoundUptoRow.holds Try.pinned (OpenSpec.upto fracRoundSpec)

/-- 'accountinglaw03.FracOrder', WHERE WHAT IT READS IS OF BULK AT MOST 1048576: true; the input reads as it did. -/
def fracOrderUptoRow : OpenClaim := { program := "ytoenhagbgfkihaa", sum := "08ff46fe37830d52eca9ceed260affba494a2515373803bee5140497c9a38f7d", func := "accounting/accountinglaw03.FracOrder", spec := "fracOrder", unfollowed := true, recurses := true, apart := false, narrowed := true }
def FracOrderUptoSaid : Prop := fracOrderUptoRow.holds Try.pinned (OpenSpec.upto fracOrderSpec)

/-- 'accountinglaw03.FracArith', WHERE WHAT IT READS IS OF BULK AT MOST 1048576: true; the input reads as it did. -/
def fracArithUptoRow : OpenClaim := { program := "ytoenhagbgfkihaa", sum := "08ff46fe37830d52eca9ceed260affba494a2515373803bee5140497c9a38f7d", func := "accounting/accountinglaw03.FracArith", spec := "fracArith", unfollowed := true, recurses := true, apart := false, narrowed := true }
def FracArithUptoSaid : Prop := fracArithUptoRow.holds Try.pinned (OpenSpec.upto fracArithSpec)

/-- 'accountinglaw03.FracInverse', WHERE WHAT IT READS IS OF BULK AT MOST 1048576: true; the input reads as it did. -/
def fracInverseUptoRow : OpenClaim := { program := "ytoenhagbgfkihaa", sum := "08ff46fe37830d52eca9ceed260affba494a2515373803bee5140497c9a38f7d", func := "accounting/accountinglaw03.FracInverse", spec := "fracInverse", unfollowed := true, recurses := true, apart := false, narrowed := true }
def FracInverseUptoSaid : Prop := fracInverseUptoRow.holds Try.pinned (OpenSpec.upto fracInverseSpec)

end Rows
end Go.Proofs.Ytoenhagbgfkihaa
