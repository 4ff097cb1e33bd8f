-- By gen.py, a program of this session's, over the print's forms: not the print's own text.
import Derived.Test.YtoenhagbgfkihaaProg
import Derived.Lib.SmallJoins
import Derived.KernelRfl
import Derived.Test.YtoenhagbgfkihaaB0
namespace Go.Proofs.Ytoenhagbgfkihaa.B
open Go.ChangeShapes Go.WideShapes Go.ChangeAt Go.Joins
/-- A fraction by value, opened: two integers. -/
theorem open_frac {H : Type} {enc : TypeId × Value → H} {w : World} {base b0 : Nat} {spare : Nat → Bool} {held : Bool} {r : Reach} {v : Value} {d : DataW H} {p : List MemPlace}
    (hv : Value.okWide Try.prog w r b0 23 v) (h : DataW.Trod enc Try.prog w base spare held 23 v d p) :
    ∃ a b : Int, v = .agg #[.int .i64 a, .int .i64 b] ∧ I64 a ∧ I64 b := by
  obtain ⟨v0, v1, y0, y1, n, rfl, _, _, h0, h1⟩ := open_agg2 (f0 := ⟨"N", 3, 0, false, "", "", 0⟩) (f1 := ⟨"D", 3, 1, false, "", "", 8⟩) (by kernel_rfl) (by kernel_rfl) (by kernel_rfl) hv h
  obtain ⟨a, ha, _, wa⟩ := DataW.trod_int Try.underlying3 h0
  obtain ⟨b, hb, _, wb⟩ := DataW.trod_int Try.underlying3 h1
  simp only [List.cons.injEq, and_true] at ha hb
  subst ha hb
  exact ⟨a, b, rfl, bounds_i64 wa, bounds_i64 wb⟩
end Go.Proofs.Ytoenhagbgfkihaa.B
