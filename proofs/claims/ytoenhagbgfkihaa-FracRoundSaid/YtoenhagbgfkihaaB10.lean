-- By gen.py, a program of this session's, over the print's forms: not the print's own text.
import Derived.Test.YtoenhagbgfkihaaWWords
import Derived.Test.YtoenhagbgfkihaaWLast
import Derived.Test.YtoenhagbgfkihaaWMore
import Derived.Deep.QuietTactic
import Derived.BigQuiet
import Derived.IntWalk
namespace Go.Proofs.Ytoenhagbgfkihaa.B
open Go.RowKit
theorem quiet_add {P : Program} {f : FuncId} {args : Array Value} {w : World} {a n : Nat} {v : Value}
    (h : Calls P f args (w.drewN (a + n)) fun e w' => e = .returned v ∧ ∃ m, w' = (w.drewN (a + n)).drewN m) :
    Calls P f args (w.drewN (a + n)) fun e w'' => e = .returned v ∧ ∃ m, w'' = w.drewN (a + m) :=
  h.mono fun _ _ ⟨he, m, hm⟩ => ⟨he, n + m, by rw [hm, World.drewN_drewN, Nat.add_assoc]⟩
theorem toList_nil {s : ByteArray} (h : s.size = 0) : s.toList = [] := by
  have : s.data = #[] := Array.eq_empty_of_size_eq_zero h
  rw [ByteArray.toList_eq, this]
theorem toList_nil' {s : ByteArray} (h : s.toList = []) : s.size = 0 := by
  rw [ByteArray.toList_eq] at h
  show s.data.size = 0
  rw [← Array.length_toList, h]; rfl
open Go.Proofs.YtoenhagbgfkihaaW.PrintWords Go.Proofs.YtoenhagbgfkihaaW.PrintLast Go.Proofs.YtoenhagbgfkihaaW.PrintMore
structure Two (W : World) (g : Nat) (a b : Value) : Prop where
  lt : g < W.heap.size
  c0 : W.cell? ⟨g, 0, none⟩ = some a
  c1 : W.cell? ⟨g, 1, none⟩ = some b
theorem Two.below {W W1 : World} {g : Nat} {a b : Value} (h : Two W g a b) (hb : Below W.heap.size W W1) : Two W1 g a b :=
  ⟨Nat.lt_of_lt_of_le h.lt hb.size, (hb.cell (p := ⟨g, 0, none⟩) h.lt).trans h.c0, (hb.cell (p := ⟨g, 1, none⟩) h.lt).trans h.c1⟩
theorem Two.alloc {W : World} {g : Nat} {a b : Value} (h : Two W g a b) (O : Obj) : Two (W.alloc O) g a b :=
  h.below (below_alloc (Below.refl _ _) _)
theorem Two.new (W : World) (a b : Value) (t : TypeId) : Two (W.alloc (.cells #[a, b] t)) W.heap.size a b :=
  ⟨by simp, by simp [go_sem], by simp [go_sem]⟩
end Go.Proofs.Ytoenhagbgfkihaa.B
