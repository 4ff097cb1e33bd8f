-- By gen.py, a program of this session's, over the print's forms: not the print's own text.
import Derived.Test.YthmpapnhomngnaaDoorAx0
import Derived.Test.YthmpapnhomngnaaDoorB12
namespace Go.Proofs.YthmpapnhomngnaaDoor.A
open Go.ChangeShapes Go.WideShapes Go.ChangeAt Go.Joins Go.Proofs.YthmpapnhomngnaaDoor.B Go.Proofs.YthmpapnhomngnaaDoorW.PrintWords
set_option maxRecDepth 100000 in
/-- A table of currencies as an argument. -/
theorem opens_curs : Opens Tryd.prog 39 (Kd.slice 56 k56) (fun xs => (∀ x ∈ xs, x.f0.size ≤ 140737488351232 ∧ (Lit.int .i64 x.f1).wf = true) ∧ xs.length ≤ maxLen ∧ xs.length * Tryd.prog.bytesOf 56 ≤ 140737488351232) :=
  Opens.slice (by kernel_rfl) (by kernel_rfl)
    (Opens.iso (Opens.struct (fs := #[⟨"Code", 9, 0, false, "", "", 0⟩, ⟨"Digits", 3, 1, false, "", "", 16⟩]) (by kernel_rfl) (by kernel_rfl)
      (OpensF.cons (Opens.string Tryd.underlying9 (by kernel_rfl)) rfl (OpensF.one (Opens.int Tryd.underlying3 (by kernel_rfl)) rfl) rfl))
      (fun x : S56 => (x.f0, x.f1)) (fun p => ⟨p.1, p.2⟩) (fun _ => rfl) (fun _ h => h))
theorem open_curs {H : Type} {enc : TypeId × Value → H} {W : World} {base b0 : Nat} {spare : Nat → Bool} {held : Bool} {r : Reach} {v : Value} {y : DataW H} {p : List MemPlace}
    (hv : Value.okWide Tryd.prog W r b0 39 v) (hh : DataW.Trod enc Tryd.prog W base spare held 39 v y p) (hw : ∀ x ∈ y.weights Tryd.prog 39, x ≤ reachBytes) :
    ∃ (a : Option Addr) (c : Nat) (xs : List S56), v = .slice a xs.length c ∧ xs.length ≤ c ∧ Kd.C k56 W a xs.length xs ∧ ∀ x ∈ xs, x.f0.size ≤ 140737488351232 := by
  obtain ⟨a, c, xs, h1, h2, h3, h4, _⟩ := opens_curs.arg (by kernel_rfl) hv hh hw
  exact ⟨a, c, xs, h1, h2, h3, fun x hx => (h4 x hx).1⟩
end Go.Proofs.YthmpapnhomngnaaDoor.A
