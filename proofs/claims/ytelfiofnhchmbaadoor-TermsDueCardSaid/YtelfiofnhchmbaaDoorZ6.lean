-- By pack.py, a program of this session's: declarations of this seat's texts, put together for a claim.
import Derived.Test.YtelfiofnhchmbaaDoorZ5
namespace Go.Proofs.YtelfiofnhchmbaaDoor.B
open Go.Deep Go.ChangeShapes Go.WideShapes Go.ChangeAt Go.Joins Go.Proofs.YtelfiofnhchmbaaDoorW.PrintWords
theorem arg_weights {H : Type} {P : Program} {ts : List TypeId} {ds : List (DataW H)} {j : Nat} {t : TypeId} {d : DataW H} (hsz : (DataW.weightsEach P ts ds).all (· ≤ reachBytes) = true) (ht : ts[j]? = some t) (hd : ds[j]? = some d) : ∀ x ∈ d.weights P t, x ≤ reachBytes :=
  fun x hx => by simpa using List.all_eq_true.1 hsz x (DataW.weights_mem_each ht hd x hx)
theorem Opens.iso {α β : Type} {P : Program} {t : TypeId} {d : Kd α} {G : α → Prop} {G' : β → Prop} (h : Opens P t d G) (f : β → α) (g : α → β) (hfg : ∀ a, f (g a) = a) (hG : ∀ a, G a → G' (g a)) : Opens P t (Kd.iso d f) G' where
  size := h.size
  get hh hw := by
    obtain ⟨a, ha, hg⟩ := h.get hh hw
    refine ⟨g a, ?_, hG a hg⟩
    show d.K _ (f (g a)) _
    rw [hfg]; exact ha
theorem OpensF.one {α : Type} {P : Program} {f : Field} {o : Nat} {d : Kd α} {G : α → Prop} (h : Opens P f.type d G) (ho : f.offset = o) : OpensF P [f] o d G where
  get _ hf := by
    obtain ⟨y, hy, hw⟩ := hf f (List.mem_singleton.mpr rfl)
    rw [ho, h.size] at hy
    exact h.get hy hw
end Go.Proofs.YtelfiofnhchmbaaDoor.B
namespace Go.Proofs.YtelfiofnhchmbaaDoor.A
open Go.ChangeShapes Go.WideShapes Go.ChangeAt Go.Joins Go.RowKit Go.Proofs.YtelfiofnhchmbaaDoor.B Go.Proofs.YtelfiofnhchmbaaDoorW.PrintWords
set_option maxRecDepth 100000 in
theorem opens_frac : Opens Tryd.prog 38 k38 (fun x => (Lit.int .i64 x.f0).wf = true ∧ (Lit.int .i64 x.f1).wf = true) :=
  Opens.iso (Opens.struct (fs := #[⟨"N", 3, 0, false, "", "", 0⟩, ⟨"D", 3, 1, false, "", "", 8⟩]) (by kernel_rfl) (by kernel_rfl)
    (OpensF.cons (Opens.int Tryd.underlying3 (by kernel_rfl)) rfl (OpensF.one (Opens.int Tryd.underlying3 (by kernel_rfl)) rfl) rfl))
    (fun x : S38 => (x.f0, x.f1)) (fun p => ⟨p.1, p.2⟩) (fun _ => rfl) (fun _ h => h)
set_option maxRecDepth 100000 in
theorem opens_cut : Opens Tryd.prog 53 k53 (fun y => (Lit.int .i64 y.f0).wf = true ∧ (Lit.int .i64 y.f1.f0).wf = true ∧ (Lit.int .i64 y.f1.f1).wf = true) :=
  Opens.iso (Opens.struct (fs := #[⟨"Days", 3, 0, false, "", "", 0⟩, ⟨"F", 38, 1, false, "", "", 8⟩]) (by kernel_rfl) (by kernel_rfl)
    (OpensF.cons (Opens.int Tryd.underlying3 (by kernel_rfl)) rfl (OpensF.one opens_frac rfl) rfl))
    (fun x : S53 => (x.f0, x.f1)) (fun p => ⟨p.1, p.2⟩) (fun _ => rfl) (fun _ h => h)
set_option maxRecDepth 100000 in
theorem opens_terms : Opens Tryd.prog 24 (Kd.pair (Kd.int .i64) (Kd.pair Kd.bool (Kd.slice 53 k53))) (fun x => (Lit.int .i64 x.1).wf = true ∧ True ∧ (∀ y ∈ x.2.2, (Lit.int .i64 y.f0).wf = true ∧ (Lit.int .i64 y.f1.f0).wf = true ∧ (Lit.int .i64 y.f1.f1).wf = true) ∧ x.2.2.length ≤ maxLen ∧ x.2.2.length * Tryd.prog.bytesOf 53 ≤ 140737488351232) :=
  Opens.struct (fs := #[⟨"Net", 3, 0, false, "", "", 0⟩, ⟨"Eom", 4, 1, false, "", "", 8⟩, ⟨"Cuts", 22, 2, false, "", "", 16⟩]) (by kernel_rfl) (by kernel_rfl)
    (OpensF.cons (Opens.int Tryd.underlying3 (by kernel_rfl)) rfl (OpensF.cons (Opens.bool Tryd.underlying4 (by kernel_rfl)) rfl (OpensF.one (Opens.slice (by kernel_rfl) (by kernel_rfl) opens_cut) rfl) rfl) rfl)
set_option maxRecDepth 100000 in
theorem open_terms {H : Type} {enc : TypeId × Value → H} {W : World} {base b0 : Nat} {spare : Nat → Bool} {held : Bool} {r : Reach} {v : Value} {y : DataW H} {p : List MemPlace}
    (hv : Value.okWide Tryd.prog W r b0 24 v) (hh : DataW.Trod enc Tryd.prog W base spare held 24 v y p) (hw : ∀ x ∈ y.weights Tryd.prog 24, x ≤ reachBytes) :
    ∃ (n : Int) (b : Bool) (a : Option Addr) (c : Nat) (xs : List S53), v = .agg #[.int .i64 n, .bool b, .slice a xs.length c] ∧ xs.length ≤ c ∧ Kd.C k53 W a xs.length xs ∧ I64 n ∧ ∀ x ∈ xs, I64 x.f0 ∧ I64 x.f1.f0 ∧ I64 x.f1.f1 := by
  obtain ⟨cs, ⟨n, b, xs⟩, rfl, ⟨_, _, hcs, rfl, _, _, rfl, rfl, A, c, rfl, h1, h2⟩, h3, _, h4, _⟩ := opens_terms.agg Tryd.underlying24 hv hh hw
  obtain ⟨l⟩ := cs
  obtain rfl : l = _ := hcs
  exact ⟨n, b, A, c, xs, rfl, h1, h2, bounds_i64 h3, fun x hx => ⟨bounds_i64 (h4 x hx).1, bounds_i64 (h4 x hx).2.1, bounds_i64 (h4 x hx).2.2⟩⟩
end Go.Proofs.YtelfiofnhchmbaaDoor.A
