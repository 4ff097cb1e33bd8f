-- By gen.py, a program of this session's, over the print's forms: not the print's own text.
import Derived.Test.YthmpapnhomngnaaDoorWWords
import Derived.Test.YthmpapnhomngnaaDoorB0
import Derived.Deep.Slices
import Derived.Lib.SmallJoins
import Derived.KernelRfl
import Derived.SizedLaws
namespace Go.Proofs.YthmpapnhomngnaaDoor.B
open Go.Deep Go.ChangeShapes Go.WideShapes Go.ChangeAt Go.Joins Go.Proofs.YthmpapnhomngnaaDoorW.PrintWords
theorem weights_mem_all {H : Type} {P : Program} {e : TypeId} {l : List (DataW H)} {d : DataW H} (h : d ∈ l) {x : Nat} (hx : x ∈ d.weights P e) : x ∈ DataW.weightsAll P e l := by
  induction l with
  | nil => cases h
  | cons a l ih =>
    rw [DataW.weightsAll]
    rcases List.mem_cons.mp h with rfl | h
    · exact List.mem_append_left _ hx
    · exact List.mem_append_right _ (ih h)
/-- What the reading of an argument weighs. -/
theorem arg_weights {H : Type} {P : Program} {ts : List TypeId} {ds : List (DataW H)} {j : Nat} {t : TypeId} {d : DataW H} (hsz : (DataW.weightsEach P ts ds).all (· ≤ reachBytes) = true) (ht : ts[j]? = some t) (hd : ds[j]? = some d) : ∀ x ∈ d.weights P t, x ≤ reachBytes :=
  fun x hx => by simpa using List.all_eq_true.1 hsz x (DataW.weights_mem_each ht hd x hx)
/-- Memory that can be read as data of a type, read as the kind d: G tells what the data's form gives (ranges, lengths). -/
structure Opens {α : Type} (P : Program) (t : TypeId) (d : Kd α) (G : α → Prop) : Prop where
  size : P.cellsOf t = d.sz
  get : ∀ {H : Type} {enc : TypeId × Value → H} {W : World} {base : Nat} {spare : Nat → Bool} {held : Bool} {n : Nat} {cs : List Value} {y : DataW H × List MemPlace}, DataW.trod enc P W base spare held n t cs = some y → (∀ x ∈ y.1.weights P t, x ≤ reachBytes) → ∃ a, d.K W a cs ∧ G a
theorem Opens.int {P : Program} {t : TypeId} {k : IntKind} (ht : P.underlying t = some (.int k)) (hc : P.cellsOf t = 1) : Opens P t (Kd.int k) (fun x => (Lit.int k x).wf = true) where
  size := hc
  get h _ := by
    obtain ⟨x, rfl, _, hw⟩ := DataW.trod_int ht h
    exact ⟨x, rfl, hw⟩
theorem Opens.bool {P : Program} {t : TypeId} (ht : P.underlying t = some .bool) (hc : P.cellsOf t = 1) : Opens P t Kd.bool (fun _ => True) where
  size := hc
  get h _ := by
    obtain ⟨x, rfl, _⟩ := DataW.trod_bool ht h
    exact ⟨x, rfl, trivial⟩
theorem Opens.string {P : Program} {t : TypeId} (ht : P.underlying t = some .string) (hc : P.cellsOf t = 1) : Opens P t Kd.string (fun s => s.size ≤ 140737488351232) where
  size := hc
  get h hw := by
    obtain ⟨x, rfl, rfl, _⟩ := DataW.trod_string ht h
    refine ⟨x, rfl, ?_⟩
    have := hw x.data.toList.length (by simp [DataW.weights])
    rw [data_length] at this
    exact this
theorem Opens.iso {α β : Type} {P : Program} {t : TypeId} {d : Kd α} {G : α → Prop} {G' : β → Prop} (h : Opens P t d G) (f : β → α) (g : α → β) (hfg : ∀ a, f (g a) = a) (hG : ∀ a, G a → G' (g a)) : Opens P t (Kd.iso d f) G' where
  size := h.size
  get hh hw := by
    obtain ⟨a, ha, hg⟩ := h.get hh hw
    refine ⟨g a, ?_, hG a hg⟩
    show d.K _ (f (g a)) _
    rw [hfg]; exact ha
/-- Fields one behind the other, from cell o on. -/
structure OpensF {α : Type} (P : Program) (fs : List Field) (o : Nat) (d : Kd α) (G : α → Prop) : Prop where
  get : ∀ {H : Type} {enc : TypeId × Value → H} {W : World} {base : Nat} {spare : Nat → Bool} {held : Bool} {n : Nat} {cs : List Value}, o + d.sz ≤ cs.length → (∀ f ∈ fs, ∃ y, DataW.trod enc P W base spare held n f.type ((cs.drop f.offset).take (P.cellsOf f.type)) = some y ∧ ∀ x ∈ y.1.weights P f.type, x ≤ reachBytes) →
    ∃ a, d.K W a ((cs.drop o).take d.sz) ∧ G a
theorem OpensF.one {α : Type} {P : Program} {f : Field} {o : Nat} {d : Kd α} {G : α → Prop} (h : Opens P f.type d G) (ho : f.offset = o) : OpensF P [f] o d G where
  get _ hf := by
    obtain ⟨y, hy, hw⟩ := hf f (List.mem_singleton.mpr rfl)
    rw [ho, h.size] at hy
    exact h.get hy hw
theorem OpensF.cons {α β : Type} {P : Program} {f : Field} {fs : List Field} {o o' : Nat} {d : Kd α} {e : Kd β} {G : α → Prop} {G' : β → Prop} (h : Opens P f.type d G) (ho : f.offset = o) (h' : OpensF P fs o' e G') (ho' : o' = o + d.sz) :
    OpensF P (f :: fs) o (Kd.pair d e) (fun x => G x.1 ∧ G' x.2) where
  get := by
    intro H enc W base spare held n cs hl hf
    have hsz : (Kd.pair d e).sz = d.sz + e.sz := rfl
    rw [hsz] at hl ⊢
    obtain ⟨y, hy, hw⟩ := hf f (List.mem_cons_self ..)
    rw [ho, h.size] at hy
    obtain ⟨a, ha, hg⟩ := h.get hy hw
    obtain ⟨b, hb, hg'⟩ := h'.get (by omega) (fun f' hf' => hf f' (List.mem_cons_of_mem _ hf'))
    refine ⟨(a, b), ⟨_, _, ?_, ha, hb⟩, hg, hg'⟩
    rw [ho', ← List.drop_drop, List.take_add]
theorem Opens.struct {α : Type} {P : Program} {t : TypeId} {fs : Array Field} {d : Kd α} {G : α → Prop} (ht : P.underlying t = some (.struct fs)) (hc : P.cellsOf t = d.sz) (h : OpensF P fs.toList 0 d G) : Opens P t d G where
  size := hc
  get := by
    intro H enc W base spare held n cs y hh hw
    obtain ⟨xs, n, _, rfl, hl, hlen, hf⟩ := DataW.trod_struct ht hh
    rw [hc] at hl
    have hw' : ∀ x ∈ DataW.weightsEach P (fs.toList.map (·.type)) (xs.map (·.1)), x ≤ reachBytes := by
      intro x hx
      refine hw x ?_
      show x ∈ DataW.weights P t (.agg (xs.map (·.1)))
      rw [DataW.weights, ht]; exact hx
    obtain ⟨a, ha, hg⟩ := h.get (cs := cs) (by omega) (fun f hm => by
      obtain ⟨i, hi, rfl⟩ := List.getElem_of_mem hm
      have hi' : i < fs.size := by simpa using hi
      have := hf i fs[i] (Array.getElem?_eq_getElem hi')
      rw [Array.getElem_toList]
      have hx9 : xs[i]? = some xs[i] := List.getElem?_eq_getElem (by omega)
      refine ⟨_, this.trans hx9, fun x hx => hw' x (DataW.weights_mem_each (j := i) (t := fs[i].type) (d := xs[i].1) ?_ ?_ x hx)⟩
      · rw [List.getElem?_map, List.getElem?_eq_getElem hi, Array.getElem_toList]; rfl
      · rw [List.getElem?_map, hx9]; rfl)
    rw [List.drop_zero, ← hl, List.take_length] at ha
    exact ⟨a, ha, hg⟩
theorem Opens.slice {α : Type} {P : Program} {t e : TypeId} {d : Kd α} {G : α → Prop} (ht : P.underlying t = some (.slice e)) (hc : P.cellsOf t = 1) (h : Opens P e d G) : Opens P t (Kd.slice e d) (fun xs => (∀ x ∈ xs, G x) ∧ xs.length ≤ maxLen ∧ xs.length * P.bytesOf e ≤ 140737488351232) where
  size := hc
  get := by
    intro H enc W base spare held n cs y hh hw
    rcases open_slice ht hh with ⟨rfl, _⟩ | ⟨a, len, cap, m, n', D, Pl, rfl, _, hlc, hcm, hm, rfl, hel⟩
    · exact ⟨[], ⟨none, 0, rfl, Nat.le_refl _, rfl, Nat.zero_le _, fun h => absurd h (Nat.lt_irrefl _)⟩, ⟨fun x hx => (by cases hx), Nat.zero_le _, by simp⟩⟩
    · have hml : len ≤ m := by rw [hm]; split <;> omega
      have hw1 : ∀ i, i < len → ∀ x ∈ (D i).weights P e, x ≤ reachBytes := by
        intro i hi x hx
        refine hw x ?_
        show x ∈ DataW.weights P t (.slice ((List.range len).map D) _)
        rw [DataW.weights, ht]
        refine List.mem_cons_of_mem _ (List.mem_append_left _ ?_)
        exact weights_mem_all (List.mem_map.mpr ⟨i, List.mem_range.mpr hi, rfl⟩) hx
      have hw2 : len * P.bytesOf e ≤ 140737488351232 := by
        have := hw ((((List.range len).map D).length + ((List.range (m - len)).map fun j => D (len + j)).length) * P.bytesOf e) (by
          show _ ∈ DataW.weights P t (.slice ((List.range len).map D) _)
          rw [DataW.weights, ht]; exact List.mem_cons_self ..)
        rw [List.length_map, List.length_range] at this
        exact Nat.le_trans (Nat.mul_le_mul_right _ (Nat.le_add_right _ _)) this
      have key : ∀ i, i < len → ∃ x : α, ∃ cs', W.cells? base (a.add (i * d.sz)) d.sz = some cs' ∧ d.K W x cs' ∧ G x := by
        intro i hi
        obtain ⟨cs', h1, h2⟩ := hel i (by omega)
        obtain ⟨x, hx, hg⟩ := h.get h2 (hw1 i hi)
        rw [h.size] at h1
        exact ⟨x, cs', h1, hx, hg⟩
      have build : ∀ k, k ≤ len → ∃ xs : List α, xs.length = k ∧ ∀ j x, xs[j]? = some x → ∃ cs', W.cells? base (a.add (j * d.sz)) d.sz = some cs' ∧ d.K W x cs' ∧ G x := by
        intro k
        induction k with
        | zero => intro _; exact ⟨[], rfl, fun j x hj => by simp at hj⟩
        | succ k ih =>
          intro hk
          obtain ⟨xs, hxs, hget⟩ := ih (by omega)
          obtain ⟨x, hx⟩ := key k (by omega)
          refine ⟨xs ++ [x], by rw [List.length_append, hxs]; rfl, fun j z hj => ?_⟩
          by_cases hjk : j < k
          · rw [List.getElem?_append_left (by omega)] at hj; exact hget j z hj
          · rw [List.getElem?_append_right (by omega)] at hj
            obtain rfl : j = k := by
              have := (List.getElem?_eq_some_iff.mp hj).1
              rw [List.length_singleton] at this; omega
            rw [hxs, Nat.sub_self] at hj
            obtain rfl : x = z := Option.some.inj hj
            exact hx
      obtain ⟨xs, hxs, hget⟩ := build len (Nat.le_refl _)
      unfold maxLen at hcm
      refine ⟨xs, ⟨some a, cap, by rw [hxs], by omega, rfl, by omega, fun _ => ⟨a, rfl, fun j x hj => ?_⟩⟩, ⟨fun x hx => ?_, by unfold maxLen; omega, by rw [hxs]; exact hw2⟩⟩
      · obtain ⟨cs', h1, h2, _⟩ := hget j x hj
        refine ⟨cs', d.K_len h2, h2, fun i u hu => ?_⟩
        obtain ⟨_, h4, h3⟩ := World.cells?_some h1
        have hi := (List.getElem?_eq_some_iff.mp hu).1
        have h5 := h3 i (by omega)
        rw [← hu, ← h5, Deep.add_add]
      · obtain ⟨j, hj⟩ := List.getElem?_of_mem hx
        obtain ⟨_, _, _, hg⟩ := hget j x hj
        exact hg
/-- An argument that is a slice. -/
theorem Opens.arg {α : Type} {P : Program} {t e : TypeId} {d : Kd α} {G : List α → Prop} (h : Opens P t (Kd.slice e d) G) (ht : P.underlying t = some (.slice e)) {H : Type} {enc : TypeId × Value → H} {W : World} {base b0 : Nat} {spare : Nat → Bool} {held : Bool} {r : Reach} {v : Value} {y : DataW H} {p : List MemPlace}
    (hv : Value.okWide P W r b0 t v) (hh : DataW.Trod enc P W base spare held t v y p) (hw : ∀ x ∈ y.weights P t, x ≤ reachBytes) : ∃ (A : Option Addr) (c : Nat) (xs : List α), v = .slice A xs.length c ∧ xs.length ≤ c ∧ Kd.C d W A xs.length xs ∧ G xs := by
  obtain ⟨a, len, cap, rfl⟩ := okWide_slice ht hv
  obtain ⟨n, hn⟩ := hh
  obtain ⟨xs, ⟨A, c, he, hl, hC⟩, hG⟩ := h.get hn hw
  have he' : Value.slice a len cap = .slice A xs.length c := by
    have h2 : (Value.slice a len cap).cells.toList = [.slice a len cap] := rfl
    rw [h2] at he
    exact List.head_eq_of_cons_eq he
  exact ⟨A, c, xs, he', hl, hC, hG⟩
/-- An argument that is a struct by value. -/
theorem Opens.agg {α : Type} {P : Program} {t : TypeId} {fs : Array Field} {d : Kd α} {G : α → Prop} (h : Opens P t d G) (ht : P.underlying t = some (.struct fs)) {H : Type} {enc : TypeId × Value → H} {W : World} {base b0 : Nat} {spare : Nat → Bool} {held : Bool} {r : Reach} {v : Value} {y : DataW H} {p : List MemPlace}
    (hv : Value.okWide P W r b0 t v) (hh : DataW.Trod enc P W base spare held t v y p) (hw : ∀ x ∈ y.weights P t, x ≤ reachBytes) : ∃ (cs : Array Value) (a : α), v = .agg cs ∧ d.K W a cs.toList ∧ G a := by
  obtain ⟨cs, rfl, _⟩ := okWide_struct ht hv
  obtain ⟨n, hn⟩ := hh
  obtain ⟨a, ha, hg⟩ := h.get hn hw
  exact ⟨cs, a, rfl, ha, hg⟩
end Go.Proofs.YthmpapnhomngnaaDoor.B
