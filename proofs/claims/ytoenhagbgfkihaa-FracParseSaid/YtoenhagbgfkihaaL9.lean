/- Parsing fractions: what the program's Parse and the reference's Parse return for any string. -/
import Derived.Test.YtoenhagbgfkihaaAx4
import Derived.Test.YtoenhagbgfkihaaAx5
import Derived.Test.YtoenhagbgfkihaaL7
import Derived.Test.YtoenhagbgfkihaaL2
namespace Go.Proofs.Ytoenhagbgfkihaa.A
open Go.RowKit Go.Proofs.Ytoenhagbgfkihaa.B Go.Proofs.YtoenhagbgfkihaaW.PrintWords Go.Proofs.YtoenhagbgfkihaaW.PrintLast Go.Proofs.YtoenhagbgfkihaaW.PrintMore
set_option linter.unusedVariables false
set_option linter.unusedSimpArgs false
def oL (l : List UInt8) : ByteArray := ⟨l.toArray⟩
theorem oL_data (s : ByteArray) : oL s.data.toList = s := rfl
theorem oL_list (l : List UInt8) : (oL l).data.toList = l := rfl
theorem oL_toList (l : List UInt8) : (oL l).toList = l := by rw [ByteArray.toList_eq]; rfl
theorem oL_size (l : List UInt8) : (oL l).size = l.length := by show l.toArray.size = _; rw [List.size_toArray]
theorem oL_extract (l : List UInt8) (a b : Nat) : (oL l).extract a b = oL ((l.take b).drop a) := by
  apply ba_eq; rw [ext_list]; rfl
theorem oL_tail (l : List UInt8) (a : Nat) : (oL l).extract a (oL l).size = oL (l.drop a) := by
  rw [oL_extract, oL_size, List.take_length]
theorem oL_append (l m : List UInt8) : oL l ++ oL m = oL (l ++ m) := by
  apply ba_eq; rw [ByteArray.data_append, Array.toList_append]; rfl
theorem bt_oL (l : List UInt8) (i : Nat) : bt (oL l) (i : Int) = ((l.getD i 0).toNat : Int) := by rw [bt_eq, Int.toNat_natCast]; rfl
theorem bt_head (c : UInt8) (l : List UInt8) : bt (oL (c :: l)) 0 = (c.toNat : Int) := bt_oL (c :: l) 0
theorem isDig_range (c : UInt8) : isDig c = true ↔ (48 ≤ c.toNat ∧ c.toNat ≤ 57) := by
  rw [isDig_iff]; omega
def dsOf (l : List UInt8) : List Nat := (l.takeWhile isDig).map (fun (c : UInt8) => c.toNat - 48)
def rsOf (l : List UInt8) : List UInt8 := l.dropWhile isDig
theorem dsOf_nil : dsOf [] = [] := rfl
theorem dsOf_cons (c : UInt8) (l : List UInt8) : dsOf (c :: l) = if isDig c = true then (c.toNat - 48) :: dsOf l else [] := by
  unfold dsOf; rw [List.takeWhile_cons]; split <;> rfl
theorem rsOf_cons (c : UInt8) (l : List UInt8) : rsOf (c :: l) = if isDig c = true then rsOf l else c :: l := by
  unfold rsOf; rw [List.dropWhile_cons]
theorem dsOf_digs (l : List UInt8) : Digs (dsOf l) := by
  induction l with
  | nil => exact Digs.nil
  | cons c l ih =>
    rw [dsOf_cons]
    split
    · rename_i h; have := (isDig_range c).mp h; exact Digs.mk (by omega) ih
    · exact Digs.nil
theorem bsL_dsOf (l : List UInt8) : bsL (dsOf l) ++ rsOf l = l := by
  induction l with
  | nil => rfl
  | cons c l ih =>
    rw [dsOf_cons, rsOf_cons]
    split
    · rename_i h
      have h2 := (isDig_range c).mp h
      show UInt8.ofNat (48 + (c.toNat - 48)) :: (bsL (dsOf l) ++ rsOf l) = _
      rw [ih, show 48 + (c.toNat - 48) = c.toNat by omega, UInt8.ofNat_toNat]
    · rfl
theorem dsOf_len (l : List UInt8) : (dsOf l).length + (rsOf l).length = l.length := by
  have := congrArg List.length (bsL_dsOf l)
  rwa [List.length_append, bsL_length] at this
theorem fscan_ev (l : List UInt8) : ∀ acc : List Nat, l.length + acc.length ≤ 1000000 → Ev (fun k => frac_scan.l0 k (oL l) (im acc)) (im (acc ++ dsOf l), oL (rsOf l)) := by
  induction l with
  | nil =>
    intro acc h
    refine Ev.step (fun k => by rw [frac_scan.l0]) (Ev.yes (oL_toList []) (Ev.is ?_))
    rw [dsOf_nil, List.append_nil]; rfl
  | cons c l ih =>
    intro acc h
    rw [List.length_cons] at h
    refine Ev.step (fun k => by rw [frac_scan.l0]) (Ev.no (by rw [oL_toList]; exact List.cons_ne_nil _ _) (Ev.yes (by rw [oL_size, List.length_cons]; omega) ?_))
    rw [bt_head, dsOf_cons, rsOf_cons]
    have hr := isDig_range c
    by_cases hd : isDig c = true
    · have h2 := hr.mp hd
      rw [if_pos hd, if_pos hd]
      refine Ev.yes (by omega) (Ev.yes (by omega) (Ev.yes (by rw [im_length]; omega) (Ev.yes (by rw [oL_size, List.length_cons]; omega) ?_)))
      rw [oL_tail, List.drop_one, List.tail_cons, show ((c.toNat : Int) - 48) % 256 = ((c.toNat - 48 : Nat) : Int) by omega, show im acc ++ [((c.toNat - 48 : Nat) : Int)] = im (acc ++ [c.toNat - 48]) by rw [im_append]; rfl]
      have := ih (acc ++ [c.toNat - 48]) (by rw [List.length_append, List.length_singleton]; omega)
      rwa [List.append_assoc, List.singleton_append] at this
    · have hnd : ¬ (48 ≤ c.toNat ∧ c.toNat ≤ 57) := fun h => hd (hr.mpr h)
      rw [if_neg hd, if_neg hd, List.append_nil]
      refine Ev.both (fun h1 => Ev.no (by omega) (Ev.is rfl)) (fun h1 => Ev.is rfl)
theorem fscan (l : List UInt8) (h : l.length ≤ 1000000) : Ev (fun k => frac_scan.f k (oL l)) (im (dsOf l), oL (rsOf l)) := by
  unfold frac_scan.f
  exact fscan_ev l [] (by rw [List.length_nil]; omega)
/-- The two numbers of a notation without sign. -/
def splitM (l : List UInt8) : Option (List Nat × List Nat) :=
  if (dsOf l).length = 0 ∨ (1 < (dsOf l).length ∧ (dsOf l).getD 0 0 = 0) then none else
  match rsOf l with
  | [] => some (dsOf l, [1])
  | c :: r => if (dsOf r).length = 0 ∨ rsOf r ≠ [] then none else
    if c = 47 then (if (dsOf r).getD 0 0 = 0 then none else some (dsOf l, dsOf r)) else
    if c = 46 then (if (dsOf r).length ≤ 6 then some (dsOf l ++ dsOf r, 1 :: List.replicate (dsOf r).length 0) else none) else none
theorem u8_eq (c : UInt8) (n : Nat) (hn : n < 256) : ((c.toNat : Int) = (n : Int)) ↔ c = UInt8.ofNat n := by
  constructor
  · intro h
    have : c.toNat = n := by omega
    rw [← this, UInt8.ofNat_toNat]
  · intro h; rw [h, UInt8.toNat_ofNat', Nat.mod_eq_of_lt hn]
def SplitF (l : List UInt8) (r : List Int × List Int × Bool) : Prop := match splitM l with | none => r.2.2 = false | some (a, b) => r = (im a, im b, true)
theorem fsplit_zeros (a : List Nat) (m : List Nat) (ha : a.length + m.length ≤ 1000000) (d : Nat) : ∀ (i : Nat), i + d = m.length →
    Ev (fun k => frac_split.l0 k (im a) (im (1 :: List.replicate i 0)) (im m) (m.length : Int) (i : Int)) (im (a ++ m), im (1 :: List.replicate m.length 0), decide ((m.length : Int) ≤ 6)) := by
  induction d with
  | zero =>
    intro i hi
    obtain rfl : i = m.length := by omega
    refine Ev.step (fun k => by rw [frac_split.l0]) (Ev.no (by omega) (Ev.yes (by rw [im_length, im_length]; omega) (Ev.is ?_)))
    rw [im_append, im_length]
  | succ d ih =>
    intro i hi
    refine Ev.step (fun k => by rw [frac_split.l0]) (Ev.yes (by omega) (Ev.yes (by rw [im_length, List.length_cons, List.length_replicate]; omega) ?_))
    rw [w_next i (by omega), show im (1 :: List.replicate i 0) ++ [(0 : Int)] = im (1 :: List.replicate (i + 1) 0) by
      rw [List.replicate_succ', ← List.cons_append, im_append]; rfl]
    exact ih (i + 1) (by omega)
theorem fsplit (l : List UInt8) (hl : l.length ≤ 1000) : ∃ r, Ev (fun k => frac_split.f k (oL l)) r ∧ SplitF l r := by
  have hlen := dsOf_len l
  have no : ∀ b : Bool, b = true → Ev (fun k => frac_split.j0 k (im (dsOf l)) (oL (rsOf l)) b) ([], [], false) := fun b hb => Ev.step (fun k => by rw [frac_split.j0]) (Ev.yes hb (Ev.is rfl))
  by_cases h0 : (dsOf l).length = 0 ∨ (1 < (dsOf l).length ∧ (dsOf l).getD 0 0 = 0)
  · refine ⟨([], [], false), ?_, by unfold SplitF splitM; rw [if_pos h0]⟩
    unfold frac_split.f
    refine Ev.bind (fscan l (by omega)) ?_
    dsimp only
    rw [im_length]
    refine Ev.both (fun h => no true rfl) (fun h => Ev.yes (by omega) (Ev.yes (by omega) (no _ ?_)))
    have e : rd (im (dsOf l)) 0 = (((dsOf l).getD 0 0 : Nat) : Int) := rd_im _ 0
    rw [e, beq_iff_eq]; omega
  have st : ∀ r, Ev (fun k => frac_split.j0 k (im (dsOf l)) (oL (rsOf l)) false) r → Ev (fun k => frac_split.f k (oL l)) r := by
    intro r hr
    unfold frac_split.f
    refine Ev.bind (fscan l (by omega)) ?_
    dsimp only
    rw [im_length]
    refine Ev.no (by omega) (Ev.both (fun h => Ev.yes (by omega) ?_) (fun h => hr))
    have e : rd (im (dsOf l)) 0 = (((dsOf l).getD 0 0 : Nat) : Int) := rd_im _ 0
    rw [e, show ((((dsOf l).getD 0 0 : Nat) : Int) == 0) = false from beq_eq_false_iff_ne.mpr (by omega)]
    exact hr
  cases hrs : rsOf l with
  | nil =>
    refine ⟨(im (dsOf l), im [1], true), st _ ?_, by unfold SplitF splitM; rw [if_neg h0, hrs]⟩
    rw [hrs]
    refine Ev.step (fun k => by rw [frac_split.j0]) ?_
    exact Ev.no (by decide) (Ev.yes (oL_toList []) (Ev.is rfl))
  | cons c r =>
    rw [hrs, List.length_cons] at hlen
    have hlr := dsOf_len r
    have st2 : ∀ x, Ev (fun k => frac_split.j1 k (im (dsOf l)) (oL (c :: r)) (im (dsOf r)) (decide ((dsOf r).length = 0 ∨ rsOf r ≠ []))) x → Ev (fun k => frac_split.j0 k (im (dsOf l)) (oL (c :: r)) false) x := by
      intro x hx
      refine Ev.step (fun k => by rw [frac_split.j0]) (Ev.no (by decide) (Ev.no (by rw [oL_toList]; exact List.cons_ne_nil _ _) (Ev.yes (by rw [oL_size, List.length_cons]; omega) ?_)))
      rw [oL_tail, List.drop_one, List.tail_cons]
      refine Ev.bind (fscan r (by omega)) ?_
      dsimp only
      rw [im_length]
      refine Ev.both (fun h => ?_) (fun h => ?_)
      · rwa [decide_eq_true (show (dsOf r).length = 0 ∨ rsOf r ≠ [] from .inl (by omega))] at hx
      · rw [oL_toList]
        have : (rsOf r != []) = decide ((dsOf r).length = 0 ∨ rsOf r ≠ []) := by
          rw [Bool.eq_iff_iff, bne_iff_ne, decide_eq_true_iff]
          exact ⟨.inr, fun h2 => h2.resolve_left (by omega)⟩
        rwa [this]
    by_cases h1 : (dsOf r).length = 0 ∨ rsOf r ≠ []
    · refine ⟨([], [], false), st _ ?_, by unfold SplitF splitM; rw [if_neg h0, hrs]; dsimp only; rw [if_pos h1]⟩
      rw [hrs]
      refine st2 _ ?_
      rw [decide_eq_true h1]
      exact Ev.step (fun k => by rw [frac_split.j1]) (Ev.yes rfl (Ev.is rfl))
    have st3 : ∀ x, Ev (fun k => if (c.toNat : Int) = 47 then (if 0 < ((im (dsOf r)).length : Int) then (some (im (dsOf l), im (dsOf r), ((rd (im (dsOf r)) 0) != 0))) else (none)) else (if (c.toNat : Int) = 46 then (frac_split.l0 k (im (dsOf l)) (([1] : List Int)) (im (dsOf r)) ((im (dsOf r)).length : Int) 0) else (some (([] : List Int), ([] : List Int), false)))) x → Ev (fun k => frac_split.f k (oL l)) x := by
      intro x hx
      refine st _ ?_
      rw [hrs]
      refine st2 _ ?_
      rw [decide_eq_false h1]
      refine Ev.step (fun k => by rw [frac_split.j1]) (Ev.no (by decide) (Ev.yes (by rw [oL_size, List.length_cons]; omega) ?_))
      rw [bt_head]
      exact hx
    have e0 : rd (im (dsOf r)) 0 = (((dsOf r).getD 0 0 : Nat) : Int) := rd_im _ 0
    have hc47 := u8_eq c 47 (by decide)
    have hc46 := u8_eq c 46 (by decide)
    by_cases h47 : c = 47
    · by_cases hz : (dsOf r).getD 0 0 = 0
      · refine ⟨(im (dsOf l), im (dsOf r), false), st3 _ (Ev.yes (hc47.mpr h47) (Ev.yes (by rw [im_length]; omega) (Ev.is ?_))), by unfold SplitF splitM; rw [if_neg h0, hrs]; dsimp only; rw [if_neg h1, if_pos h47, if_pos hz]⟩
        rw [e0, hz]; rfl
      · refine ⟨(im (dsOf l), im (dsOf r), true), st3 _ (Ev.yes (hc47.mpr h47) (Ev.yes (by rw [im_length]; omega) (Ev.is ?_))), by unfold SplitF splitM; rw [if_neg h0, hrs]; dsimp only; rw [if_neg h1, if_pos h47, if_neg hz]⟩
        rw [e0, show ((((dsOf r).getD 0 0 : Nat) : Int) != 0) = true from bne_iff_ne.mpr (by omega)]
    by_cases h46 : c = 46
    · refine ⟨_, st3 _ (Ev.no (fun h => h47 (hc47.mp h)) (Ev.yes (hc46.mpr h46) (by rw [im_length]; exact fsplit_zeros (dsOf l) (dsOf r) (by omega) _ 0 (Nat.zero_add _)))), ?_⟩
      unfold SplitF splitM
      rw [if_neg h0, hrs]
      dsimp only
      rw [if_neg h1, if_neg h47, if_pos h46]
      by_cases h6 : (dsOf r).length ≤ 6
      · rw [if_pos h6]; dsimp only; rw [decide_eq_true (by omega)]
      · rw [if_neg h6]; dsimp only; rw [decide_eq_false (by omega)]
    · refine ⟨([], [], false), st3 _ (Ev.no (fun h => h47 (hc47.mp h)) (Ev.no (fun h => h46 (hc46.mp h)) (Ev.is rfl))), by unfold SplitF splitM; rw [if_neg h0, hrs]; dsimp only; rw [if_neg h1, if_neg h47, if_neg h46]⟩
theorem nv_zeros (n : Nat) : nv (1 :: List.replicate n 0) = 10 ^ n ∧ Digs (1 :: List.replicate n 0) ∧ Trim (1 :: List.replicate n 0) := by
  refine ⟨?_, Digs.mk (by decide) (Digs.replicate n), fun x l' h => by rw [← (List.cons.inj h).1]; decide⟩
  rw [nv_cons, List.length_replicate, Nat.one_mul]
  have : nv (List.replicate n 0) = 0 := by
    induction n with
    | zero => rfl
    | succ n ih => rw [List.replicate_succ, nv_cons, Nat.zero_mul, Nat.zero_add, ih]
  rw [this, Nat.add_zero]
end Go.Proofs.Ytoenhagbgfkihaa.A
