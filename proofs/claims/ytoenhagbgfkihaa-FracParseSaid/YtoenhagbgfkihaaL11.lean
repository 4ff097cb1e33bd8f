/- Parsing fractions: the reference's split. -/
import Derived.Test.YtoenhagbgfkihaaAx14
import Derived.Test.YtoenhagbgfkihaaL8
import Derived.Test.YtoenhagbgfkihaaL9
import Derived.Test.YtoenhagbgfkihaaL2
namespace Go.Proofs.Ytoenhagbgfkihaa.A
open Go.RowKit Go.Proofs.Ytoenhagbgfkihaa.B Go.Proofs.YtoenhagbgfkihaaW.PrintWords Go.Proofs.YtoenhagbgfkihaaW.PrintLast Go.Proofs.YtoenhagbgfkihaaW.PrintMore
set_option linter.unusedVariables false
set_option linter.unusedSimpArgs false
theorem rdigits_l0 (l : List UInt8) (hl : l.length ≤ 1000000) (r : List UInt8) : ∀ i : Nat, l = (l.take i) ++ r → i ≤ l.length → Ev (fun k => accountingref03_digits.l0 k (oL l) (i : Int)) (((i + (dsOf r).length : Nat)) : Int) := by
  induction r with
  | nil =>
    intro i h hi
    have : i = l.length := by have := congrArg List.length h; rw [List.length_append, List.length_take, List.length_nil] at this; omega
    refine Ev.step (fun k => by rw [accountingref03_digits.l0]) ?_
    exact Ev.no (by rw [oL_size]; omega) (Ev.is rfl)
  | cons c r ih =>
    intro i h hi
    have hlen := congrArg List.length h
    rw [List.length_append, List.length_take, List.length_cons] at hlen
    have hil : i < l.length := by omega
    have hg : l.getD i 0 = c := by
      rw [List.getD_eq_getElem?_getD]
      conv => lhs; rw [h]
      rw [List.getElem?_append_right (by rw [List.length_take]; omega), List.length_take, show i - min i l.length = 0 by omega]; rfl
    refine Ev.step (fun k => by rw [accountingref03_digits.l0]) (Ev.yes (by rw [oL_size]; omega) (Ev.yes (by omega) ?_))
    rw [bt_oL, hg, dsOf_cons]
    have hr := isDig_range c
    by_cases hd : isDig c = true
    · have h2 := hr.mp hd
      rw [if_pos hd]
      refine Ev.yes (by omega) (Ev.yes (by omega) ?_)
      rw [w_next i (by omega)]
      have e : l = l.take (i + 1) ++ r := by
        conv => lhs; rw [h]
        rw [List.take_succ_eq_append_getElem hil, List.append_assoc, List.singleton_append]
        congr 2
        rw [List.getD_eq_getElem?_getD, List.getElem?_eq_getElem hil] at hg
        exact hg.symm
      have := ih (i + 1) e (by omega)
      rw [List.length_cons, show i + ((dsOf r).length + 1) = i + 1 + (dsOf r).length by omega]
      exact this
    · have hnd : ¬ (48 ≤ c.toNat ∧ c.toNat ≤ 57) := fun h => hd (hr.mpr h)
      rw [if_neg hd, List.length_nil, Nat.add_zero]
      refine Ev.both (fun h1 => Ev.no (by omega) (Ev.is rfl)) (fun h1 => Ev.is rfl)
theorem rdigits (l : List UInt8) (hl : l.length ≤ 1000000) : Ev (fun k => accountingref03_digits.f k (oL l)) (((dsOf l).length : Nat) : Int) := by
  unfold accountingref03_digits.f
  have := rdigits_l0 l hl l 0 (by rw [List.take_zero, List.nil_append]) (by omega)
  rwa [Nat.zero_add] at this
def SplitR (l : List UInt8) (r : ByteArray × ByteArray × Bool) : Prop := match splitM l with | none => r.2.2 = false | some (a, b) => r = (bs (tr a), bs (dg (nv b)), true)
theorem take_ds (l : List UInt8) : l.take (dsOf l).length = bsL (dsOf l) := by
  have h : (bsL (dsOf l) ++ rsOf l).take (dsOf l).length = bsL (dsOf l) := by
    rw [List.take_append_of_le_length (by rw [bsL_length]; exact Nat.le_refl _), List.take_of_length_le (by rw [bsL_length]; exact Nat.le_refl _)]
  rwa [bsL_dsOf] at h
theorem drop_ds (l : List UInt8) : l.drop (dsOf l).length = rsOf l := by
  have h : (bsL (dsOf l) ++ rsOf l).drop (dsOf l).length = rsOf l := by
    rw [List.drop_append_of_le_length (by rw [bsL_length]; exact Nat.le_refl _), List.drop_eq_nil_of_le (by rw [bsL_length]; exact Nat.le_refl _), List.nil_append]
  rwa [bsL_dsOf] at h
theorem head_dig (l : List UInt8) (h : (dsOf l).length ≠ 0) : (((l.getD 0 0).toNat : Nat) : Int) = ((48 + (dsOf l).getD 0 0 : Nat) : Int) := by
  cases l with
  | nil => exact absurd rfl h
  | cons c l =>
    rw [dsOf_cons] at h ⊢
    split at h
    · rename_i hd
      rw [if_pos hd]
      have := (isDig_range c).mp hd
      show ((c.toNat : Nat) : Int) = ((48 + (c.toNat - 48) : Nat) : Int)
      omega
    · exact absurd rfl h
theorem rs_nil {l : List UInt8} (h : rsOf l = []) : oL l = bs (dsOf l) := by
  have := bsL_dsOf l
  rw [h, List.append_nil] at this
  show (⟨l.toArray⟩ : ByteArray) = _
  conv => lhs; rw [← this]
  rfl
theorem zeros_fin : ∀ n : Fin 7, (⟨#[49, 48, 48, 48, 48, 48, 48]⟩ : ByteArray).extract 0 (1 + min n.val 6) = bs (1 :: List.replicate n.val 0) := by decide +kernel
theorem rsplit (l : List UInt8) (hl : l.length ≤ 1000) : ∃ r, Ev (fun k => accountingref03_split.f k (oL l)) r ∧ SplitR l r := by
  have hlen := dsOf_len l
  have hh := head_dig l
  have st : ∀ r, Ev (fun k => if (((dsOf l).length : Nat) : Int) = 0 then some ((⟨#[]⟩ : ByteArray), (⟨#[]⟩ : ByteArray), false) else if 1 < (((dsOf l).length : Nat) : Int) ∧ bt (oL l) 0 = 48 then some (⟨#[]⟩, ⟨#[]⟩, false) else
      if (((dsOf l).length : Nat) : Int) = ((oL l).size : Int) then (accountingref03_trim.f k (oL l)).bind fun t => some (t, ⟨#[49]⟩, true) else accountingref03_split.g k (oL l) ((oL l).extract ((dsOf l).length + 1) (oL l).size) (dsOf l).length) r → Ev (fun k => accountingref03_split.f k (oL l)) r := by
    intro r hr
    unfold accountingref03_split.f
    refine Ev.yes (by rw [oL_size]; omega) (Ev.bind (rdigits l (by omega)) ?_)
    rw [Int.toNat_natCast]
    exact Ev.yes ⟨by omega, by rw [oL_size]; omega⟩ hr
  have hb0 : bt (oL l) 0 = (((l.getD 0 0).toNat : Nat) : Int) := bt_oL l 0
  by_cases h0 : (dsOf l).length = 0 ∨ (1 < (dsOf l).length ∧ (dsOf l).getD 0 0 = 0)
  · refine ⟨(⟨#[]⟩, ⟨#[]⟩, false), st _ ?_, by unfold SplitR splitM; rw [if_pos h0]⟩
    refine Ev.both (fun h => Ev.is rfl) (fun h => Ev.yes ⟨by omega, ?_⟩ (Ev.is rfl))
    have := hh (by omega)
    rw [hb0]; omega
  have st1 : ∀ r, Ev (fun k => if (((dsOf l).length : Nat) : Int) = ((oL l).size : Int) then (accountingref03_trim.f k (oL l)).bind fun t => some (t, ⟨#[49]⟩, true) else accountingref03_split.g k (oL l) ((oL l).extract ((dsOf l).length + 1) (oL l).size) (dsOf l).length) r → Ev (fun k => accountingref03_split.f k (oL l)) r := by
    intro r hr
    refine st r (Ev.no (by omega) (Ev.no ?_ hr))
    rintro ⟨h1, h2⟩
    have := hh (by omega)
    rw [hb0] at h2; omega
  cases hrs : rsOf l with
  | nil =>
    rw [hrs, List.length_nil] at hlen
    refine ⟨(bs (tr (dsOf l)), bs (dg (nv [1])), true), st1 _ (Ev.yes (by rw [oL_size]; omega) ?_), by unfold SplitR splitM; rw [if_neg h0, hrs]⟩
    rw [rs_nil hrs]
    refine Ev.bind (rtrim_ev _ (dsOf_digs l)) (Ev.is ?_)
    rw [← trim_eq_dg (l := [1]) (Digs.mk (by decide) Digs.nil) (fun x l' h => by rw [← (List.cons.inj h).1]; decide)]
    rfl
  | cons c r =>
    rw [hrs, List.length_cons] at hlen
    have hlr := dsOf_len r
    have hdr : l.drop ((dsOf l).length + 1) = r := by
      rw [← List.drop_drop, drop_ds, hrs]; rfl
    have hck : l.getD (dsOf l).length 0 = c := by
      have h2 : (l.drop (dsOf l).length)[0]? = some c := by rw [drop_ds, hrs]; rfl
      rw [List.getElem?_drop, Nat.add_zero] at h2
      rw [List.getD_eq_getElem?_getD, h2]; rfl
    have hbc : bt (oL l) (((dsOf l).length : Nat) : Int) = (c.toNat : Int) := by rw [bt_oL, hck]
    have hex : (oL l).extract 0 (dsOf l).length = bs (dsOf l) := by
      rw [oL_extract, List.drop_zero, take_ds]; rfl
    have st2 : ∀ x, Ev (fun k => if (oL r).size = 0 then some ((⟨#[]⟩ : ByteArray), (⟨#[]⟩ : ByteArray), false) else if (((dsOf r).length : Nat) : Int) < ((oL r).size : Int) then some (⟨#[]⟩, ⟨#[]⟩, false) else
        if (c.toNat : Int) = 47 then (accountingref03_trim.f k (bs (dsOf l))).bind fun t => some (t, oL r, bt (oL r) 0 != 48) else
        (accountingref03_trim.f k (bs (dsOf l) ++ oL r)).bind fun t => some (t, (⟨#[49, 48, 48, 48, 48, 48, 48]⟩ : ByteArray).extract 0 (1 + min (oL r).size 6), ((c.toNat : Int) == 46) && decide (((oL r).size : Int) ≤ 6))) x → Ev (fun k => accountingref03_split.f k (oL l)) x := by
      intro x hx
      refine st1 x (Ev.no (by rw [oL_size]; omega) ?_)
      rw [oL_tail, hdr]
      unfold accountingref03_split.g
      rw [hbc, hex]
      by_cases hr0 : (oL r).size = 0
      · simp only [if_pos hr0] at hx ⊢
        exact hx
      · simp only [if_neg hr0] at hx ⊢
        exact Ev.bind (rdigits r (by omega)) hx
    by_cases h1 : (dsOf r).length = 0 ∨ rsOf r ≠ []
    · refine ⟨(⟨#[]⟩, ⟨#[]⟩, false), st2 _ ?_, by unfold SplitR splitM; rw [if_neg h0, hrs]; dsimp only; rw [if_pos h1]⟩
      refine Ev.both (fun h => Ev.is rfl) (fun h => Ev.yes ?_ (Ev.is rfl))
      rw [oL_size] at h ⊢
      rcases h1 with h1 | h1
      · omega
      · have : (rsOf r).length ≠ 0 := fun h2 => h1 (List.eq_nil_of_length_eq_zero h2)
        omega
    have hrr : rsOf r = [] := Classical.byContradiction fun h => h1 (.inr h)
    have hrl : (dsOf r).length ≠ 0 := fun h => h1 (.inl h)
    have hor := rs_nil hrr
    rw [hrr, List.length_nil] at hlr
    have hbr : bt (oL r) 0 = ((48 + (dsOf r).getD 0 0 : Nat) : Int) := (bt_oL r 0).trans (head_dig r hrl)
    have st3 : ∀ x, Ev (fun k => if (c.toNat : Int) = 47 then (accountingref03_trim.f k (bs (dsOf l))).bind fun t => some (t, oL r, bt (oL r) 0 != 48) else
        (accountingref03_trim.f k (bs (dsOf l) ++ oL r)).bind fun t => some (t, (⟨#[49, 48, 48, 48, 48, 48, 48]⟩ : ByteArray).extract 0 (1 + min (oL r).size 6), ((c.toNat : Int) == 46) && decide (((oL r).size : Int) ≤ 6))) x → Ev (fun k => accountingref03_split.f k (oL l)) x := by
      intro x hx
      refine st2 x (Ev.no (by rw [oL_size]; omega) (Ev.no (by rw [oL_size]; omega) hx))
    have hc47 := u8_eq c 47 (by decide)
    have hc46 := u8_eq c 46 (by decide)
    by_cases h47 : c = 47
    · by_cases hz : (dsOf r).getD 0 0 = 0
      · refine ⟨(bs (tr (dsOf l)), oL r, false), st3 _ (Ev.yes (hc47.mpr h47) (Ev.bind (rtrim_ev _ (dsOf_digs l)) (Ev.is ?_))), by unfold SplitR splitM; rw [if_neg h0, hrs]; dsimp only; rw [if_neg h1, if_pos h47, if_pos hz]⟩
        rw [hbr, hz]; rfl
      · refine ⟨(bs (tr (dsOf l)), bs (dg (nv (dsOf r))), true), st3 _ (Ev.yes (hc47.mpr h47) (Ev.bind (rtrim_ev _ (dsOf_digs l)) (Ev.is ?_))), by unfold SplitR splitM; rw [if_neg h0, hrs]; dsimp only; rw [if_neg h1, if_pos h47, if_neg hz]⟩
        have ht : Trim (dsOf r) := by
          intro x l' e h2
          rw [e] at hz; exact hz h2
        rw [hbr, show (((48 + (dsOf r).getD 0 0 : Nat) : Int) != 48) = true from bne_iff_ne.mpr (by omega), hor, ← trim_eq_dg (dsOf_digs r) ht]
    have happ : bs (dsOf l) ++ oL r = bs (dsOf l ++ dsOf r) := by rw [hor, bs_append]
    have no46 : ∀ b : Bool, b = (((c.toNat : Int) == 46) && decide (((oL r).size : Int) ≤ 6)) → ∀ z, z = (⟨#[49, 48, 48, 48, 48, 48, 48]⟩ : ByteArray).extract 0 (1 + min (oL r).size 6) → Ev (fun k => accountingref03_split.f k (oL l)) (bs (tr (dsOf l ++ dsOf r)), z, b) := by
      intro b hb z hz
      refine st3 _ (Ev.no (fun h => h47 (hc47.mp h)) ?_)
      rw [happ, ← hb, ← hz]
      exact Ev.bind (rtrim_ev _ ((dsOf_digs l).append (dsOf_digs r))) (Ev.is rfl)
    by_cases h46 : c = 46
    · by_cases h6 : (dsOf r).length ≤ 6
      · refine ⟨_, no46 true (by rw [show ((c.toNat : Int) == 46) = true from beq_iff_eq.mpr (hc46.mpr h46), Bool.true_and, decide_eq_true (by rw [oL_size]; omega)]) _ rfl, ?_⟩
        unfold SplitR splitM
        rw [if_neg h0, hrs]; dsimp only; rw [if_neg h1, if_neg h47, if_pos h46, if_pos h6]; dsimp only
        obtain ⟨z1, z2, z3⟩ := nv_zeros (dsOf r).length
        rw [← trim_eq_dg z2 z3, oL_size, show r.length = (dsOf r).length by omega, zeros_fin ⟨(dsOf r).length, by omega⟩]
      · refine ⟨_, no46 false (by rw [decide_eq_false (show ¬ ((oL r).size : Int) ≤ 6 by rw [oL_size]; omega), Bool.and_false]) _ rfl, ?_⟩
        unfold SplitR splitM
        rw [if_neg h0, hrs]; dsimp only; rw [if_neg h1, if_neg h47, if_pos h46, if_neg h6]
    · refine ⟨_, no46 false (by rw [show ((c.toNat : Int) == 46) = false from beq_eq_false_iff_ne.mpr (fun h => h46 (hc46.mp h)), Bool.false_and]) _ rfl, ?_⟩
      unfold SplitR splitM
      rw [if_neg h0, hrs]; dsimp only; rw [if_neg h1, if_neg h47, if_neg h46]
end Go.Proofs.Ytoenhagbgfkihaa.A
