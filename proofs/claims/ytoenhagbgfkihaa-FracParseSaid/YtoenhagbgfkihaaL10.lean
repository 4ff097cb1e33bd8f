/- Parsing fractions: both programs return parseS. -/
import Derived.Test.YtoenhagbgfkihaaAx8
import Derived.Test.YtoenhagbgfkihaaL9
namespace Go.Proofs.Ytoenhagbgfkihaa.A
open Go.RowKit Go.Proofs.Ytoenhagbgfkihaa.B Go.Proofs.YtoenhagbgfkihaaW.PrintWords Go.Proofs.YtoenhagbgfkihaaW.PrintLast Go.Proofs.YtoenhagbgfkihaaW.PrintMore
set_option linter.unusedVariables false
set_option linter.unusedSimpArgs false
def parseT (neg : Bool) (t : List UInt8) : Int × Int × Int := match splitM t with
  | none => (0, 0, 5)
  | some (a, b) => if neg = true ∧ nv a = 0 then (0, 0, 5) else
    if (reduceS (nv a) (nv b)).2.2 = true then (if neg = true then -(reduceS (nv a) (nv b)).1 else (reduceS (nv a) (nv b)).1, (reduceS (nv a) (nv b)).2.1, 0) else (0, 0, 4)
def parseS (l : List UInt8) : Int × Int × Int := parseT (negOf l) (magOf l)
theorem splitM_facts {l : List UInt8} {a b : List Nat} (h : splitM l = some (a, b)) : Digs a ∧ Digs b ∧ 0 < nv b ∧ a.length ≤ l.length ∧ b.length ≤ l.length + 1 := by
  have hlen := dsOf_len l
  unfold splitM at h
  split at h
  · cases h
  split at h
  · obtain ⟨rfl, rfl⟩ := Prod.mk.inj (Option.some.inj h)
    exact ⟨dsOf_digs l, Digs.mk (by decide) Digs.nil, by decide, by omega, by show 1 ≤ _; omega⟩
  · rename_i c r hrs
    rw [hrs, List.length_cons] at hlen
    have hlr := dsOf_len r
    split at h
    · cases h
    rename_i hm
    split at h
    · split at h
      · cases h
      · rename_i hz
        obtain ⟨rfl, rfl⟩ := Prod.mk.inj (Option.some.inj h)
        refine ⟨dsOf_digs l, dsOf_digs r, ?_, by omega, by omega⟩
        cases hd : dsOf r with
        | nil => rw [hd] at hm; exact absurd (.inl rfl) hm
        | cons x m =>
          rw [hd] at hz
          have hx : x ≠ 0 := hz
          rw [nv_cons]
          have : 0 < x * 10 ^ m.length := Nat.mul_pos (by omega) (Nat.pow_pos (by decide))
          omega
    · split at h
      · split at h
        · rename_i h6
          obtain ⟨rfl, rfl⟩ := Prod.mk.inj (Option.some.inj h)
          obtain ⟨z1, z2, z3⟩ := nv_zeros (dsOf r).length
          refine ⟨(dsOf_digs l).append (dsOf_digs r), z2, by rw [z1]; exact Nat.pow_pos (by decide), by rw [List.length_append]; omega, by rw [List.length_cons, List.length_replicate]; omega⟩
        · cases h
      · cases h
theorem dg_nv_le {a : List Nat} (d : Digs a) : (dg (nv a)).length ≤ a.length := dg_length_le _ _ (nv_lt d)
theorem reduce_bounds (A B : Nat) : -1000000 ≤ (reduceS A B).1 ∧ (reduceS A B).1 ≤ 1000000 := by
  unfold reduceS
  generalize A / Nat.gcd A B = n
  generalize B / Nat.gcd A B = d
  split <;> dsimp only <;> omega
theorem fparse_j1 (neg : Bool) (t : List UInt8) (ht : t.length ≤ 900) : Ev (fun k => frac_Parse.j1 k (oL t) neg 0 0) (parseT neg t) := by
  obtain ⟨r, hr, hs⟩ := fsplit t (by omega)
  refine Ev.step (fun k => by rw [frac_Parse.j1]) (Ev.bind hr ?_)
  unfold SplitF at hs
  unfold parseT
  have no : Ev (fun k => frac_Parse.j2 k neg r.1 r.2.1 true 0 0) (0, 0, 5) := Ev.step (fun k => by rw [frac_Parse.j2]) (Ev.yes rfl (Ev.is rfl))
  cases hm : splitM t with
  | none =>
    rw [hm] at hs
    refine Ev.no (by rw [hs]; decide) no
  | some ab =>
    obtain ⟨a, b⟩ := ab
    rw [hm] at hs
    dsimp only at hs ⊢
    obtain ⟨da, db, hb, hla, hlb⟩ := splitM_facts hm
    subst hs
    have la := dg_nv_le da
    have lb := dg_nv_le db
    refine Ev.yes rfl ?_
    have yes : ¬ (neg = true ∧ nv a = 0) → Ev (fun k => frac_Parse.j2 k neg (im a) (im b) false 0 0) (if (reduceS (nv a) (nv b)).2.2 = true then (if neg = true then -(reduceS (nv a) (nv b)).1 else (reduceS (nv a) (nv b)).1, (reduceS (nv a) (nv b)).2.1, 0) else (0, 0, 4)) := by
      intro hn
      refine Ev.step (fun k => by rw [frac_Parse.j2]) (Ev.no (by decide) (Ev.bind (ftrim_ev a) (Ev.bind (ftrim_ev b) ?_)))
      rw [tr_eq_dg da, tr_eq_dg db]
      refine Ev.bind (freduce_ev (nv a) (nv b) hb (by omega) (by omega)) ?_
      have hbd := reduce_bounds (nv a) (nv b)
      refine Ev.both (fun h => ?_) (fun h => Ev.is (by rw [if_neg h]))
      rw [if_pos h, w_in (x := -(reduceS (nv a) (nv b)).1) (by omega)]
      exact Ev.both (fun h2 => Ev.is (by rw [if_pos h2])) (fun h2 => Ev.is (by rw [if_neg h2]))
    refine Ev.both (fun h => ?_) (fun h => ?_)
    · refine Ev.bind (ftrim_ev a) ?_
      rw [tr_eq_dg da, im_length]
      by_cases h0 : nv a = 0
      · rw [if_pos ⟨h, h0⟩, h0, dg_zero]
        exact no
      · have hne : (dg (nv a)).length ≠ 0 := fun h2 => h0 ((dg_nil_iff _).mp (List.eq_nil_of_length_eq_zero h2))
        rw [if_neg (fun h2 => h0 h2.2), show ((((dg (nv a)).length : Nat) : Int) == 0) = false from beq_eq_false_iff_ne.mpr (by omega)]
        exact yes (fun h2 => h0 h2.2)
    · rw [if_neg (fun h2 => h h2.1)]
      exact yes (fun h2 => h h2.1)
theorem frac_Parse_ev (l : List UInt8) (hl : l.length ≤ 900) : Ev (fun k => frac_Parse.f k (oL l)) (parseS l) := by
  unfold frac_Parse.f parseS
  cases l with
  | nil =>
    refine Ev.yes (oL_toList []) ?_
    refine Ev.step (fun k => by rw [frac_Parse.j0]) ?_
    refine Ev.no (by decide) ?_
    exact fparse_j1 false [] (by omega)
  | cons c t =>
    rw [List.length_cons] at hl
    refine Ev.no (by rw [oL_toList]; exact List.cons_ne_nil _ _) (Ev.yes (by rw [oL_size, List.length_cons]; omega) ?_)
    rw [bt_head]
    have hc := u8_eq c 45 (by decide)
    refine Ev.step (fun k => by rw [frac_Parse.j0]) ?_
    by_cases h : c = 45
    · subst h
      refine Ev.yes (by decide) (Ev.yes (by rw [oL_size, List.length_cons]; omega) ?_)
      rw [oL_tail]
      exact fparse_j1 true t (by omega)
    · have e1 : negOf (c :: t) = false := by
        unfold negOf; rw [List.head?_cons]; exact beq_eq_false_iff_ne.mpr (fun h2 => h (Option.some.inj h2))
      have e2 : (((c.toNat : Nat) : Int) == 45) = false := beq_eq_false_iff_ne.mpr (fun h2 => h (hc.mp h2))
      unfold magOf
      rw [e1, e2]
      exact Ev.no (by decide) (fparse_j1 false (c :: t) (by rw [List.length_cons]; omega))
theorem dval_nv (l : List UInt8) : dval l = nv (l.map (fun (c : UInt8) => c.toNat - 48)) := by
  unfold dval nv; rw [List.foldl_map]
theorem dsOf_cut (X Y : List UInt8) (c : UInt8) (hX : X.all isDig = true) (hc : isDig c = false) : dsOf (X ++ c :: Y) = X.map (fun (c : UInt8) => c.toNat - 48) ∧ rsOf (X ++ c :: Y) = c :: Y := by
  induction X with
  | nil => rw [List.nil_append, dsOf_cons, rsOf_cons, if_neg (by rw [hc]; decide), if_neg (by rw [hc]; decide)]; exact ⟨rfl, rfl⟩
  | cons x X ih =>
    rw [List.all_cons, Bool.and_eq_true] at hX
    obtain ⟨h1, h2⟩ := ih hX.2
    rw [List.cons_append, dsOf_cons, rsOf_cons, if_pos hX.1, if_pos hX.1, h1, h2]; exact ⟨rfl, rfl⟩
theorem dsOf_all (X : List UInt8) (hX : X.all isDig = true) : dsOf X = X.map (fun (c : UInt8) => c.toNat - 48) ∧ rsOf X = [] := by
  induction X with
  | nil => exact ⟨rfl, rfl⟩
  | cons x X ih =>
    rw [List.all_cons, Bool.and_eq_true] at hX
    obtain ⟨h1, h2⟩ := ih hX.2
    rw [dsOf_cons, rsOf_cons, if_pos hX.1, if_pos hX.1, h1, h2]; exact ⟨rfl, rfl⟩
/-- The decimal notation of a number: its digits, no zero ahead of others. -/
theorem dec_facts (u : Nat) : (Lib.decDigits u).all isDig = true ∧ nv ((Lib.decDigits u).map (fun (c : UInt8) => c.toNat - 48)) = u ∧ ((Lib.decDigits u).map (fun (c : UInt8) => c.toNat - 48)).length ≠ 0 ∧
    (((Lib.decDigits u).map (fun (c : UInt8) => c.toNat - 48)).getD 0 0 = 0 → ((Lib.decDigits u).map (fun (c : UInt8) => c.toNat - 48)).length = 1 ∧ u = 0) := by
  obtain ⟨h1, h2, h3, h4⟩ := decDigits_spec u
  rw [dval_nv] at h1
  refine ⟨h2, h1, by rw [List.length_map]; exact fun h => h3 (List.eq_nil_of_length_eq_zero h), ?_⟩
  intro h
  have h5 : (Lib.decDigits u).head? = some 48 := by
    cases hd : Lib.decDigits u with
    | nil => exact absurd hd h3
    | cons c r =>
      rw [hd] at h h2
      rw [List.all_cons, Bool.and_eq_true] at h2
      have hr := (isDig_range c).mp h2.1
      have hz : c.toNat - 48 = 0 := h
      rw [List.head?_cons, (u8_eq c 48 (by decide)).mp (by omega)]; rfl
  obtain ⟨hx1, hx2⟩ := h4 h5
  exact ⟨by rw [List.length_map]; exact hx2, hx1⟩
theorem splitM_text (u d : Nat) (hd : 0 < d) : splitM (if d = 1 then Lib.decDigits u else Lib.decDigits u ++ 47 :: Lib.decDigits d) = some ((Lib.decDigits u).map (fun (c : UInt8) => c.toNat - 48), if d = 1 then [1] else (Lib.decDigits d).map (fun (c : UInt8) => c.toNat - 48)) := by
  obtain ⟨h1, h2, h3, h4⟩ := dec_facts u
  obtain ⟨g1, g2, g3, g4⟩ := dec_facts d
  have no : ¬ (((Lib.decDigits u).map (fun (c : UInt8) => c.toNat - 48)).length = 0 ∨ (1 < ((Lib.decDigits u).map (fun (c : UInt8) => c.toNat - 48)).length ∧ ((Lib.decDigits u).map (fun (c : UInt8) => c.toNat - 48)).getD 0 0 = 0)) := by
    rintro (h | ⟨h, h5⟩)
    · exact h3 h
    · have := (h4 h5).1; omega
  unfold splitM
  by_cases h : d = 1
  · rw [if_pos h, if_pos h]
    obtain ⟨e1, e2⟩ := dsOf_all _ h1
    rw [e1, e2, if_neg no]
  · rw [if_neg h, if_neg h]
    obtain ⟨e1, e2⟩ := dsOf_cut (Lib.decDigits u) (Lib.decDigits d) 47 h1 (by decide)
    obtain ⟨f1, f2⟩ := dsOf_all _ g1
    rw [e1, e2, if_neg no]
    dsimp only
    rw [f1, f2, if_neg (by rintro (h | h); exact g3 h; exact h rfl), if_pos rfl, if_neg (fun h0 => by have := (g4 h0).2; omega)]
theorem parse_text (n d : Int) (h : rightS n d = true) : parseS (if d = 1 then Lib.itoa n else Lib.itoa n ++ 47 :: Lib.itoa d) = (n, d, 0) := by
  rw [rightS_iff] at h
  obtain ⟨h1, h2, h3, h4⟩ := h
  obtain ⟨D, rfl⟩ := Int.eq_ofNat_of_zero_le (show 0 ≤ d by omega)
  rw [Int.natAbs_natCast] at h4
  have hD : 0 < D := by omega
  have hi : Lib.itoa (D : Int) = Lib.decDigits D := by unfold Lib.itoa; rw [if_neg (by omega)]; rfl
  have hs := splitM_text n.natAbs D hD
  have hr : reduceS n.natAbs D = ((n.natAbs : Int), (D : Int), true) := by
    unfold reduceS
    rw [h4, Nat.div_one, Nat.div_one, if_pos ⟨h3, by omega⟩]
  have hv : nv (if D = 1 then [1] else (Lib.decDigits D).map (fun (c : UInt8) => c.toNat - 48)) = D := by
    split
    · rename_i h; rw [h]; rfl
    · exact (dec_facts D).2.1
  have main : ∀ neg : Bool, (neg = true → n ≠ 0) → parseT neg (if D = 1 then Lib.decDigits n.natAbs else Lib.decDigits n.natAbs ++ 47 :: Lib.decDigits D) = (if neg = true then -(n.natAbs : Int) else (n.natAbs : Int), (D : Int), 0) := by
    intro neg hneg
    unfold parseT
    rw [hs]
    dsimp only
    rw [(dec_facts n.natAbs).2.1, hv, if_neg (by rintro ⟨e1, e2⟩; exact hneg e1 (by omega)), hr]
    rfl
  unfold parseS
  rw [hi]
  by_cases hn : n < 0
  · have e : Lib.itoa n = 45 :: Lib.decDigits n.natAbs := by unfold Lib.itoa; rw [if_pos hn]
    rw [e]
    have e2 : (if (D : Int) = 1 then 45 :: Lib.decDigits n.natAbs else 45 :: Lib.decDigits n.natAbs ++ 47 :: Lib.decDigits D) = 45 :: (if D = 1 then Lib.decDigits n.natAbs else Lib.decDigits n.natAbs ++ 47 :: Lib.decDigits D) := by
      by_cases hd1 : D = 1
      · rw [if_pos (by omega), if_pos hd1]
      · rw [if_neg (by omega), if_neg hd1]; rfl
    rw [e2]
    have := main true (fun _ => by omega)
    show parseT true (if D = 1 then Lib.decDigits n.natAbs else Lib.decDigits n.natAbs ++ 47 :: Lib.decDigits D) = _
    rw [this, if_pos rfl]; congr 1; omega
  · have e : Lib.itoa n = Lib.decDigits n.natAbs := by unfold Lib.itoa; rw [if_neg hn]; congr 1; omega
    rw [e]
    have e2 : (if (D : Int) = 1 then Lib.decDigits n.natAbs else Lib.decDigits n.natAbs ++ 47 :: Lib.decDigits D) = (if D = 1 then Lib.decDigits n.natAbs else Lib.decDigits n.natAbs ++ 47 :: Lib.decDigits D) := by
      by_cases hd1 : D = 1
      · rw [if_pos (by omega), if_pos hd1]
      · rw [if_neg (by omega), if_neg hd1]
    rw [e2]
    have hneg : negOf (if D = 1 then Lib.decDigits n.natAbs else Lib.decDigits n.natAbs ++ 47 :: Lib.decDigits D) = false := by
      have h0 := decDigits_not_minus n.natAbs
      split
      · exact h0
      · cases hdd : Lib.decDigits n.natAbs with
        | nil => rfl
        | cons c r => rw [hdd] at h0; exact h0
    have := main false (fun h => by cases h)
    unfold magOf
    rw [hneg]
    rw [if_neg (by decide), this, if_neg (by decide)]; congr 1; omega
theorem parseS_right (l : List UInt8) (h : (parseS l).2.2 = 0) : rightS (parseS l).1 (parseS l).2.1 = true ∧ I64 (parseS l).1 ∧ I64 (parseS l).2.1 := by
  unfold parseS parseT at *
  generalize negOf l = neg at *
  cases hm : splitM (magOf l) with
  | none => rw [hm] at h; simp at h
  | some ab =>
    obtain ⟨a, b⟩ := ab
    obtain ⟨da, db, hb, _, _⟩ := splitM_facts hm
    rw [hm] at h
    dsimp only at h ⊢
    by_cases h0 : neg = true ∧ nv a = 0
    · rw [if_pos h0] at h; simp at h
    rw [if_neg h0] at h ⊢
    have hg : 0 < Nat.gcd (nv a) (nv b) := Nat.gcd_pos_of_pos_right _ hb
    have hco : Nat.gcd (nv a / Nat.gcd (nv a) (nv b)) (nv b / Nat.gcd (nv a) (nv b)) = 1 := by
      rw [Nat.gcd_div (Nat.gcd_dvd_left _ _) (Nat.gcd_dvd_right _ _)]; exact Nat.div_self hg
    have hbp : 0 < nv b / Nat.gcd (nv a) (nv b) := Nat.div_pos (Nat.gcd_le_right _ hb) hg
    unfold reduceS at *
    generalize nv a / Nat.gcd (nv a) (nv b) = n at *
    generalize nv b / Nat.gcd (nv a) (nv b) = d at *
    by_cases hk : n ≤ 1000000 ∧ d ≤ 1000000
    · rw [if_pos hk] at h ⊢
      dsimp only at h ⊢
      rw [if_pos rfl] at h ⊢
      dsimp only
      refine ⟨?_, ?_, by unfold I64; omega⟩
      · rw [rightS_iff]
        have e : (if neg = true then -(n : Int) else (n : Int)).natAbs = n := by split <;> omega
        rw [e, Int.natAbs_natCast]; exact ⟨by omega, by omega, by omega, hco⟩
      · split <;> (unfold I64; omega)
    · rw [if_neg hk] at h
      dsimp only at h
      simp at h
end Go.Proofs.Ytoenhagbgfkihaa.A
