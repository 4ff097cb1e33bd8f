/- Parsing fractions: the reference returns parseS. -/
import Derived.Test.YtoenhagbgfkihaaAx13
import Derived.Test.YtoenhagbgfkihaaAx16
import Derived.Test.YtoenhagbgfkihaaL10
import Derived.Test.YtoenhagbgfkihaaL11
namespace Go.Proofs.Ytoenhagbgfkihaa.A
open Go.RowKit Go.Proofs.Ytoenhagbgfkihaa.B Go.Proofs.YtoenhagbgfkihaaW.PrintWords Go.Proofs.YtoenhagbgfkihaaW.PrintLast Go.Proofs.YtoenhagbgfkihaaW.PrintMore
set_option linter.unusedVariables false
set_option linter.unusedSimpArgs false
theorem makeS_nat (n d : Nat) (hd : 0 < d) (hg : Nat.gcd n d = 1) : makeS (n : Int) (d : Int) = if n ≤ 1000000 ∧ d ≤ 1000000 then ((n : Int), (d : Int), 0) else (0, 0, 4) := by
  unfold makeS
  rw [if_neg (by omega), Int.natAbs_natCast, Int.natAbs_natCast, hg, Nat.div_one, Nat.div_one]
  by_cases h : n ≤ 1000000 ∧ d ≤ 1000000
  · rw [if_neg (by omega), if_pos h, decide_eq_false (show ¬ (n : Int) < 0 by omega), decide_eq_false (show ¬ (d : Int) < 0 by omega)]; rfl
  · rw [if_pos (by omega), if_neg h]
theorem rparse_j1 (x0 : ByteArray) (neg : Bool) (t : List UInt8) (ht : t.length ≤ 900) (hn : neg = decide ((t.length : Int) < (x0.size : Int))) : Ev (fun k => accountingref03_Parse.j1 k x0 (oL t)) (parseT neg t) := by
  obtain ⟨r, hr, hs⟩ := rsplit t (by omega)
  refine Ev.step (fun k => by rw [accountingref03_Parse.j1]) (Ev.bind hr ?_)
  unfold SplitR at hs
  unfold parseT
  have no : ∀ b : Bool, b = true → Ev (fun k => accountingref03_Parse.j2 k x0 (oL t) r.1 r.2.1 b) (0, 0, 5) := fun b hb => Ev.step (fun k => by rw [accountingref03_Parse.j2]) (Ev.yes hb (Ev.is rfl))
  have hlt : neg = true ↔ ((oL t).size : Int) < (x0.size : Int) := by rw [hn, decide_eq_true_iff, oL_size]
  cases hm : splitM t with
  | none =>
    rw [hm] at hs
    refine Ev.no (by rw [hs]; decide) (no true rfl)
  | some ab =>
    obtain ⟨a, b⟩ := ab
    rw [hm] at hs
    dsimp only at hs ⊢
    obtain ⟨da, db, hb, hla, hlb⟩ := splitM_facts hm
    subst hs
    have la := dg_nv_le da
    have lb := dg_nv_le db
    refine Ev.yes rfl ?_
    dsimp only at no ⊢
    rw [tr_eq_dg da] at no ⊢
    have yes : ¬ (neg = true ∧ nv a = 0) → Ev (fun k => accountingref03_Parse.j2 k x0 (oL t) (bs (dg (nv a))) (bs (dg (nv b))) false) (if (reduceS (nv a) (nv b)).2.2 = true then (if neg = true then -(reduceS (nv a) (nv b)).1 else (reduceS (nv a) (nv b)).1, (reduceS (nv a) (nv b)).2.1, 0) else (0, 0, 4)) := by
      intro hn0
      have hg : 0 < Nat.gcd (nv a) (nv b) := Nat.gcd_pos_of_pos_right _ hb
      have hgl : (dg (Nat.gcd (nv a) (nv b))).length ≤ 1000 := Nat.le_trans (dg_le_length (Nat.gcd_le_right _ hb)) (by omega)
      refine Ev.step (fun k => by rw [accountingref03_Parse.j2]) (Ev.no (by decide) (Ev.bind (rcommon_ev (nv a) (nv b) (by omega) (by omega)) (Ev.bind (rdiv_ev _ hg hgl (dg (nv a)) (by omega) (digs_dg _)) (Ev.bind (rdiv_ev _ hg hgl (dg (nv b)) (by omega) (digs_dg _)) ?_))))
      rw [nv_dg, nv_dg]
      dsimp only
      rw [bs_size, bs_size]
      have hco : Nat.gcd (nv a / Nat.gcd (nv a) (nv b)) (nv b / Nat.gcd (nv a) (nv b)) = 1 := by
        rw [Nat.gcd_div (Nat.gcd_dvd_left _ _) (Nat.gcd_dvd_right _ _)]; exact Nat.div_self hg
      have hbp : 0 < nv b / Nat.gcd (nv a) (nv b) := Nat.div_pos (Nat.gcd_le_right _ hb) hg
      unfold reduceS
      generalize nv a / Nat.gcd (nv a) (nv b) = n at *
      generalize nv b / Nat.gcd (nv a) (nv b) = d at *
      have big : ∀ x : Bool, x = true → Ev (fun k => accountingref03_Parse.j3 k x0 (oL t) (bs (dg n)) (bs (dg d)) x) (0, 0, 4) := fun x hx => Ev.step (fun k => by rw [accountingref03_Parse.j3]) (Ev.yes hx (Ev.is rfl))
      refine Ev.both (fun h => ?_) (fun h => ?_)
      · have h10 := dg_length_gt n 7 (by omega)
        rw [if_neg (show ¬ (n ≤ 1000000 ∧ d ≤ 1000000) by omega)]
        exact big true rfl
      by_cases h7 : 7 < (dg d).length
      · have h10 := dg_length_gt d 7 h7
        rw [if_neg (show ¬ (n ≤ 1000000 ∧ d ≤ 1000000) by omega)]
        exact big _ (decide_eq_true (by omega))
      have hn7 := nv_take_lt7 (dg n) (digs_dg n) (by omega) (dg n).length
      have hd7 := nv_take_lt7 (dg d) (digs_dg d) (by omega) (dg d).length
      rw [List.take_length, nv_dg] at hn7 hd7
      have hnum := rnumber_ev (dg n) (digs_dg n) (by omega)
      have hden := rnumber_ev (dg d) (digs_dg d) (by omega)
      rw [nv_dg] at hnum hden
      refine Ev.step (fun k => by rw [accountingref03_Parse.j3]) (Ev.no (by rw [decide_eq_false (by omega)]; decide) (Ev.bind hnum (Ev.bind hden (Ev.bind (ref03_Make_ev (n : Int) (d : Int) (by unfold I64; omega) (by unfold I64; omega)) ?_))))
      rw [makeS_nat n d hbp hco]
      by_cases hok : n ≤ 1000000 ∧ d ≤ 1000000
      · rw [if_pos hok, if_pos hok]
        dsimp only
        refine Ev.both (fun h => ?_) (fun h => ?_)
        · unfold accountingref03_Neg.f
          refine Ev.bind (Ev.is rfl) ?_
          dsimp only
          rw [w_in (x := -(n : Int)) (by omega)]
          refine Ev.yes rfl (Ev.is ?_)
          rw [if_pos rfl, if_pos (hlt.mpr h)]
        · refine Ev.yes rfl (Ev.is ?_)
          rw [if_pos rfl, if_neg (fun h2 => h (hlt.mp h2))]
      · rw [if_neg hok, if_neg hok]
        dsimp only
        refine Ev.both (fun h => ?_) (fun h => ?_)
        · unfold accountingref03_Neg.f
          refine Ev.bind (Ev.is rfl) ?_
          exact Ev.no (by decide) (Ev.is rfl)
        · exact Ev.no (by decide) (Ev.is rfl)
    refine Ev.both (fun h => ?_) (fun h => ?_)
    · have hneg := hlt.mpr h
      have e : ((bs (dg (nv a))).toList == ([] : List UInt8)) = decide (nv a = 0) := by rw [Bool.eq_iff_iff, beq_iff_eq, decide_eq_true_iff, bs_nil_iff]
      rw [e]
      by_cases h0 : nv a = 0
      · rw [if_pos ⟨hneg, h0⟩]
        exact no _ (decide_eq_true h0)
      · rw [if_neg (fun h2 => h0 h2.2), decide_eq_false h0]
        exact yes (fun h2 => h0 h2.2)
    · have hneg : ¬ neg = true := fun h2 => h (hlt.mp h2)
      rw [if_neg (fun h2 => hneg h2.1)]
      exact yes (fun h2 => hneg h2.1)
theorem ref03_Parse_ev (l : List UInt8) (hl : l.length ≤ 900) : Ev (fun k => accountingref03_Parse.f k (oL l)) (parseS l) := by
  unfold accountingref03_Parse.f parseS
  cases l with
  | nil =>
    refine Ev.no (by rw [oL_size]; decide) ?_
    refine Ev.step (fun k => by rw [accountingref03_Parse.j0]) ?_
    refine Ev.no (by decide) ?_
    exact rparse_j1 (oL []) false [] (by omega) (by decide)
  | cons c t =>
    rw [List.length_cons] at hl
    refine Ev.yes (by rw [oL_size, List.length_cons]; omega) (Ev.yes (by rw [oL_size, List.length_cons]; omega) ?_)
    rw [bt_head]
    have hc := u8_eq c 45 (by decide)
    refine Ev.step (fun k => by rw [accountingref03_Parse.j0]) ?_
    by_cases h : c = 45
    · subst h
      refine Ev.yes (by decide) (Ev.yes (by rw [oL_size, List.length_cons]; omega) ?_)
      rw [oL_tail]
      exact rparse_j1 _ true t (by omega) (by rw [oL_size, List.length_cons, decide_eq_true (by omega)])
    · have e1 : negOf (c :: t) = false := by
        unfold negOf; rw [List.head?_cons]; exact beq_eq_false_iff_ne.mpr (fun h2 => h (Option.some.inj h2))
      have e2 : (((c.toNat : Nat) : Int) == 45) = false := beq_eq_false_iff_ne.mpr (fun h2 => h (hc.mp h2))
      unfold magOf
      rw [e1, e2]
      exact Ev.no (by decide) (rparse_j1 _ false (c :: t) (by rw [List.length_cons]; omega) (by rw [oL_size, decide_eq_false (by omega)]))
end Go.Proofs.Ytoenhagbgfkihaa.A
