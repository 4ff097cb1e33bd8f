/- FracInverse: for every two fractions subtraction inverts addition, division inverts multiplication, sums and products do not depend on the order, and the chapter's examples hold. -/
import Derived.Test.YtoenhagbgfkihaaAx9
import Derived.Test.YtoenhagbgfkihaaAx10
import Derived.Test.YtoenhagbgfkihaaAx20
import Derived.Test.YtoenhagbgfkihaaL2
namespace Go.Proofs.Ytoenhagbgfkihaa.Pure
open Go.RowKit Go.Proofs.Ytoenhagbgfkihaa.A Go.Proofs.Ytoenhagbgfkihaa.B Go.Proofs.YtoenhagbgfkihaaW.PrintWords Go.Proofs.YtoenhagbgfkihaaW.PrintLast Go.Proofs.YtoenhagbgfkihaaW.PrintMore
set_option linter.unusedVariables false
set_option linter.unusedSimpArgs false
theorem coprime_eq {n' d' a b : Nat} (h1 : Nat.gcd n' d' = 1) (h2 : Nat.gcd a b = 1) (h : n' * b = a * d') : n' = a ∧ d' = b := by
  have c1 : Nat.Coprime n' d' := h1
  have c2 : Nat.Coprime a b := h2
  have e1 : n' ∣ a := c1.dvd_of_dvd_mul_right ⟨b, h.symm⟩
  have e2 : a ∣ n' := c2.dvd_of_dvd_mul_right ⟨d', h⟩
  have e3 : d' ∣ b := c1.symm.dvd_of_dvd_mul_left ⟨a, by rw [h, Nat.mul_comm]⟩
  have e4 : b ∣ d' := c2.symm.dvd_of_dvd_mul_left ⟨n', by rw [← h, Nat.mul_comm]⟩
  exact ⟨Nat.dvd_antisymm e1 e2, Nat.dvd_antisymm e3 e4⟩
theorem parts (n d : Nat) (hd : 0 < d) : ∃ g n' d' : Nat, 0 < g ∧ Nat.gcd n d = g ∧ n = n' * g ∧ d = d' * g ∧ n / g = n' ∧ d / g = d' ∧ Nat.gcd n' d' = 1 ∧ 0 < d' := by
  have hg : 0 < Nat.gcd n d := Nat.gcd_pos_of_pos_right _ hd
  have h1 := Nat.div_mul_cancel (Nat.gcd_dvd_left n d)
  have h2 := Nat.div_mul_cancel (Nat.gcd_dvd_right n d)
  have h3 : Nat.gcd (n / Nat.gcd n d) (d / Nat.gcd n d) = 1 := by rw [Nat.gcd_div (Nat.gcd_dvd_left n d) (Nat.gcd_dvd_right n d)]; exact Nat.div_self hg
  refine ⟨Nat.gcd n d, n / Nat.gcd n d, d / Nat.gcd n d, hg, rfl, h1.symm, h2.symm, rfl, rfl, h3, ?_⟩
  rcases Nat.eq_zero_or_pos (d / Nat.gcd n d) with h | h
  · rw [h] at h2; omega
  · exact h
theorem makeS_eq (n d a b : Int) (hd : d ≠ 0) (h : n * b = a * d) (hr : rightS a b = true) : makeS n d = (a, b, 0) := by
  rw [rightS_iff] at hr
  obtain ⟨hb1, hb2, ha, hco⟩ := hr
  obtain ⟨g, n', d', hg, e0, e1, e2, e3, e4, e5, e6⟩ := parts n.natAbs d.natAbs (by omega)
  have habs : n.natAbs * b.natAbs = a.natAbs * d.natAbs := by rw [← Int.natAbs_mul, ← Int.natAbs_mul, h]
  have hx : n' * b.natAbs = a.natAbs * d' := by
    rw [e1, e2] at habs
    have : (n' * b.natAbs) * g = (a.natAbs * d') * g := by
      calc (n' * b.natAbs) * g = n' * g * b.natAbs := by rw [Nat.mul_assoc, Nat.mul_comm b.natAbs, ← Nat.mul_assoc]
        _ = a.natAbs * (d' * g) := habs
        _ = (a.natAbs * d') * g := by rw [Nat.mul_assoc]
    exact Nat.eq_of_mul_eq_mul_right hg this
  obtain ⟨f1, f2⟩ := coprime_eq e5 hco hx
  unfold makeS
  rw [if_neg hd, e0, e3, e4, f1, f2, if_neg (by omega)]
  have hbn : (b.natAbs : Int) = b := by omega
  rw [hbn]
  congr 1
  have s1 : 0 < d → (n < 0 ↔ a < 0) := by
    intro h0
    constructor
    · intro hn
      have : n * b < 0 := Int.mul_neg_of_neg_of_pos hn (by omega)
      rw [h] at this
      apply Classical.byContradiction; intro hc
      have := Int.mul_nonneg (show 0 ≤ a by omega) (show 0 ≤ d by omega)
      omega
    · intro hn
      have : a * d < 0 := Int.mul_neg_of_neg_of_pos hn h0
      rw [← h] at this
      apply Classical.byContradiction; intro hc
      have := Int.mul_nonneg (show 0 ≤ n by omega) (show 0 ≤ b by omega)
      omega
  have s2 : d < 0 → (0 < n ↔ a < 0) := by
    intro h0
    constructor
    · intro hn
      have : 0 < n * b := Int.mul_pos hn (by omega)
      rw [h] at this
      apply Classical.byContradiction; intro hc
      have := Int.mul_nonneg (show 0 ≤ a by omega) (show 0 ≤ -d by omega)
      rw [Int.mul_neg] at this
      omega
    · intro hn
      have : 0 < a * d := Int.mul_pos_of_neg_of_neg hn h0
      rw [← h] at this
      apply Classical.byContradiction; intro hc
      have := Int.mul_nonneg (show 0 ≤ -n by omega) (show 0 ≤ b by omega)
      rw [Int.neg_mul] at this
      omega
  have s3 : n = 0 ↔ a = 0 := by
    constructor
    · intro h0; subst h0; rw [Int.zero_mul] at h; rcases Int.mul_eq_zero.mp h.symm with h | h; exact h; omega
    · intro h0; subst h0; rw [Int.zero_mul] at h; rcases Int.mul_eq_zero.mp h with h | h; exact h; omega
  rcases Int.lt_or_gt_of_ne hd with hd0 | hd0
  · have := s2 hd0
    rw [decide_eq_true hd0]
    by_cases hn : n < 0
    · rw [decide_eq_true hn]; simp; omega
    · rw [decide_eq_false hn]; simp; omega
  · have := s1 hd0
    rw [decide_eq_false (show ¬ d < 0 by omega)]
    by_cases hn : n < 0
    · rw [decide_eq_true hn]; simp; omega
    · rw [decide_eq_false hn]; simp; omega
theorem makeS_ok (n d : Int) (hd : 0 < d) (h : (makeS n d).2.2 = 0) : rightS (makeS n d).1 (makeS n d).2.1 = true ∧ (makeS n d).1 * d = n * (makeS n d).2.1 := by
  obtain ⟨g, n', d', hg, e0, e1, e2, e3, e4, e5, e6⟩ := parts n.natAbs d.natAbs (by omega)
  have key : makeS n d = if 1000000 < n' ∨ 1000000 < d' then (0, 0, 4) else (if (decide (n < 0) != decide (d < 0)) = true then -(n' : Int) else (n' : Int), (d' : Int), 0) := by
    unfold makeS
    rw [if_neg (by omega), e0, e3, e4]
  rw [key] at h ⊢
  by_cases hs : 1000000 < n' ∨ 1000000 < d'
  · rw [if_pos hs] at h; simp at h
  rw [if_neg hs]
  simp only [decide_eq_false (show ¬ d < 0 by omega)]
  have hdd : d = (d' : Int) * g := by rw [← Int.natCast_mul, ← e2]; omega
  by_cases hn : n < 0
  · have hnn : n = -((n' : Int) * g) := by rw [← Int.natCast_mul, ← e1]; omega
    rw [decide_eq_true hn]
    simp only [Bool.true_bne, Bool.not_false, if_true]
    refine ⟨?_, ?_⟩
    · rw [rightS_iff]; simp; omega
    · rw [hnn]; generalize (d' : Int) = y at *; generalize (n' : Int) = x at *; rw [hdd]; rw [Int.neg_mul, Int.neg_mul, Int.mul_assoc x, Int.mul_comm (g : Int) y]
  · have hnn : n = (n' : Int) * g := by rw [← Int.natCast_mul, ← e1]; omega
    rw [decide_eq_false hn]
    simp only [bne_self_eq_false, Bool.false_eq_true, if_false]
    refine ⟨?_, ?_⟩
    · rw [rightS_iff]; simp; omega
    · rw [hnn]; generalize (d' : Int) = y at *; generalize (n' : Int) = x at *; rw [hdd]; rw [Int.mul_assoc x, Int.mul_comm (g : Int) y]
theorem joinS_ok {a b c d P Q : Int} (h : (joinS a b c d P Q).2.2 = 0) : rightS a b = true ∧ rightS c d = true ∧ joinS a b c d P Q = makeS P Q := by
  unfold joinS at *
  by_cases h1 : rightS a b = true
  · by_cases h2 : rightS c d = true
    · rw [if_pos h1, if_pos h2]; exact ⟨h1, h2, rfl⟩
    · rw [if_pos h1, if_neg h2] at h; simp at h
  · rw [if_neg h1] at h; simp at h
theorem joinS_comm (a b c d P Q : Int) : joinS a b c d P Q = joinS c d a b P Q := by
  unfold joinS; (repeat' split) <;> rfl
theorem trip {x : Int × Int × Int} {a b : Int} (h : x = (a, b, 0)) : ¬ ((!(x.1 == a) || (!(x.2.1 == b))) = true) ∧ x.2.2 = 0 := by subst h; simp
theorem FracInverse : ∀ a0_0 a0_1 a1_0 a1_1 : Int, I64 a0_0 → I64 a0_1 → I64 a1_0 → I64 a1_1 → ∃ k, accountinglaw03_FracInverse.f k a0_0 a0_1 a1_0 a1_1 = some true := by
  intro a b c d ha hb hc hd
  refine Ev.rounds ?_
  have hI : I64 a ∧ I64 b ∧ I64 c ∧ I64 d := ⟨ha, hb, hc, hd⟩
  have hJ : I64 c ∧ I64 d ∧ I64 a ∧ I64 b := ⟨hc, hd, ha, hb⟩
  have eM : Ev (fun k => accountinglaw03_FracInverse.j1 k a b c d) true := by
    refine Ev.step (fun k => by rw [accountinglaw03_FracInverse.j1]) ?_
    unfold frac_Mul.f
    rw [if_pos hI, if_pos hJ]
    simp only [Option.bind_some]
    rw [show wrap64 (c * a) = wrap64 (a * c) by rw [Int.mul_comm], show wrap64 (d * b) = wrap64 (b * d) by rw [Int.mul_comm], joinS_comm c d a b]
    generalize hp : joinS a b c d (wrap64 (a * c)) (wrap64 (b * d)) = p
    refine Ev.no (by simp) ?_
    refine Ev.step (fun k => by rw [accountinglaw03_FracInverse.j2]) (Ev.no (by simp) ?_)
    have fin : Ev (fun k => accountinglaw03_FracInverse.j3 k false a b c d p.1 p.2.1) true := by
      refine Ev.step (fun k => by rw [accountinglaw03_FracInverse.j3]) ?_
      exact Ev.no (by decide) (Ev.is rfl)
    refine Ev.both (fun h0 => ?_) (fun _ => fin)
    by_cases hc0 : c = 0
    · subst hc0; exact fin
    · rw [show (c != 0) = true from bne_iff_ne.mpr hc0]
      refine Ev.step (fun k => by rw [accountinglaw03_FracInverse.j3]) (Ev.yes rfl ?_)
      rw [← hp] at h0
      obtain ⟨r1, r2, e⟩ := joinS_ok h0
      have b1 := right_bounds r1
      have b2 := right_bounds r2
      rw [wrap_mul (x := a) (y := c) (by omega) (by omega), wrap_mul (x := b) (y := d) (by omega) (by omega)] at e hp h0
      have hbd : 0 < b * d := Int.mul_pos (by omega) (by omega)
      rw [e] at h0 hp
      obtain ⟨r3, e3⟩ := makeS_ok _ _ hbd h0
      rw [hp] at r3 e3
      have b3 := right_bounds r3
      unfold frac_Quo.f
      rw [if_pos ⟨by unfold I64; omega, by unfold I64; omega, hc, hd⟩]
      simp only [Option.bind_some]
      have main : joinS p.1 p.2.1 c d (wrap64 (p.1 * d)) (wrap64 (p.2.1 * c)) = (a, b, 0) := by
        unfold joinS
        rw [if_pos r3, if_pos r2, wrap_mul (x := p.1) (y := d) (by omega) (by omega), wrap_mul (x := p.2.1) (y := c) (by omega) (by omega)]
        refine makeS_eq _ _ a b ?_ ?_ r1
        · intro h; rcases Int.mul_eq_zero.mp h with h | h <;> omega
        · calc p.1 * d * b = p.1 * (b * d) := by rw [Int.mul_assoc, Int.mul_comm d b]
            _ = a * c * p.2.1 := e3
            _ = a * (p.2.1 * c) := by rw [Int.mul_assoc, Int.mul_comm c]
      obtain ⟨t1, t2⟩ := trip main
      exact Ev.no t1 (Ev.yes t2 (Ev.is rfl))
  unfold accountinglaw03_FracInverse.f frac_Add.f
  rw [if_pos hI, if_pos hJ]
  simp only [Option.bind_some]
  rw [show wrap64 (wrap64 (c * b) + wrap64 (a * d)) = wrap64 (wrap64 (a * d) + wrap64 (c * b)) by rw [Int.add_comm], show wrap64 (d * b) = wrap64 (b * d) by rw [Int.mul_comm], joinS_comm c d a b]
  generalize hs : joinS a b c d (wrap64 (wrap64 (a * d) + wrap64 (c * b))) (wrap64 (b * d)) = s
  refine Ev.no (by simp) ?_
  refine Ev.step (fun k => by rw [accountinglaw03_FracInverse.j0]) (Ev.no (by simp) ?_)
  refine Ev.both (fun h0 => ?_) (fun _ => eM)
  rw [← hs] at h0
  obtain ⟨r1, r2, e⟩ := joinS_ok h0
  have b1 := right_bounds r1
  have b2 := right_bounds r2
  have m1 := mul_bound (x := a) (y := d) (by omega) (by omega)
  have m2 := mul_bound (x := c) (y := b) (by omega) (by omega)
  rw [wrap_mul (x := a) (y := d) (by omega) (by omega), wrap_mul (x := c) (y := b) (by omega) (by omega), wrap_mul (x := b) (y := d) (by omega) (by omega), wrap64_in (x := a * d + c * b) (by unfold I64; omega)] at e hs h0
  have hbd : 0 < b * d := Int.mul_pos (by omega) (by omega)
  rw [e] at h0 hs
  obtain ⟨r3, e3⟩ := makeS_ok _ _ hbd h0
  rw [hs] at r3 e3
  have b3 := right_bounds r3
  unfold frac_Sub.f
  rw [if_pos ⟨by unfold I64; omega, by unfold I64; omega, hc, hd⟩]
  simp only [Option.bind_some]
  have main : joinS s.1 s.2.1 c d (wrap64 (wrap64 (s.1 * d) - wrap64 (c * s.2.1))) (wrap64 (s.2.1 * d)) = (a, b, 0) := by
    have m3 := mul_bound (x := s.1) (y := d) (by omega) (by omega)
    have m4 := mul_bound (x := c) (y := s.2.1) (by omega) (by omega)
    unfold joinS
    rw [if_pos r3, if_pos r2, wrap_mul (x := s.1) (y := d) (by omega) (by omega), wrap_mul (x := c) (y := s.2.1) (by omega) (by omega), wrap_mul (x := s.2.1) (y := d) (by omega) (by omega), wrap64_in (x := s.1 * d - c * s.2.1) (by unfold I64; omega)]
    refine makeS_eq _ _ a b ?_ ?_ r1
    · intro h; rcases Int.mul_eq_zero.mp h with h | h <;> omega
    · have hd0 : d ≠ 0 := by omega
      have hd1 : s.1 * (b * d) = (a * d + c * b) * s.2.1 := e3
      rw [Int.sub_mul, Int.mul_assoc, Int.mul_comm d b, hd1, Int.add_mul]
      have q1 : c * b * s.2.1 = c * s.2.1 * b := by rw [Int.mul_assoc, Int.mul_comm b, Int.mul_assoc]
      have q2 : a * d * s.2.1 = a * (s.2.1 * d) := by rw [Int.mul_assoc, Int.mul_comm d]
      rw [q1, q2]; omega
  obtain ⟨t1, t2⟩ := trip main
  exact Ev.no t1 (Ev.yes t2 eM)
end Go.Proofs.Ytoenhagbgfkihaa.Pure
