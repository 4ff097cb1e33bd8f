import Derived.Test.YthmpapnhomngnaaDoorL1
import Derived.Test.YthmpapnhomngnaaDoorAx9
import Derived.Test.YthmpapnhomngnaaDoorAx10
namespace Go.Proofs.YthmpapnhomngnaaDoor.A
open Go.RowKit Go.Proofs.YthmpapnhomngnaaDoor.B Go.Proofs.YthmpapnhomngnaaDoorW.PrintWords Go.Proofs.YthmpapnhomngnaaDoorW.PrintLast Go.Proofs.YthmpapnhomngnaaDoorW.PrintMore

theorem Ev.const {α : Type} {x : Option α} {v : α} (h : x = some v) : Ev (fun _ => x) v := ⟨0, fun _ _ => h⟩
/-! ### rounding, as mathematics -/
def rUp (a q r p m : Int) : Bool := decide (m = 1 ∧ a < 0 ∧ 0 < r ∨ m = 2 ∧ 0 < a ∧ 0 < r ∨ m = 3 ∧ (p < 2 * r ∨ 2 * r = p ∧ 0 < a) ∨ m = 4 ∧ (p < 2 * r ∨ 2 * r = p ∧ q % 2 ≠ 0))
def rnd (a p m : Int) : Int := a / p + (if rUp a (a / p) (a % p) p m = true then 1 else 0)
theorem ediv_unique {a p q r : Int} (h : a = p * q + r) (h0 : 0 ≤ r) (h1 : r < p) : a / p = q ∧ a % p = r := by
  subst h
  have hp : p ≠ 0 := by omega
  constructor
  · rw [Int.add_comm, Int.add_mul_ediv_left _ _ hp, Int.ediv_eq_zero_of_lt h0 h1, Int.zero_add]
  · rw [Int.add_comm, Int.add_mul_emod_self_left, Int.emod_eq_of_lt h0 h1]
theorem tdiv_floor (a p : Int) (hp : 0 < p) : (Int.tmod a p < 0 → a / p = Int.tdiv a p - 1 ∧ a % p = Int.tmod a p + p) ∧ (0 ≤ Int.tmod a p → a / p = Int.tdiv a p ∧ a % p = Int.tmod a p) ∧ -p < Int.tmod a p ∧ Int.tmod a p < p := by
  have h := Int.mul_tdiv_add_tmod a p
  have h2 : -p < Int.tmod a p ∧ Int.tmod a p < p := by
    have := Int.natAbs_tmod a p
    have h3 : a.natAbs % p.natAbs < p.natAbs := Nat.mod_lt _ (by omega)
    omega
  refine ⟨fun hn => ediv_unique (p := p) (q := Int.tdiv a p - 1) (r := Int.tmod a p + p) ?_ (by omega) (by omega), fun hn => ediv_unique h.symm hn h2.2, h2⟩
  rw [Int.mul_sub, Int.mul_one]; omega
theorem ediv_small (a p : Int) (hp : 0 < p) (ha : -1000000000000000 ≤ a) (hb : a ≤ 1000000000000000) : -1000000000000000 ≤ a / p ∧ a / p ≤ 1000000000000000 := by
  constructor
  · rw [Int.le_ediv_iff_mul_le hp]
    have : (-1000000000000000 : Int) * p ≤ -1000000000000000 * 1 := Int.mul_le_mul_of_nonpos_left (by decide) (by omega)
    omega
  · by_cases h : 0 ≤ a
    · exact Int.le_trans (Int.ediv_le_self _ h) hb
    · have : a / p < 0 := Int.ediv_neg_of_neg_of_pos (by omega) hp
      omega
/-- The reference's Round. -/
theorem ref07_Round (a p m : Int) (hp : 0 < p) (hp2 : p ≤ 10000) (ha : -1000000000000000 ≤ a) (hb : a ≤ 1000000000000000) : Ev (fun k => accountingref07_Round.f k a p m) (rnd a p m) := by
  obtain ⟨f1, f2, f3, f4⟩ := tdiv_floor a p hp
  obtain ⟨b1, b2⟩ := ediv_small a p hp ha hb
  have key : Ev (fun k => accountingref07_Round.j0 k a p m (a / p) (a % p)) (rnd a p m) := by
    have m0 := Int.emod_nonneg a (show p ≠ 0 by omega)
    have m1 := Int.emod_lt_of_pos a hp
    unfold rnd rUp
    generalize a / p = q at *
    generalize a % p = r at *
    have w1 : wrap64 (q + 1) = q + 1 := by unfold wrap64; omega
    have w2 : wrap64 (2 * r) = 2 * r := by unfold wrap64; omega
    have t2 : Int.tmod q 2 = 0 ↔ q % 2 = 0 := by
      have := Int.emod_emod_of_dvd q (Int.dvd_refl 2)
      constructor
      · intro h; have := Int.dvd_of_tmod_eq_zero h; exact Int.emod_eq_zero_of_dvd this
      · intro h; exact Int.tmod_eq_zero_of_dvd (Int.dvd_of_emod_eq_zero h)
    refine Ev.step (fun k => by rw [accountingref07_Round.j0]) ?_
    refine Ev.const ?_
    rw [w1, w2]
    by_cases c1 : m = 1
    · subst c1; simp only [if_pos]; by_cases c2 : a < 0 <;> by_cases c3 : 0 < r <;> simp [c2, c3]
    by_cases c2 : m = 2
    · subst c2; by_cases c2 : 0 < a <;> by_cases c3 : 0 < r <;> simp [c2, c3]
    by_cases c3 : m = 3
    · subst c3; by_cases c2 : p < 2 * r <;> by_cases c3 : 2 * r = p <;> by_cases c4 : 0 < a <;> simp [c2, c3, c4]
    by_cases c4 : m = 4
    · subst c4; by_cases c2 : p < 2 * r <;> by_cases c3 : 2 * r = p <;> by_cases c4 : q % 2 = 0 <;> simp [c2, c3, c4, t2]
    · simp [c1, c2, c3, c4]
  unfold accountingref07_Round.f
  refine Ev.no (by omega) ?_
  by_cases h : Int.tmod a p < 0
  · obtain ⟨e1, e2⟩ := f1 h
    refine Ev.yes h ?_
    rw [show wrap64 (Int.tdiv a p) = Int.tdiv a p by unfold wrap64; omega, show wrap64 (Int.tdiv a p - 1) = a / p by unfold wrap64; omega, show wrap64 (Int.tmod a p + p) = a % p by unfold wrap64; omega]
    exact key
  · obtain ⟨e1, e2⟩ := f2 (by omega)
    refine Ev.no h ?_
    rw [show wrap64 (Int.tdiv a p) = a / p by unfold wrap64; omega, ← e2]
    exact key
/-- 10 to the power of d, by the reference. -/
theorem ref07_Power (d : Int) (h0 : 0 ≤ d) (h4 : d ≤ 4) : Ev (fun k => accountingref07_Power.f k d) (pow10 d.toNat) := by
  have : d = 0 ∨ d = 1 ∨ d = 2 ∨ d = 3 ∨ d = 4 := by omega
  refine ⟨6, fun k hk => ?_⟩
  obtain ⟨k, rfl⟩ : ∃ k', k = k' + 6 := ⟨k - 6, by omega⟩
  rcases this with rfl | rfl | rfl | rfl | rfl <;> simp [accountingref07_Power.f, accountingref07_Power.l0, wrap64, pow10]
theorem ref07_large (a : Int) : accountingref07_large.f a = some (farB a) := by
  unfold accountingref07_large.f farB
  by_cases h : 1000000000000000 < a <;> simp [h]

/-! ### what muldiv comes to in Scale -/
theorem md_neg (a : Int) (b c : Nat) (hb : 0 < b) : (decide (a.natAbs * (b : Int).natAbs ≠ 0) && ((decide (a < 0) != decide ((b : Int) < 0)) != decide ((c : Int) < 0))) = decide (a < 0) := by
  have h1 : ¬ (b : Int) < 0 := by omega
  have h2 : ¬ (c : Int) < 0 := by omega
  by_cases h : a < 0
  · have : a.natAbs * (b : Int).natAbs ≠ 0 := Nat.mul_ne_zero (by omega) (by omega)
    rw [decide_eq_true this]; simp [h, h1, h2]
  · simp [h, h1, h2]
theorem md_rnd (a m : Int) (T P : Nat) (hT : 0 < T) (hP : 0 < P) (ha : -1000000000000000 ≤ a) (hb : a ≤ 1000000000000000) (m1 : 1 ≤ m) (m5 : m ≤ 5) : mulDivS a (T : Int) ((T * P : Nat) : Int) m = (rnd a P m, 0) := by
  have hTP : 0 < T * P := Nat.mul_pos hT hP
  unfold mulDivS
  rw [if_neg (by omega), if_neg (by omega), md_neg a T (T * P) hT, Int.natAbs_natCast, Int.natAbs_natCast, Nat.mul_comm a.natAbs T, Nat.mul_div_mul_left _ _ hT, Nat.mul_mod_mul_left]
  have hx : a.natAbs ≤ 1000000000000000 := by omega
  have hd := Nat.div_add_mod a.natAbs P
  have hl := Nat.mod_lt a.natAbs hP
  have hq : a.natAbs / P ≤ 1000000000000000 := Nat.le_trans (Nat.div_le_self _ _) hx
  have haw : ∀ neg odd, mdAway m neg odd (T * (a.natAbs % P)) (T * P) = mdAway m neg odd (a.natAbs % P) P := by
    intro neg odd
    unfold mdAway
    rw [← Nat.mul_sub]
    have e1 : (T * (a.natAbs % P) ≠ 0) ↔ (a.natAbs % P ≠ 0) := by rw [Nat.mul_ne_zero_iff]; exact ⟨fun h => h.2, fun h => ⟨by omega, h⟩⟩
    have e2 : ∀ x y, (T * x ≤ T * y) ↔ x ≤ y := fun x y => Nat.mul_le_mul_left_iff hT
    have e3 : ∀ x y, (T * x < T * y) ↔ x < y := fun x y => Nat.mul_lt_mul_left hT
    have e4 : ∀ x y, (T * x = T * y) ↔ x = y := fun x y => Nat.mul_right_inj (by omega)
    simp only [e1, e2, e3, e4]
  rw [haw]
  unfold rnd
  generalize hQ : a.natAbs / P = Q at *
  generalize hR : a.natAbs % P = R at *
  clear haw hQ hR
  by_cases hn : a < 0
  · by_cases hr : R = 0
    · obtain ⟨e1, e2⟩ := ediv_unique (a := a) (p := (P : Int)) (q := -(Q : Int)) (r := 0) (by rw [Int.mul_neg, ← Int.natCast_mul]; omega) (by omega) (by omega)
      rw [e1, e2]
      subst hr
      have : rUp a (-(Q : Int)) 0 P m = false := by unfold rUp; rw [decide_eq_false_iff_not]; omega
      rw [this]
      simp [mdAway, mdSigned, hn]
      omega
    · obtain ⟨e1, e2⟩ := ediv_unique (a := a) (p := (P : Int)) (q := -(Q : Int) - 1) (r := (P : Int) - R) (by rw [Int.mul_sub, Int.mul_neg, ← Int.natCast_mul]; omega) (by omega) (by omega)
      rw [e1, e2]
      have hu : rUp a (-(Q : Int) - 1) ((P : Int) - R) P m = !mdAway m (decide (a < 0)) (decide (Q % 2 = 1)) R P := by
        unfold rUp mdAway
        rw [Bool.eq_iff_iff]
        simp [hn, hr]
        omega
      rw [hu]
      have hs : ∀ n : Nat, n ≤ 1000000000000001 → mdSigned true n = (-(n : Int), 0) := fun n h => by unfold mdSigned; rw [if_pos rfl, if_neg (by omega)]
      rw [decide_eq_true hn]
      cases mdAway m true (decide (Q % 2 = 1)) R P
      · rw [hs _ (by simp; omega)]; simp [Int.sub_add_cancel]
      · rw [hs _ (by simp; omega)]; simp; omega
  · obtain ⟨e1, e2⟩ := ediv_unique (a := a) (p := (P : Int)) (q := (Q : Int)) (r := (R : Int)) (by rw [← Int.natCast_mul]; omega) (by omega) (by omega)
    rw [e1, e2]
    have hu : rUp a (Q : Int) (R : Int) P m = mdAway m (decide (a < 0)) (decide (Q % 2 = 1)) R P := by
      unfold rUp mdAway
      rw [Bool.eq_iff_iff]
      simp [hn]
      omega
    rw [hu]
    cases mdAway m (decide (a < 0)) (decide (Q % 2 = 1)) R P <;> simp [mdSigned, hn] <;> omega
theorem md_mul (a m : Int) (T P : Nat) (hT : 0 < T) (hP : 0 < P) (hT2 : T ≤ 10000) (hP2 : P ≤ 10000) (ha : -1000000000000000 ≤ a) (hb : a ≤ 1000000000000000) (m1 : 1 ≤ m) (m5 : m ≤ 5) :
    (if (mulDivS a ((T * P : Nat) : Int) (T : Int) m).2 ≠ 0 ∨ farB (mulDivS a ((T * P : Nat) : Int) (T : Int) m).1 = true then (0, 4) else ((mulDivS a ((T * P : Nat) : Int) (T : Int) m).1, 0)) = if farB (a * P) = true then ((0, 4) : Int × Int) else (a * P, 0) := by
  have hTP : 0 < T * P := Nat.mul_pos hT hP
  have haw : ∀ neg odd, mdAway m neg odd 0 T = false := fun _ _ => by unfold mdAway; simp
  have hM : mulDivS a ((T * P : Nat) : Int) (T : Int) m = mdSigned (decide (a < 0)) (a.natAbs * P) := by
    unfold mulDivS
    rw [if_neg (by omega), if_neg (by omega), md_neg a (T * P) T hTP, Int.natAbs_natCast, Int.natAbs_natCast, show a.natAbs * (T * P) = T * (a.natAbs * P) by rw [← Nat.mul_assoc, Nat.mul_comm a.natAbs T, Nat.mul_assoc], Nat.mul_div_cancel_left _ hT, Nat.mul_mod_right, haw]
    simp
  rw [hM]
  have hx : a.natAbs * P ≤ 1000000000000000 * 10000 := Nat.mul_le_mul (by omega) hP2
  have hv : (a * P).natAbs = a.natAbs * P := by rw [Int.natAbs_mul, Int.natAbs_natCast]
  have hs : a < 0 ∨ 0 ≤ a := by omega
  generalize hX : a.natAbs * P = X at *
  rcases hs with hs | hs
  · have hz : a * P < 0 := Int.mul_neg_of_neg_of_pos hs (by omega)
    generalize a * P = Z at *
    obtain rfl : Z = -(X : Int) := by omega
    rw [decide_eq_true hs]
    by_cases h : 9223372036854775808 < X
    · have e1 : mdSigned true X = (0, 4) := by unfold mdSigned; rw [if_pos rfl, if_pos h]
      rw [e1, if_pos (.inl (by decide)), if_pos ((farB_iff _).mpr (by omega))]
    · have e1 : mdSigned true X = (-(X : Int), 0) := by unfold mdSigned; rw [if_pos rfl, if_neg h]
      rw [e1]; simp
  · have hz : 0 ≤ a * P := Int.mul_nonneg hs (by omega)
    generalize a * P = Z at *
    obtain rfl : Z = (X : Int) := by omega
    rw [decide_eq_false (by omega)]
    by_cases h : 9223372036854775808 ≤ X
    · have e1 : mdSigned false X = (0, 4) := by unfold mdSigned; rw [if_neg (by decide), if_pos h]
      rw [e1, if_pos (.inl (by decide)), if_pos ((farB_iff _).mpr (by omega))]
    · have e1 : mdSigned false X = ((X : Int), 0) := by unfold mdSigned; rw [if_neg (by decide), if_neg h]
      rw [e1]; simp

/-! ### Scale, as mathematics -/
def scaleM (a f t m : Int) : Int × Int := if m < 1 ∨ 5 < m then (0, 10) else if (fitsB f && fitsB t) = false then (0, 2) else if farB a = true then (0, 4) else
  if t ≤ f then (rnd a (pow10 (f - t).toNat) m, 0) else if farB (a * pow10 (t - f).toNat) = true then (0, 4) else (a * pow10 (t - f).toNat, 0)
theorem farB_not {a : Int} (h : farB a ≠ true) : -1000000000000000 ≤ a ∧ a ≤ 1000000000000000 := by
  rw [Ne, farB_iff] at h; omega
theorem farB_no {a : Int} (h : -1000000000000000 ≤ a) (h2 : a ≤ 1000000000000000) : farB a = false := by
  rw [Bool.eq_false_iff, Ne, farB_iff]; omega
theorem fits_both {f t : Int} (h : ¬ (fitsB f && fitsB t) = false) : 0 ≤ f ∧ f ≤ 4 ∧ 0 ≤ t ∧ t ≤ 4 := by
  rw [Bool.not_eq_false, Bool.and_eq_true, fitsB_iff, fitsB_iff] at h; omega
theorem pow10_pos (d : Nat) : 0 < pow10 d := by unfold pow10; have := Nat.pow_pos (n := d) (show 0 < 10 by decide); omega
theorem pow10_le {d : Nat} (h : d ≤ 4) : pow10 d ≤ 10000 := by unfold pow10; have := pow_le4 d h; omega
theorem rnd_small (a p m : Int) (hp : 0 < p) (ha : -1000000000000000 ≤ a) (hb : a ≤ 1000000000000000) : -1000000000000000 ≤ rnd a p m ∧ rnd a p m ≤ 1000000000000000 := by
  obtain ⟨b1, b2⟩ := ediv_small a p hp ha hb
  unfold rnd
  split
  · rename_i hu
    refine ⟨by omega, ?_⟩
    have h1 := Int.emod_nonneg a (show p ≠ 0 by omega)
    have h2 := Int.mul_ediv_add_emod a p
    by_cases hq : a / p = 1000000000000000
    · exfalso
      have hr : a % p = 0 := by
        rw [hq] at h2
        have : p * 1000000000000000 ≥ 1 * 1000000000000000 := Int.mul_le_mul_of_nonneg_right (by omega) (by decide)
        omega
      unfold rUp at hu
      rw [decide_eq_true_iff] at hu
      omega
    · omega
  · omega
theorem scaleS_eq (a f t m : Int) : scaleS a f t m = scaleM a f t m := by
  unfold scaleS scaleM
  by_cases h1 : m < 1 ∨ 5 < m
  · rw [if_pos h1, if_pos h1]
  rw [if_neg h1, if_neg h1]
  by_cases h2 : (fitsB f && fitsB t) = false
  · rw [if_pos h2, if_pos h2]
  rw [if_neg h2, if_neg h2]
  by_cases h3 : farB a = true
  · rw [if_pos h3, if_pos h3]
  rw [if_neg h3, if_neg h3]
  obtain ⟨f0, f4, t0, t4⟩ := fits_both h2
  obtain ⟨a0, a1⟩ := farB_not h3
  by_cases h4 : t ≤ f
  · rw [if_pos h4]
    have e : pow10 f.toNat = ((10 ^ t.toNat * 10 ^ (f - t).toNat : Nat) : Int) := by
      unfold pow10; rw [← Nat.pow_add]; congr 2; omega
    have e2 := md_rnd a m (10 ^ t.toNat) (10 ^ (f - t).toNat) (Nat.pow_pos (by decide)) (Nat.pow_pos (by decide)) a0 a1 (by omega) (by omega)
    rw [e, show pow10 t.toNat = ((10 ^ t.toNat : Nat) : Int) from rfl, e2]
    have := rnd_small a (pow10 (f - t).toNat) m (pow10_pos _) a0 a1
    rw [if_neg]
    · rfl
    · intro h
      rcases h with h | h
      · exact h rfl
      · rw [show ((rnd a ((10 ^ (f - t).toNat : Nat) : Int) m, (0 : Int))).1 = rnd a (pow10 (f - t).toNat) m from rfl, farB_no this.1 this.2] at h; cases h
  · rw [if_neg h4]
    have e : pow10 t.toNat = ((10 ^ f.toNat * 10 ^ (t - f).toNat : Nat) : Int) := by
      unfold pow10; rw [← Nat.pow_add]; congr 2; omega
    rw [e, show pow10 f.toNat = ((10 ^ f.toNat : Nat) : Int) from rfl]
    exact md_mul a m (10 ^ f.toNat) (10 ^ (t - f).toNat) (Nat.pow_pos (by decide)) (Nat.pow_pos (by decide)) (pow_le4 _ (by omega)).2 (pow_le4 _ (by omega)).2 a0 a1 (by omega) (by omega)
theorem ref07_Scale_j1 (a f t m : Int) (ha : I64 a) (hm : ¬ (m < 1 ∨ 5 < m)) (b : Bool) (hb : b = !(fitsB f && fitsB t)) : Ev (fun k => accountingref07_Scale.j1 k a f t m b) (scaleM a f t m) := by
  refine Ev.step (fun k => by rw [accountingref07_Scale.j1]) ?_
  unfold scaleM
  rw [if_neg hm]
  by_cases h2 : (fitsB f && fitsB t) = false
  · rw [h2] at hb; subst hb
    exact Ev.yes rfl (Ev.const (by rw [if_pos h2]))
  · rw [if_neg h2]
    rw [Bool.not_eq_false] at h2
    rw [h2] at hb; subst hb
    obtain ⟨f0, f4, t0, t4⟩ := fits_both (by rw [h2]; decide)
    refine Ev.no (by decide) ?_
    rw [ref07_large]
    simp only [Option.bind_some]
    by_cases h3 : farB a = true
    · rw [if_pos h3]; exact Ev.yes h3 (Ev.const rfl)
    · rw [if_neg h3]
      refine Ev.no h3 ?_
      obtain ⟨a0, a1⟩ := farB_not h3
      by_cases h4 : t ≤ f
      · rw [if_pos h4]
        refine Ev.yes h4 ?_
        rw [show wrap64 (f - t) = f - t by unfold wrap64; omega]
        refine Ev.bind (ref07_Power (f - t) (by omega) (by omega)) ?_
        refine Ev.bind (ref07_Round a (pow10 (f - t).toNat) m (pow10_pos _) (pow10_le (by omega)) a0 a1) ?_
        exact Ev.const rfl
      · rw [if_neg h4]
        refine Ev.no h4 ?_
        rw [show wrap64 (t - f) = t - f by unfold wrap64; omega]
        refine Ev.bind (ref07_Power (t - f) (by omega) (by omega)) ?_
        have hp := pow10_pos (t - f).toNat
        have hp2 := pow10_le (d := (t - f).toNat) (by omega)
        generalize pow10 (t - f).toNat = p at *
        refine Ev.bind (ref01_Mul a p ha (by unfold I64; omega)) ?_
        refine Ev.const ?_
        by_cases hf : I64 (a * p)
        · rw [show fit (a * p) = (a * p, true) by unfold fit; rw [if_pos hf]]
          simp only [ref07_large, Option.bind_some, if_true]
          by_cases h5 : farB (a * p) = true
          · rw [if_pos h5, if_pos h5]
          · rw [if_neg h5, if_neg h5]
        · rw [show fit (a * p) = (0, false) by unfold fit; rw [if_neg hf], if_pos ((farB_iff _).mpr (by unfold I64 at hf; omega))]
          rfl
theorem ref07_Scale (a f t m : Int) (ha : I64 a) : Ev (fun k => accountingref07_Scale.f k a f t m) (scaleM a f t m) := by
  have j0 : ∀ b, b = decide (m < 1 ∨ 5 < m) → Ev (fun k => accountingref07_Scale.j0 k a f t m b) (scaleM a f t m) := by
    intro b hb
    refine Ev.step (fun k => by rw [accountingref07_Scale.j0]) ?_
    by_cases h1 : m < 1 ∨ 5 < m
    · rw [decide_eq_true h1] at hb; subst hb
      exact Ev.yes rfl (Ev.const (by unfold scaleM; rw [if_pos h1]))
    · rw [decide_eq_false h1] at hb; subst hb
      refine Ev.no (by decide) ?_
      have key := ref07_Scale_j1 a f t m ha h1
      refine Ev.both (fun h => key true (by simp [fitsB]; omega)) (fun h => Ev.both (fun h2 => key true (by simp [fitsB]; omega)) (fun h2 => Ev.both (fun h3 => key true (by simp [fitsB]; omega)) (fun h3 => key _ (by rw [Bool.eq_iff_iff]; simp [fitsB]; omega))))
  unfold accountingref07_Scale.f
  refine Ev.both (fun h => j0 true (by simp [h])) (fun h => j0 _ (by simp [h]))
end Go.Proofs.YthmpapnhomngnaaDoor.A
