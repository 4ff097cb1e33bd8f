import Derived.OpenShut
import Derived.Lib.IndexBytes
import Derived.Test.YthmpapnhomngnaaDoorAx2
import Derived.Test.YthmpapnhomngnaaDoorAx5
import Derived.Test.YthmpapnhomngnaaDoorAx9
import Derived.Test.YthmpapnhomngnaaDoorAx10
import Derived.Test.YthmpapnhomngnaaDoorAx11
import Derived.Test.YthmpapnhomngnaaDoorAx12
import Derived.Test.YthmpapnhomngnaaDoorAx17
namespace Go.Proofs.YthmpapnhomngnaaDoor.A
open Go.RowKit Go.Proofs.YthmpapnhomngnaaDoor.B Go.Proofs.YthmpapnhomngnaaDoorW.PrintWords Go.Proofs.YthmpapnhomngnaaDoorW.PrintLast Go.Proofs.YthmpapnhomngnaaDoorW.PrintMore

theorem i64_of {a : Int} (h : (Lit.int .i64 a).wf = true) : I64 a := bounds_i64 h

/-! ### the reference of num, as mathematics -/
theorem ref01_Add (a b : Int) (ha : I64 a) (hb : I64 b) : accountingref01_Add.f a b = some (fit (a + b)) := by
  unfold accountingref01_Add.f
  unfold I64 at ha hb
  by_cases h1 : b > 0
  · rw [if_pos h1]
    have e : wrap64 (9223372036854775807 - b) = 9223372036854775807 - b := by unfold wrap64; omega
    rw [e]
    by_cases h2 : a > 9223372036854775807 - b
    · rw [if_pos h2, fit_no (by unfold I64; omega)]
    · rw [if_neg h2, if_neg (by omega), fit_yes (by unfold I64; omega)]
      congr 2; unfold wrap64; omega
  · rw [if_neg h1]
    by_cases h3 : b < 0
    · rw [if_pos h3]
      have e : wrap64 ((-9223372036854775808) - b) = (-9223372036854775808) - b := by unfold wrap64; omega
      rw [e]
      by_cases h2 : a < (-9223372036854775808) - b
      · rw [if_pos h2, fit_no (by unfold I64; omega)]
      · rw [if_neg h2, fit_yes (by unfold I64; omega)]
        congr 2; unfold wrap64; omega
    · rw [if_neg h3, fit_yes (by unfold I64; omega)]
      congr 2; unfold wrap64; omega
theorem num_Mul_eq (a b : Int) (ha : I64 a) (hb : I64 b) : num_Mul.f a b = some (fit (a * b)) := by
  unfold num_Mul.f; rw [if_pos ⟨ha, hb⟩]
theorem ref01_size (a : Int) (ha : I64 a) : accountingref01_size.f a = some (a.natAbs : Int) := by
  unfold accountingref01_size.f
  unfold I64 at ha
  simp only [wu64]
  by_cases h : a < 0
  · rw [if_pos h]; congr 1; omega
  · rw [if_neg h]; congr 1; omega
theorem wrap64_in {x : Int} (h : I64 x) : wrap64 x = x := by unfold I64 at h; unfold wrap64; omega
theorem wrap64_neg_wrap (p : Int) (h0 : 0 ≤ p) (h1 : p ≤ 9223372036854775808) : wrap64 (-(wrap64 p)) = -p := by
  by_cases h : p = 9223372036854775808
  · subst h; rw [show wrap64 9223372036854775808 = -9223372036854775808 by unfold wrap64; omega]; unfold wrap64; omega
  · rw [wrap64_in (x := p) ⟨by omega, by omega⟩, wrap64_in ⟨by omega, by omega⟩]
theorem of_natAbs_nonneg {z : Int} {p : Nat} (h : z.natAbs = p) (hz : 0 ≤ z) : (p : Int) = z := by omega
theorem of_natAbs_nonpos {z : Int} {p : Nat} (h : z.natAbs = p) (hz : z ≤ 0) : -(p : Int) = z := by omega
theorem div_wrap (L y : Nat) (h : L ≤ 9223372036854775808) : IntKind.u64.wrap (Int.tdiv (L : Int) (y : Int)) = ((L / y : Nat) : Int) := by
  rw [Int.tdiv_eq_ediv_of_nonneg (by omega), ← Int.natCast_ediv, wu64]
  have := Nat.div_le_self L y
  generalize L / y = q at *
  omega
theorem ref01_Mul_sign (a b : Int) (ha : I64 a) (hb : I64 b) (s : Bool) (hs : s = true ↔ (a < 0 ∧ b > 0 ∨ a > 0 ∧ b < 0)) : Ev (fun k => accountingref01_Mul.j0 k (a.natAbs : Int) (b.natAbs : Int) s) (fit (a * b)) := by
  unfold I64 at ha hb
  have hp := natAbs_mul' a b
  -- the sign of the product
  have hsg : (s = true → a * b ≤ 0) ∧ (s = false → 0 ≤ a * b) := by
    constructor
    · intro h
      rcases hs.mp h with ⟨h1, h2⟩ | ⟨h1, h2⟩
      · exact Int.mul_nonpos_of_nonpos_of_nonneg (by omega) (by omega)
      · exact Int.mul_nonpos_of_nonneg_of_nonpos (by omega) (by omega)
    · intro h
      have hn : ¬ (a < 0 ∧ b > 0 ∨ a > 0 ∧ b < 0) := by rw [← hs, h]; decide
      rcases Int.lt_trichotomy a 0 with h1 | h1 | h1
      · exact Int.mul_nonneg_of_nonpos_of_nonpos (by omega) (by omega)
      · rw [h1]; simp
      · exact Int.mul_nonneg (by omega) (by omega)
  obtain ⟨x, hx⟩ : ∃ x : Nat, x = a.natAbs := ⟨_, rfl⟩
  obtain ⟨y, hy⟩ : ∃ y : Nat, y = b.natAbs := ⟨_, rfl⟩
  rw [← hx, ← hy] at hp ⊢
  have hxb : x ≤ 9223372036854775808 := by omega
  have hyb : y ≤ 9223372036854775808 := by omega
  -- the last part
  have last : ∀ L : Nat, L ≤ 9223372036854775808 → (s = true → L = 9223372036854775808) → (s = false → L = 9223372036854775807) →
      Ev (fun k => accountingref01_Mul.j1 k (x : Int) (y : Int) s (L : Int)) (fit (a * b)) := by
    intro L hL hL1 hL2
    have fin : ∀ t : Bool, (t = true ↔ ¬ x * y ≤ L) → Ev (fun k => accountingref01_Mul.j2 k (x : Int) (y : Int) s t) (fit (a * b)) := by
      intro t ht
      refine Ev.step (fun k => by rw [accountingref01_Mul.j2]) ?_
      refine Ev.both (fun h => Ev.is ?_) (fun h => ?_)
      · have h2 := ht.mp h
        rw [fit_no]
        unfold I64
        cases s
        · have := hsg.2 rfl; have := hL2 rfl; omega
        · have := hsg.1 rfl; have := hL1 rfl; omega
      · have h2 : x * y ≤ L := by
          rcases Nat.lt_or_ge L (x * y) with h3 | h3
          · exact absurd (ht.mpr (by omega)) h
          · exact h3
        have e1 : IntKind.u64.wrap ((x : Int) * (y : Int)) = ((x * y : Nat) : Int) := by rw [wu64, ← Int.natCast_mul]; omega
        rw [e1]
        generalize x * y = p at *
        cases s
        · have h3 := of_natAbs_nonneg hp (hsg.2 rfl)
          have h4 := hL2 rfl
          refine Ev.no (by decide) (Ev.is ?_)
          have hI : I64 (p : Int) := ⟨by omega, by omega⟩
          rw [wrap64_in hI, ← h3, fit_yes hI]
        · have h3 := of_natAbs_nonpos hp (hsg.1 rfl)
          have h4 := hL1 rfl
          refine Ev.yes rfl (Ev.is ?_)
          rw [wrap64_neg_wrap p (by omega) (by omega), h3, fit_yes (by rw [← h3]; exact ⟨by omega, by omega⟩)]
    refine Ev.step (fun k => by rw [accountingref01_Mul.j1]) ?_
    refine Ev.both (fun h => ?_) (fun h => ?_)
    · refine Ev.no (by omega) ?_
      have e2 := div_wrap L y hL
      rw [e2]
      refine fin _ ?_
      rw [decide_eq_true_iff]
      have key : x ≤ L / y ↔ x * y ≤ L := Nat.le_div_iff_mul_le (by omega)
      rw [← key]; omega
    · have hy0 : y = 0 := by omega
      refine fin false ?_
      simp [hy0]
  refine Ev.step (fun k => by rw [accountingref01_Mul.j0]) ?_
  refine Ev.both (fun h => ?_) (fun h => ?_)
  · exact last 9223372036854775808 (by omega) (fun _ => rfl) (fun h2 => by rw [h2] at h; cases h)
  · rw [Bool.not_eq_true] at h
    exact last 9223372036854775807 (by omega) (fun h2 => by rw [h2] at h; cases h) (fun _ => rfl)
theorem ref01_Mul (a b : Int) (ha : I64 a) (hb : I64 b) : Ev (fun k => accountingref01_Mul.f k a b) (fit (a * b)) := by
  have key := ref01_Mul_sign a b ha hb
  unfold accountingref01_Mul.f
  rw [ref01_size a ha, ref01_size b hb]
  simp only [Option.bind_some]
  refine Ev.both (fun h1 => Ev.both (fun h2 => key true (by simp; omega)) (fun h2 => Ev.both (fun h3 => by omega) (fun h3 => key false (by simp; omega)))) (fun h1 => Ev.both (fun h2 => key _ (by rw [decide_eq_true_iff]; omega)) (fun h2 => key false (by simp; omega)))

/-! ### the reference's Text -/
theorem nDigits_le : ∀ (k u : Nat), u < 10 ^ (k + 1) → Lib.nDigits u ≤ k + 1
  | 0, u, h => by rw [Lib.nDigits_small (by simpa using h)]; exact Nat.le_refl _
  | k + 1, u, h => by
    by_cases hu : u < 10
    · rw [Lib.nDigits_small hu]; omega
    · rw [Lib.nDigits_big hu]
      have := nDigits_le k (u / 10) (by rw [Nat.pow_succ] at h; omega)
      omega
theorem digit_piece_fin : ∀ d : Fin 10, ((⟨#[48, 49, 50, 51, 52, 53, 54, 55, 56, 57]⟩ : ByteArray).extract d.val (d.val + 1)).data.toList = [UInt8.ofNat (48 + d.val)] := by decide +kernel
theorem digit_piece (d : Nat) (h : d < 10) : ((⟨#[48, 49, 50, 51, 52, 53, 54, 55, 56, 57]⟩ : ByteArray).extract d (d + 1)).data.toList = [UInt8.ofNat (48 + d)] := digit_piece_fin ⟨d, h⟩
theorem ba_ext {s t : ByteArray} (h : s.data.toList = t.data.toList) : s = t := by
  cases s; cases t; simp only [ByteArray.mk.injEq]; exact Array.toList_inj.mp h
theorem ba_of {s : ByteArray} {l : List UInt8} (h : s.data.toList = l) : s = ⟨l.toArray⟩ := ba_ext (by rw [h])
theorem ba_append (s t : ByteArray) : (s ++ t).data.toList = s.data.toList ++ t.data.toList := by simp
theorem tdiv_natAbs (m : Int) : (Int.tdiv m 10).natAbs = m.natAbs / 10 := by rw [Int.natAbs_tdiv]; rfl
theorem tdiv_i64 {m : Int} (h : I64 m) : I64 (Int.tdiv m 10) := by
  have := tdiv_natAbs m
  unfold I64 at *; omega
/-- What the loop of the reference's Text comes to. -/
def tail01 (n : Int) (l : List UInt8) : List UInt8 := if n < 0 then 45 :: l else l
theorem ref01_Text_end (n m : Int) (s : ByteArray) (hs : s.size ≤ 100) : Ev (fun k => accountingref01_Text.j1 k n s m false) ⟨(tail01 n s.data.toList).toArray⟩ := by
  refine Ev.step (fun k => by rw [accountingref01_Text.j1]) ?_
  refine Ev.no (by decide) (Ev.both (fun h => Ev.yes (by omega) (Ev.is ?_)) (fun h => Ev.is ?_))
  · exact ba_of (by rw [ba_append, tail01, if_pos h]; rfl)
  · exact ba_of (by rw [tail01, if_neg h])
theorem ref01_Text_next (n m : Int) (s : ByteArray) (hs : s.size ≤ 100) (hm : I64 m) {r : ByteArray} {s' : ByteArray} (hs' : s'.data.toList = UInt8.ofNat (48 + m.natAbs % 10) :: s.data.toList)
    (h : Ev (fun k => accountingref01_Text.l0 k n s' (Int.tdiv m 10)) r) : Ev (fun k => accountingref01_Text.j1 k n s m true) r := by
  have hd := digit_piece (m.natAbs % 10) (by omega)
  have hI : I64 (Int.tdiv m 10) := tdiv_i64 hm
  have hw : wrap64 (Int.tdiv m 10) = Int.tdiv m 10 := wrap64_in hI
  have hmod : Int.tmod m 10 = if m < 0 then -((m.natAbs % 10 : Nat) : Int) else ((m.natAbs % 10 : Nat) : Int) := by
    split
    · rename_i h0
      rw [← Int.neg_neg m, Int.neg_tmod, Int.tmod_eq_emod_of_nonneg (by omega)]; omega
    · rw [Int.tmod_eq_emod_of_nonneg (by omega)]; omega
  refine Ev.step (fun k => by rw [accountingref01_Text.j1]) ?_
  refine Ev.yes rfl ?_
  rw [hmod, hw]
  obtain ⟨d, hdd⟩ : ∃ d, d = m.natAbs % 10 := ⟨_, rfl⟩
  have hd10 : d < 10 := by omega
  rw [← hdd] at hd hs' ⊢
  have w2 : wrap64 ((d : Int) + 1) = ((d + 1 : Nat) : Int) := by rw [wrap64_in (by unfold I64; omega)]; omega
  have hz : ((⟨#[48, 49, 50, 51, 52, 53, 54, 55, 56, 57]⟩ : ByteArray).extract d (d + 1)).size = 1 := by rw [size_eq', hd]; rfl
  have es : (⟨#[48, 49, 50, 51, 52, 53, 54, 55, 56, 57]⟩ : ByteArray).extract d (d + 1) ++ s = s' := ba_ext (by rw [ba_append, hd, hs']; rfl)
  by_cases hneg : (if m < 0 then -(d : Int) else (d : Int)) < 0
  · have hval : (if m < 0 then -(d : Int) else (d : Int)) = -(d : Int) := by split at hneg <;> rename_i h0 <;> simp only [h0, if_true, if_false] <;> omega
    rw [hval] at hneg ⊢
    have w1 : wrap64 (-(-(d : Int))) = (d : Int) := by rw [wrap64_in (by unfold I64; omega)]; omega
    rw [w1, w2]
    refine Ev.yes hneg (Ev.yes (by omega) (Ev.yes (by omega) (Ev.yes (by omega) ?_)))
    rw [Int.toNat_natCast, Int.toNat_natCast, es, hz]
    exact Ev.yes (by omega) h
  · have hval : (if m < 0 then -(d : Int) else (d : Int)) = (d : Int) := by split at hneg <;> rename_i h0 <;> simp only [h0, if_true, if_false] <;> omega
    rw [hval] at hneg ⊢
    rw [w2]
    refine Ev.no hneg (Ev.yes (by omega) (Ev.yes (by omega) (Ev.yes (by omega) ?_)))
    rw [Int.toNat_natCast, Int.toNat_natCast, es, hz]
    exact Ev.yes (by omega) h
theorem ref01_Text_loop (n : Int) : ∀ (u : Nat) (m : Int) (s : ByteArray), m.natAbs = u → I64 m → s.size + Lib.nDigits u ≤ 99 → (u ≠ 0 ∨ s.data.toList = []) →
    Ev (fun k => accountingref01_Text.l0 k n s m) ⟨(tail01 n (Lib.decDigits u ++ s.data.toList)).toArray⟩ := by
  intro u
  induction u using Nat.strongRecOn with
  | _ u ih =>
  intro m s hu hm hsz hne
  have hpos := Lib.nDigits_pos u
  have hgo : Ev (fun k => accountingref01_Text.j1 k n s m true) ⟨(tail01 n (Lib.decDigits u ++ s.data.toList)).toArray⟩ := by
    obtain ⟨s', hs'⟩ : ∃ s' : ByteArray, s'.data.toList = UInt8.ofNat (48 + m.natAbs % 10) :: s.data.toList := ⟨⟨(UInt8.ofNat (48 + m.natAbs % 10) :: s.data.toList).toArray⟩, by simp⟩
    have hsz' : s'.size = s.size + 1 := by rw [size_eq', hs', List.length_cons, ← size_eq']
    refine ref01_Text_next n m s (by omega) hm hs' ?_
    by_cases hsmall : u < 10
    · -- the last digit
      have hz : Int.tdiv m 10 = 0 := by have := tdiv_natAbs m; omega
      rw [hz]
      refine Ev.step (fun k => by rw [accountingref01_Text.l0]) ?_
      refine Ev.yes rfl ?_
      rw [ByteArray.toList_eq, hs', show ((UInt8.ofNat (48 + m.natAbs % 10) :: s.data.toList) == ([] : List UInt8)) = false from rfl]
      have := ref01_Text_end n 0 s' (by omega)
      rw [hs'] at this
      rw [Lib.decDigits_one hsmall, hu, Nat.mod_eq_of_lt hsmall] at *
      exact this
    · have hb := Lib.nDigits_big hsmall
      have := ih (u / 10) (by omega) (Int.tdiv m 10) s' (by rw [tdiv_natAbs, hu]) (tdiv_i64 hm) (by omega) (.inl (by omega))
      rw [hs', hu] at this
      rw [Lib.decDigits, dif_neg hsmall, List.append_assoc]
      exact this
  refine Ev.step (fun k => by rw [accountingref01_Text.l0]) ?_
  refine Ev.both (fun h => ?_) (fun h => hgo)
  have : s.data.toList = [] := by
    rcases hne with h1 | h1
    · omega
    · exact h1
  have e : (s.toList == ([] : List UInt8)) = true := by rw [ByteArray.toList_eq, this]; rfl
  rw [e]
  exact hgo
theorem ref01_Text (n : Int) (h : I64 n) : Ev (fun k => accountingref01_Text.f k n) ⟨(Lib.itoa n).toArray⟩ := by
  have hn : Lib.nDigits n.natAbs ≤ 19 := nDigits_le 18 n.natAbs (by unfold I64 at h; omega)
  have := ref01_Text_loop n n.natAbs n (⟨#[]⟩ : ByteArray) rfl h (by show 0 + _ ≤ 99; omega) (.inr rfl)
  unfold accountingref01_Text.f
  have e : tail01 n (Lib.decDigits n.natAbs ++ (⟨#[]⟩ : ByteArray).data.toList) = Lib.itoa n := by
    unfold tail01
    by_cases h0 : n < 0
    · rw [if_pos h0, itoa_neg' h0]; simp
    · rw [if_neg h0, itoa_pos h0]; simp
  rw [e] at this
  exact this

/-! ### the reference's Digits and Parse -/
theorem ref01_Digits_l0 (s : ByteArray) (hs : s.size ≤ 140737488351232) (d : Nat) : ∀ i : Nat, i + d = s.size → Ev (fun k => accountingref01_Digits.l0 k s (i : Int)) ((s.data.toList.drop i).all isDig && s.data.toList != []) := by
  induction d with
  | zero =>
    intro i hi
    refine Ev.step (fun k => by rw [accountingref01_Digits.l0]) ?_
    refine Ev.no (by omega) (Ev.is ?_)
    rw [List.drop_eq_nil_of_le (by rw [← size_eq']; omega), ByteArray.toList_eq]; rfl
  | succ d ih =>
    intro i hi
    have hl : i < s.data.toList.length := by rw [← size_eq']; omega
    have hd : s.data.toList.drop i = s.data.toList[i] :: s.data.toList.drop (i + 1) := List.drop_eq_getElem_cons hl
    have hb : bt s (i : Int) = (s.data.toList[i].toNat : Int) := by rw [bt_eq, Int.toNat_natCast, List.getD_eq_getElem?_getD, List.getElem?_eq_getElem hl]; rfl
    have hc := isDig_iff s.data.toList[i]
    rw [← hb] at hc
    refine Ev.step (fun k => by rw [accountingref01_Digits.l0]) ?_
    refine Ev.yes (by omega) (Ev.yes (by omega) (Ev.both (fun h => Ev.is ?_) (fun h => Ev.both (fun h2 => Ev.is ?_) (fun h2 => ?_))))
    · rw [hd, List.all_cons]
      have : isDig s.data.toList[i] = false := by rw [← Bool.not_eq_true, hc]; omega
      rw [this]; rfl
    · rw [hd, List.all_cons]
      have : isDig s.data.toList[i] = false := by rw [← Bool.not_eq_true, hc]; omega
      rw [this]; rfl
    · rw [hd, List.all_cons, hc.mpr ⟨by omega, by omega⟩, Bool.true_and, show wrap64 ((i : Int) + 1) = ((i + 1 : Nat) : Int) by unfold wrap64; omega]
      exact ih (i + 1) (by omega)
theorem ref01_Digits (s : ByteArray) (hs : s.size ≤ 140737488351232) : Ev (fun k => accountingref01_Digits.f k s) (s.data.toList.all isDig && s.data.toList != []) :=
  ref01_Digits_l0 s hs s.size 0 (by omega)

/-- What the reference's loop keeps. -/
theorem ref01_Parse_l0 (lo hi : Int) (m : ByteArray) (hs : m.size ≤ 140737488351232) (neg : Bool) (hall : m.data.toList.all isDig = true) (d : Nat) : ∀ (i : Nat) (n : Int), i + d = m.size → I64 n → n = sgn neg (dval (m.data.toList.take i)) →
    Ev (fun k => accountingref01_Parse.l0 k lo hi m neg n (i : Int)) (if I64 (sgn neg (dval m.data.toList)) ∧ lo ≤ sgn neg (dval m.data.toList) ∧ sgn neg (dval m.data.toList) ≤ hi then (sgn neg (dval m.data.toList), 0) else (0, 3)) := by
  induction d with
  | zero =>
    intro i n hi hn he
    rw [List.take_of_length_le (by rw [← size_eq']; omega)] at he
    rw [← he]
    refine Ev.step (fun k => by rw [accountingref01_Parse.l0]) ?_
    refine Ev.no (by omega) (Ev.both (fun h => Ev.is ?_) (fun h => Ev.both (fun h2 => Ev.is ?_) (fun h2 => Ev.is ?_)))
    · rw [if_neg (fun hh => by omega)]
    · rw [if_neg (fun hh => by omega)]
    · rw [if_pos ⟨hn, by omega, by omega⟩]
  | succ d ih =>
    intro i n hi hn he
    have hl : i < m.data.toList.length := by rw [← size_eq']; omega
    have hb : bt m (i : Int) = (m.data.toList[i].toNat : Int) := by rw [bt_eq, Int.toNat_natCast, List.getD_eq_getElem?_getD, List.getElem?_eq_getElem hl]; rfl
    have hdig := (isDig_iff _).mp (List.all_eq_true.mp hall _ (List.getElem_mem hl))
    have hmod : (bt m (i : Int) - 48) % 256 = ((m.data.toList[i].toNat : Int) - 48) := by rw [hb]; omega
    have hw : wrap64 ((i : Int) + 1) = ((i + 1 : Nat) : Int) := by unfold wrap64; omega
    have hP : PInv neg m.data.toList i n true := .inl ⟨rfl, he, hn⟩
    refine Ev.step (fun k => by rw [accountingref01_Parse.l0]) ?_
    refine Ev.yes (by omega) ?_
    refine Ev.bind (ref01_Mul n 10 hn (by unfold I64; omega)) ?_
    by_cases hm : I64 (n * 10)
    · rw [fit_yes hm]
      refine Ev.yes rfl (Ev.yes (by omega) ?_)
      rw [hmod, hw]
      cases neg
      · refine Ev.no (by decide) ?_
        simp only [ref01_Add (n * 10) _ hm (show I64 ((m.data.toList[i].toNat : Int) - 48) by unfold I64; omega), Option.bind_some]
        have hN := PInv.next hP hl (List.all_eq_true.mp hall _ (List.getElem_mem hl)) (x := n * 10 + ((m.data.toList[i].toNat : Int) - 48)) rfl
        rcases hN with ⟨h1, h2, h3⟩ | ⟨h1, h2, h3⟩
        · rw [h1]
          exact Ev.yes rfl (ih (i + 1) _ (by omega) h3 h2)
        · rw [h1]
          refine Ev.no (by decide) (Ev.is ?_)
          rw [if_neg]
          intro hh
          have := sgn_big_append false (m.data.toList.take (i + 1)) (m.data.toList.drop (i + 1)) h3
          rw [List.take_append_drop] at this
          exact this hh.1
      · refine Ev.yes rfl ?_
        simp only [ref01_Add (n * 10) _ hm (show I64 (-((m.data.toList[i].toNat : Int) - 48)) by unfold I64; omega), Option.bind_some]
        have hN := PInv.next hP hl (List.all_eq_true.mp hall _ (List.getElem_mem hl)) (x := n * 10 + -((m.data.toList[i].toNat : Int) - 48)) (by rw [← Int.sub_eq_add_neg]; rfl)
        rcases hN with ⟨h1, h2, h3⟩ | ⟨h1, h2, h3⟩
        · rw [h1]
          exact Ev.yes rfl (ih (i + 1) _ (by omega) h3 h2)
        · rw [h1]
          refine Ev.no (by decide) (Ev.is ?_)
          rw [if_neg]
          intro hh
          have := sgn_big_append true (m.data.toList.take (i + 1)) (m.data.toList.drop (i + 1)) h3
          rw [List.take_append_drop] at this
          exact this hh.1
    · rw [fit_no hm]
      refine Ev.no (by decide) (Ev.is ?_)
      have h3 := PInv.over hP hl hm
      rw [if_neg]
      intro hh
      exact h3.stop hh.1
theorem ref01_Parse_j1 (lo hi : Int) (m : ByteArray) (hs : m.size ≤ 140737488351232) (neg : Bool) :
    Ev (fun k => accountingref01_Parse.j1 k lo hi m neg) (if formedM m.data.toList neg = true then (if I64 (sgn neg (dval m.data.toList)) ∧ lo ≤ sgn neg (dval m.data.toList) ∧ sgn neg (dval m.data.toList) ≤ hi then (sgn neg (dval m.data.toList), 0) else (0, 3)) else (0, 5)) := by
  have hj2 : ∀ t : Bool, (m.data.toList.all isDig = true ∨ t = true) → Ev (fun k => accountingref01_Parse.j2 k lo hi m neg t) (if t = true then (0, 5) else (if I64 (sgn neg (dval m.data.toList)) ∧ lo ≤ sgn neg (dval m.data.toList) ∧ sgn neg (dval m.data.toList) ≤ hi then (sgn neg (dval m.data.toList), 0) else (0, 3))) := by
    intro t ht
    refine Ev.step (fun k => by rw [accountingref01_Parse.j2]) ?_
    cases t
    · refine Ev.no (by decide) ?_
      exact ref01_Parse_l0 lo hi m hs neg (by simpa using ht) m.size 0 0 (by omega) (by unfold I64; omega) (by cases neg <;> rfl)
    · exact Ev.yes rfl (Ev.now _)
  have hsz := size_eq' m
  refine Ev.step (fun k => by rw [accountingref01_Parse.j1]) ?_
  refine Ev.bind (ref01_Digits m hs) ?_
  have hb : bt m 0 = ((m.data.toList.getD 0 0).toNat : Int) := bt_eq m 0
  cases hl : m.data.toList with
  | nil =>
    rw [hl] at hj2
    exact Ev.no (by simp) (hj2 true (.inr rfl))
  | cons c r =>
    rw [hl] at hj2 hsz hb
    rw [List.length_cons] at hsz
    have hne : ((c :: r) != ([] : List UInt8)) = true := rfl
    rw [hne, Bool.and_true]
    have ef : formedM (c :: r) neg = (!(c == 48 && (neg || decide (1 < (c :: r).length))) && (c :: r).all isDig) := by simp [formedM]
    rw [ef]
    have h48 : bt m 0 = 48 ↔ (c == 48) = true := by rw [hb, beq_iff_eq]; exact byte_is c 48
    refine Ev.both (fun h => ?_) (fun h => ?_)
    · rw [h, Bool.and_true]
      refine Ev.yes (by omega) (Ev.both (fun h0 => ?_) (fun h0 => ?_))
      · rw [h48.mp h0]
        refine Ev.both (fun h1 => ?_) (fun h1 => ?_)
        · have := hj2 true (.inr rfl)
          rw [show decide (1 < (c :: r).length) = true by rw [decide_eq_true_iff, List.length_cons]; omega]
          simpa using this
        · have := hj2 neg (.inl h)
          rw [show decide (1 < (c :: r).length) = false by rw [decide_eq_false_iff_not, List.length_cons]; omega]
          cases neg <;> simpa using this
      · have := hj2 false (.inl h)
        rw [Bool.not_eq_true _ |>.mp (fun hh => h0 (h48.mpr hh))]
        simpa using this
    · have := hj2 true (.inr rfl)
      rw [Bool.not_eq_true _ |>.mp h]
      simpa using this
theorem parseL_eq (l : List UInt8) (lo hi : Int) : parseL l lo hi = (if formedM (magOf l) (negOf l) = true then (if I64 (sgn (negOf l) (dval (magOf l))) ∧ lo ≤ sgn (negOf l) (dval (magOf l)) ∧ sgn (negOf l) (dval (magOf l)) ≤ hi then (sgn (negOf l) (dval (magOf l)), 0) else (0, 3)) else (0, 5)) := rfl
theorem ref01_Parse (s : ByteArray) (lo hi : Int) (hs : s.size ≤ 140737488351232) : Ev (fun k => accountingref01_Parse.f k s lo hi) (parseL s.data.toList lo hi) := by
  have hx := Lib.extract_to_end s 1
  have hsz := size_eq' s
  have hxs : (s.extract 1 s.size).size ≤ 140737488351232 := by rw [size_eq', hx, List.length_drop]; omega
  have key : Ev (fun k => accountingref01_Parse.j0 k s lo hi s (negOf s.data.toList)) (parseL s.data.toList lo hi) := by
    refine Ev.step (fun k => by rw [accountingref01_Parse.j0]) ?_
    refine Ev.both (fun h => ?_) (fun h => ?_)
    · have hp : 1 ≤ s.size := by
        rw [hsz]; cases hl : s.data.toList with
        | nil => rw [hl] at h; simp [negOf] at h
        | cons c r => simp
      refine Ev.yes (by omega) ?_
      have := ref01_Parse_j1 lo hi (s.extract 1 s.size) hxs (negOf s.data.toList)
      rw [hx] at this
      have hm : magOf s.data.toList = s.data.toList.drop 1 := by simp [magOf, h]
      rw [parseL_eq, hm]
      exact this
    · have := ref01_Parse_j1 lo hi s hs (negOf s.data.toList)
      have hm : magOf s.data.toList = s.data.toList := by simp [magOf, h]
      rw [parseL_eq, hm]
      exact this
  unfold accountingref01_Parse.f
  rw [ByteArray.toList_eq]
  cases hl : s.data.toList with
  | nil =>
    refine Ev.yes rfl ?_
    rw [hl] at key
    exact key
  | cons c r =>
    refine Ev.no (by simp) (Ev.yes (by rw [hsz, hl, List.length_cons]; omega) ?_)
    have hb : bt s 0 = (c.toNat : Int) := by rw [bt_eq, hl]; rfl
    have e : (bt s 0 == 45) = negOf (c :: r) := by
      rw [hb]
      simp only [negOf, List.head?_cons]
      rw [Bool.eq_iff_iff, beq_iff_eq, beq_iff_eq, Option.some_inj]
      exact byte_is c 45
    rw [hl] at key
    rw [e]
    exact key

/-! ### the reference's Sum -/
theorem i64_and32 (n : Int) : bits .and .i64 n 4294967295 = n % 4294967296 := by
  have h32 : (BitVec.ofInt 64 4294967295).toNat = 2 ^ 32 - 1 := by decide
  have key : (BitVec.ofInt 64 n &&& BitVec.ofInt 64 4294967295).toNat = (n % ((2 ^ 64 : Nat) : Int)).toNat % 2 ^ 32 := by
    rw [BitVec.toNat_and, BitVec.toNat_ofInt, h32, Nat.and_two_pow_sub_one_eq_mod]
  show IntKind.i64.wrap ((BitVec.ofInt 64 n &&& BitVec.ofInt 64 4294967295).toNat : Nat) = n % 4294967296
  rw [key, IntKind.wrap_i64]
  omega
theorem ref01_Sum_end (S h w : Int) (he : h * 4294967296 + w = S) (hh : -4294967296000 ≤ h ∧ h ≤ 4294967296000) (hw : 0 ≤ w ∧ w ≤ 8589934592000) :
    (if (wrap64 (h + (w / 4294967296))) < (-2147483648) then (some ((0 : Int), false)) else (if (wrap64 (h + (w / 4294967296))) > 2147483647 then (some (0, false)) else (some (wrap64 ((wrap64 ((wrap64 (h + (w / 4294967296))) * 4294967296)) + (w % 4294967296)), true)))) = some (fit S) := by
  have e1 : wrap64 (h + w / 4294967296) = h + w / 4294967296 := wrap64_in ⟨by omega, by omega⟩
  rw [e1]
  obtain ⟨q, hq⟩ : ∃ q, q = h + w / 4294967296 := ⟨_, rfl⟩
  obtain ⟨r, hr⟩ : ∃ r, r = w % 4294967296 := ⟨_, rfl⟩
  have hS : S = q * 4294967296 + r := by omega
  have hr0 : 0 ≤ r ∧ r < 4294967296 := by omega
  rw [← hq, ← hr]
  clear hq hr he hh hw e1
  by_cases h1 : q < -2147483648
  · rw [if_pos h1, fit_no (by unfold I64; omega)]
  · rw [if_neg h1]
    by_cases h2 : q > 2147483647
    · rw [if_pos h2, fit_no (by unfold I64; omega)]
    · have hI : I64 S := ⟨by omega, by omega⟩
      rw [if_neg h2, fit_yes hI, wrap64_in (x := q * 4294967296) ⟨by omega, by omega⟩, ← hS, wrap64_in hI]
theorem foldl_add (l : List Int) (a : Int) : l.foldl (· + ·) a = a + l.foldl (· + ·) 0 := by
  induction l generalizing a with
  | nil => simp
  | cons x l ih => rw [List.foldl_cons, List.foldl_cons, ih, ih (0 + x)]; omega
theorem sumL_cons (x : Int) (l : List Int) : sumL (x :: l) = x + sumL l := by unfold sumL; rw [List.foldl_cons, foldl_add]; omega
theorem sumL_reverse (l : List Int) : sumL l.reverse = sumL l := by
  induction l with
  | nil => rfl
  | cons x l ih => rw [List.reverse_cons, sumL_snoc, ih, sumL_cons]; omega
theorem allI64_of {l : List Int} (h : ∀ x ∈ l, (Lit.int .i64 x).wf = true) : allI64 l = true := by
  unfold allI64; rw [List.all_eq_true]; intro x hx; simpa using i64_of (h x hx)

/-! ### a notation is read back -/
theorem dval_snoc_digit (l : List UInt8) (d : Nat) (h : d < 10) : dval (l ++ [UInt8.ofNat (48 + d)]) = 10 * dval l + d := by
  rw [dval_snoc]
  have : (UInt8.ofNat (48 + d)).toNat = 48 + d := by rw [UInt8.toNat_ofNat']; omega
  omega
theorem isDig_ofNat (d : Nat) (h : d < 10) : isDig (UInt8.ofNat (48 + d)) = true := by
  rw [isDig_iff, UInt8.toNat_ofNat']; omega
theorem decDigits_spec (u : Nat) : dval (Lib.decDigits u) = u ∧ (Lib.decDigits u).all isDig = true ∧ Lib.decDigits u ≠ [] ∧ ((Lib.decDigits u).head? = some 48 → u = 0 ∧ (Lib.decDigits u).length = 1) := by
  induction u using Nat.strongRecOn with
  | _ u ih =>
    by_cases h : u < 10
    · rw [Lib.decDigits_one h]
      refine ⟨?_, ?_, by simp, ?_⟩
      · have := dval_snoc_digit [] u h
        simpa [dval_nil] using this
      · rw [List.all_cons, isDig_ofNat u h]; rfl
      · intro hh
        simp only [List.head?_cons, Option.some_inj] at hh
        have h2 := congrArg UInt8.toNat hh
        rw [UInt8.toNat_ofNat'] at h2
        have : (48 : UInt8).toNat = 48 := rfl
        refine ⟨by omega, rfl⟩
    · obtain ⟨h1, h2, h3, h4⟩ := ih (u / 10) (by omega)
      rw [Lib.decDigits, dif_neg h]
      refine ⟨?_, ?_, by simp, ?_⟩
      · rw [dval_snoc_digit _ _ (by omega), h1]; omega
      · rw [List.all_append, h2, List.all_cons, isDig_ofNat (u % 10) (by omega)]; rfl
      · intro hh
        cases hl : Lib.decDigits (u / 10) with
        | nil => exact absurd hl h3
        | cons c r =>
          rw [hl] at hh h4
          have := (h4 hh).1
          omega
theorem decDigits_not_minus (u : Nat) : negOf (Lib.decDigits u) = false := by
  obtain ⟨_, h2, h3, _⟩ := decDigits_spec u
  cases hl : Lib.decDigits u with
  | nil => rfl
  | cons c r =>
    rw [hl, List.all_cons, Bool.and_eq_true] at h2
    have := (isDig_iff c).mp h2.1
    unfold negOf
    rw [List.head?_cons, beq_eq_false_iff_ne]
    intro h
    injection h with h
    subst h
    have : ((45 : UInt8).toNat : Int) = 45 := rfl
    omega
theorem parse_itoa (n lo hi : Int) (h : I64 n) (hl : lo ≤ n) (hh : n ≤ hi) : parseL (Lib.itoa n) lo hi = (n, 0) := by
  rw [parseL_eq]
  obtain ⟨h1, h2, h3, h4⟩ := decDigits_spec n.natAbs
  by_cases h0 : n < 0
  · rw [itoa_neg' h0]
    have hn : negOf (45 :: Lib.decDigits n.natAbs) = true := rfl
    have hm : magOf (45 :: Lib.decDigits n.natAbs) = Lib.decDigits n.natAbs := by simp [magOf, hn]
    have hf : formedM (Lib.decDigits n.natAbs) true = true := by
      unfold formedM
      rw [h2, Bool.and_true, Bool.and_eq_true]
      refine ⟨by simpa using h3, ?_⟩
      rw [Bool.true_or, Bool.and_true, Bool.not_eq_true', beq_eq_false_iff_ne]
      intro hh2
      have := (h4 hh2).1
      omega
    have hv : sgn true (dval (Lib.decDigits n.natAbs)) = n := by rw [h1]; simp [sgn]; omega
    rw [hm, hn, hf, hv, if_pos rfl, if_pos ⟨h, hl, hh⟩]
  · rw [itoa_pos h0]
    have hn := decDigits_not_minus n.natAbs
    have hm : magOf (Lib.decDigits n.natAbs) = Lib.decDigits n.natAbs := by simp [magOf, hn]
    have hf : formedM (Lib.decDigits n.natAbs) false = true := by
      unfold formedM
      rw [h2, Bool.and_true, Bool.and_eq_true]
      refine ⟨by simpa using h3, ?_⟩
      rw [Bool.false_or, Bool.not_eq_true', Bool.and_eq_false_iff]
      by_cases hh2 : (Lib.decDigits n.natAbs).head? = some 48
      · right
        rw [(h4 hh2).2]; rfl
      · left
        rw [beq_eq_false_iff_ne]; exact hh2
    have hv : sgn false (dval (Lib.decDigits n.natAbs)) = n := by rw [h1]; simp [sgn]; omega
    rw [hm, hn, hf, hv, if_pos rfl, if_pos ⟨h, hl, hh⟩]
theorem itoa_size (n : Int) (h : I64 n) : (⟨(Lib.itoa n).toArray⟩ : ByteArray).size ≤ 20 := by
  have h2 : Lib.nDigits n.natAbs ≤ 19 := nDigits_le 18 n.natAbs (by unfold I64 at h; omega)
  rw [size_eq']
  show (Lib.itoa n).length ≤ 20
  by_cases h0 : n < 0
  · rw [itoa_neg' h0, List.length_cons, Lib.decDigits_length]; omega
  · rw [itoa_pos h0, Lib.decDigits_length]; omega

/-! ### the chapter's examples -/
theorem num_Parse_at (s : ByteArray) (lo hi : Int) (hs : s.size ≤ 140737488351232) : num_Parse.f s lo hi = some (parseL s.data.toList lo hi) := by
  unfold num_Parse.f; rw [if_pos hs]
theorem num_Text_at (n : Int) (h : I64 n) : num_Text.f n = some ⟨(Lib.itoa n).toArray⟩ := by
  unfold num_Text.f; rw [if_pos h]
theorem itoa_m120 : Lib.itoa (-120) = [45, 49, 50, 48] := by
  rw [itoa_neg' (by omega), show (-120 : Int).natAbs = 120 from rfl, Lib.decDigits, dif_neg (by omega), Lib.decDigits_two (by omega) (by omega)]; rfl
end Go.Proofs.YthmpapnhomngnaaDoor.A
