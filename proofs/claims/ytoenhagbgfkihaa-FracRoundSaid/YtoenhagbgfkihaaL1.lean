import Derived.OpenShut
import Derived.Lib.IndexBytes
import Derived.Test.YtoenhagbgfkihaaAx4
import Derived.Test.YtoenhagbgfkihaaAx17
namespace Go.Proofs.Ytoenhagbgfkihaa.A
open Go.RowKit Go.Proofs.Ytoenhagbgfkihaa.B Go.Proofs.YtoenhagbgfkihaaW.PrintWords Go.Proofs.YtoenhagbgfkihaaW.PrintLast Go.Proofs.YtoenhagbgfkihaaW.PrintMore

theorem i64_of {a : Int} (h : (Lit.int .i64 a).wf = true) : I64 a := bounds_i64 h

theorem wrap64_in {x : Int} (h : I64 x) : wrap64 x = x := by unfold I64 at h; unfold wrap64; omega
theorem wrap64_neg_wrap (p : Int) (h0 : 0 ≤ p) (h1 : p ≤ 9223372036854775808) : wrap64 (-(wrap64 p)) = -p := by
  by_cases h : p = 9223372036854775808
  · subst h; rw [show wrap64 9223372036854775808 = -9223372036854775808 by unfold wrap64; omega]; unfold wrap64; omega
  · rw [wrap64_in (x := p) ⟨by omega, by omega⟩, wrap64_in ⟨by omega, by omega⟩]
theorem of_natAbs_nonneg {z : Int} {p : Nat} (h : z.natAbs = p) (hz : 0 ≤ z) : (p : Int) = z := by omega
theorem of_natAbs_nonpos {z : Int} {p : Nat} (h : z.natAbs = p) (hz : z ≤ 0) : -(p : Int) = z := by omega
theorem div_wrap (L y : Nat) (h : L ≤ 9223372036854775808) : IntKind.u64.wrap (Int.tdiv (L : Int) (y : Int)) = ((L / y : Nat) : Int) := by
  rw [Int.tdiv_eq_ediv_of_nonneg (by omega), ← Int.natCast_ediv, wu64]
  have := Nat.div_le_self L y
  generalize L / y = q at *
  omega
/-! ### the reference's Text -/
theorem nDigits_le : ∀ (k u : Nat), u < 10 ^ (k + 1) → Lib.nDigits u ≤ k + 1
  | 0, u, h => by rw [Lib.nDigits_small (by simpa using h)]; exact Nat.le_refl _
  | k + 1, u, h => by
    by_cases hu : u < 10
    · rw [Lib.nDigits_small hu]; omega
    · rw [Lib.nDigits_big hu]
      have := nDigits_le k (u / 10) (by rw [Nat.pow_succ] at h; omega)
      omega
theorem digit_piece_fin : ∀ d : Fin 10, ((⟨#[48, 49, 50, 51, 52, 53, 54, 55, 56, 57]⟩ : ByteArray).extract d.val (d.val + 1)).data.toList = [UInt8.ofNat (48 + d.val)] := by decide +kernel
theorem digit_piece (d : Nat) (h : d < 10) : ((⟨#[48, 49, 50, 51, 52, 53, 54, 55, 56, 57]⟩ : ByteArray).extract d (d + 1)).data.toList = [UInt8.ofNat (48 + d)] := digit_piece_fin ⟨d, h⟩
theorem ba_ext {s t : ByteArray} (h : s.data.toList = t.data.toList) : s = t := by
  cases s; cases t; simp only [ByteArray.mk.injEq]; exact Array.toList_inj.mp h
theorem ba_of {s : ByteArray} {l : List UInt8} (h : s.data.toList = l) : s = ⟨l.toArray⟩ := ba_ext (by rw [h])
theorem ba_append (s t : ByteArray) : (s ++ t).data.toList = s.data.toList ++ t.data.toList := by simp
theorem tdiv_natAbs (m : Int) : (Int.tdiv m 10).natAbs = m.natAbs / 10 := by rw [Int.natAbs_tdiv]; rfl
theorem tdiv_i64 {m : Int} (h : I64 m) : I64 (Int.tdiv m 10) := by
  have := tdiv_natAbs m
  unfold I64 at *; omega
/-- What the loop of the reference's Text comes to. -/
def tail01 (n : Int) (l : List UInt8) : List UInt8 := if n < 0 then 45 :: l else l
theorem ref01_Text_end (n m : Int) (s : ByteArray) (hs : s.size ≤ 100) : Ev (fun k => accountingref01_Text.j1 k n s m false) ⟨(tail01 n s.data.toList).toArray⟩ := by
  refine Ev.step (fun k => by rw [accountingref01_Text.j1]) ?_
  refine Ev.no (by decide) (Ev.both (fun h => Ev.yes (by omega) (Ev.is ?_)) (fun h => Ev.is ?_))
  · exact ba_of (by rw [ba_append, tail01, if_pos h]; rfl)
  · exact ba_of (by rw [tail01, if_neg h])
theorem ref01_Text_next (n m : Int) (s : ByteArray) (hs : s.size ≤ 100) (hm : I64 m) {r : ByteArray} {s' : ByteArray} (hs' : s'.data.toList = UInt8.ofNat (48 + m.natAbs % 10) :: s.data.toList)
    (h : Ev (fun k => accountingref01_Text.l0 k n s' (Int.tdiv m 10)) r) : Ev (fun k => accountingref01_Text.j1 k n s m true) r := by
  have hd := digit_piece (m.natAbs % 10) (by omega)
  have hI : I64 (Int.tdiv m 10) := tdiv_i64 hm
  have hw : wrap64 (Int.tdiv m 10) = Int.tdiv m 10 := wrap64_in hI
  have hmod : Int.tmod m 10 = if m < 0 then -((m.natAbs % 10 : Nat) : Int) else ((m.natAbs % 10 : Nat) : Int) := by
    split
    · rename_i h0
      rw [← Int.neg_neg m, Int.neg_tmod, Int.tmod_eq_emod_of_nonneg (by omega)]; omega
    · rw [Int.tmod_eq_emod_of_nonneg (by omega)]; omega
  refine Ev.step (fun k => by rw [accountingref01_Text.j1]) ?_
  refine Ev.yes rfl ?_
  rw [hmod, hw]
  obtain ⟨d, hdd⟩ : ∃ d, d = m.natAbs % 10 := ⟨_, rfl⟩
  have hd10 : d < 10 := by omega
  rw [← hdd] at hd hs' ⊢
  have w2 : wrap64 ((d : Int) + 1) = ((d + 1 : Nat) : Int) := by rw [wrap64_in (by unfold I64; omega)]; omega
  have hz : ((⟨#[48, 49, 50, 51, 52, 53, 54, 55, 56, 57]⟩ : ByteArray).extract d (d + 1)).size = 1 := by rw [size_eq', hd]; rfl
  have es : (⟨#[48, 49, 50, 51, 52, 53, 54, 55, 56, 57]⟩ : ByteArray).extract d (d + 1) ++ s = s' := ba_ext (by rw [ba_append, hd, hs']; rfl)
  by_cases hneg : (if m < 0 then -(d : Int) else (d : Int)) < 0
  · have hval : (if m < 0 then -(d : Int) else (d : Int)) = -(d : Int) := by split at hneg <;> rename_i h0 <;> simp only [h0, if_true, if_false] <;> omega
    rw [hval] at hneg ⊢
    have w1 : wrap64 (-(-(d : Int))) = (d : Int) := by rw [wrap64_in (by unfold I64; omega)]; omega
    rw [w1, w2]
    refine Ev.yes hneg (Ev.yes (by omega) (Ev.yes (by omega) (Ev.yes (by omega) ?_)))
    rw [Int.toNat_natCast, Int.toNat_natCast, es, hz]
    exact Ev.yes (by omega) h
  · have hval : (if m < 0 then -(d : Int) else (d : Int)) = (d : Int) := by split at hneg <;> rename_i h0 <;> simp only [h0, if_true, if_false] <;> omega
    rw [hval] at hneg ⊢
    rw [w2]
    refine Ev.no hneg (Ev.yes (by omega) (Ev.yes (by omega) (Ev.yes (by omega) ?_)))
    rw [Int.toNat_natCast, Int.toNat_natCast, es, hz]
    exact Ev.yes (by omega) h
theorem ref01_Text_loop (n : Int) : ∀ (u : Nat) (m : Int) (s : ByteArray), m.natAbs = u → I64 m → s.size + Lib.nDigits u ≤ 99 → (u ≠ 0 ∨ s.data.toList = []) →
    Ev (fun k => accountingref01_Text.l0 k n s m) ⟨(tail01 n (Lib.decDigits u ++ s.data.toList)).toArray⟩ := by
  intro u
  induction u using Nat.strongRecOn with
  | _ u ih =>
  intro m s hu hm hsz hne
  have hpos := Lib.nDigits_pos u
  have hgo : Ev (fun k => accountingref01_Text.j1 k n s m true) ⟨(tail01 n (Lib.decDigits u ++ s.data.toList)).toArray⟩ := by
    obtain ⟨s', hs'⟩ : ∃ s' : ByteArray, s'.data.toList = UInt8.ofNat (48 + m.natAbs % 10) :: s.data.toList := ⟨⟨(UInt8.ofNat (48 + m.natAbs % 10) :: s.data.toList).toArray⟩, by simp⟩
    have hsz' : s'.size = s.size + 1 := by rw [size_eq', hs', List.length_cons, ← size_eq']
    refine ref01_Text_next n m s (by omega) hm hs' ?_
    by_cases hsmall : u < 10
    · -- the last digit
      have hz : Int.tdiv m 10 = 0 := by have := tdiv_natAbs m; omega
      rw [hz]
      refine Ev.step (fun k => by rw [accountingref01_Text.l0]) ?_
      refine Ev.yes rfl ?_
      rw [ByteArray.toList_eq, hs', show ((UInt8.ofNat (48 + m.natAbs % 10) :: s.data.toList) == ([] : List UInt8)) = false from rfl]
      have := ref01_Text_end n 0 s' (by omega)
      rw [hs'] at this
      rw [Lib.decDigits_one hsmall, hu, Nat.mod_eq_of_lt hsmall] at *
      exact this
    · have hb := Lib.nDigits_big hsmall
      have := ih (u / 10) (by omega) (Int.tdiv m 10) s' (by rw [tdiv_natAbs, hu]) (tdiv_i64 hm) (by omega) (.inl (by omega))
      rw [hs', hu] at this
      rw [Lib.decDigits, dif_neg hsmall, List.append_assoc]
      exact this
  refine Ev.step (fun k => by rw [accountingref01_Text.l0]) ?_
  refine Ev.both (fun h => ?_) (fun h => hgo)
  have : s.data.toList = [] := by
    rcases hne with h1 | h1
    · omega
    · exact h1
  have e : (s.toList == ([] : List UInt8)) = true := by rw [ByteArray.toList_eq, this]; rfl
  rw [e]
  exact hgo
theorem ref01_Text (n : Int) (h : I64 n) : Ev (fun k => accountingref01_Text.f k n) ⟨(Lib.itoa n).toArray⟩ := by
  have hn : Lib.nDigits n.natAbs ≤ 19 := nDigits_le 18 n.natAbs (by unfold I64 at h; omega)
  have := ref01_Text_loop n n.natAbs n (⟨#[]⟩ : ByteArray) rfl h (by show 0 + _ ≤ 99; omega) (.inr rfl)
  unfold accountingref01_Text.f
  have e : tail01 n (Lib.decDigits n.natAbs ++ (⟨#[]⟩ : ByteArray).data.toList) = Lib.itoa n := by
    unfold tail01
    by_cases h0 : n < 0
    · rw [if_pos h0, itoa_neg' h0]; simp
    · rw [if_neg h0, itoa_pos h0]; simp
  rw [e] at this
  exact this

theorem parseL_eq (l : List UInt8) (lo hi : Int) : parseL l lo hi = (if formedM (magOf l) (negOf l) = true then (if I64 (sgn (negOf l) (dval (magOf l))) ∧ lo ≤ sgn (negOf l) (dval (magOf l)) ∧ sgn (negOf l) (dval (magOf l)) ≤ hi then (sgn (negOf l) (dval (magOf l)), 0) else (0, 3)) else (0, 5)) := rfl
/-! ### the reference's Sum -/
theorem i64_and32 (n : Int) : bits .and .i64 n 4294967295 = n % 4294967296 := by
  have h32 : (BitVec.ofInt 64 4294967295).toNat = 2 ^ 32 - 1 := by decide
  have key : (BitVec.ofInt 64 n &&& BitVec.ofInt 64 4294967295).toNat = (n % ((2 ^ 64 : Nat) : Int)).toNat % 2 ^ 32 := by
    rw [BitVec.toNat_and, BitVec.toNat_ofInt, h32, Nat.and_two_pow_sub_one_eq_mod]
  show IntKind.i64.wrap ((BitVec.ofInt 64 n &&& BitVec.ofInt 64 4294967295).toNat : Nat) = n % 4294967296
  rw [key, IntKind.wrap_i64]
  omega
theorem ref01_Sum_end (S h w : Int) (he : h * 4294967296 + w = S) (hh : -4294967296000 ≤ h ∧ h ≤ 4294967296000) (hw : 0 ≤ w ∧ w ≤ 8589934592000) :
    (if (wrap64 (h + (w / 4294967296))) < (-2147483648) then (some ((0 : Int), false)) else (if (wrap64 (h + (w / 4294967296))) > 2147483647 then (some (0, false)) else (some (wrap64 ((wrap64 ((wrap64 (h + (w / 4294967296))) * 4294967296)) + (w % 4294967296)), true)))) = some (fit S) := by
  have e1 : wrap64 (h + w / 4294967296) = h + w / 4294967296 := wrap64_in ⟨by omega, by omega⟩
  rw [e1]
  obtain ⟨q, hq⟩ : ∃ q, q = h + w / 4294967296 := ⟨_, rfl⟩
  obtain ⟨r, hr⟩ : ∃ r, r = w % 4294967296 := ⟨_, rfl⟩
  have hS : S = q * 4294967296 + r := by omega
  have hr0 : 0 ≤ r ∧ r < 4294967296 := by omega
  rw [← hq, ← hr]
  clear hq hr he hh hw e1
  by_cases h1 : q < -2147483648
  · rw [if_pos h1, fit_no (by unfold I64; omega)]
  · rw [if_neg h1]
    by_cases h2 : q > 2147483647
    · rw [if_pos h2, fit_no (by unfold I64; omega)]
    · have hI : I64 S := ⟨by omega, by omega⟩
      rw [if_neg h2, fit_yes hI, wrap64_in (x := q * 4294967296) ⟨by omega, by omega⟩, ← hS, wrap64_in hI]
theorem foldl_add (l : List Int) (a : Int) : l.foldl (· + ·) a = a + l.foldl (· + ·) 0 := by
  induction l generalizing a with
  | nil => simp
  | cons x l ih => rw [List.foldl_cons, List.foldl_cons, ih, ih (0 + x)]; omega
theorem sumL_cons (x : Int) (l : List Int) : sumL (x :: l) = x + sumL l := by unfold sumL; rw [List.foldl_cons, foldl_add]; omega
theorem sumL_reverse (l : List Int) : sumL l.reverse = sumL l := by
  induction l with
  | nil => rfl
  | cons x l ih => rw [List.reverse_cons, sumL_snoc, ih, sumL_cons]; omega
theorem allI64_of {l : List Int} (h : ∀ x ∈ l, (Lit.int .i64 x).wf = true) : allI64 l = true := by
  unfold allI64; rw [List.all_eq_true]; intro x hx; simpa using i64_of (h x hx)

/-! ### a notation is read back -/
theorem dval_snoc_digit (l : List UInt8) (d : Nat) (h : d < 10) : dval (l ++ [UInt8.ofNat (48 + d)]) = 10 * dval l + d := by
  rw [dval_snoc]
  have : (UInt8.ofNat (48 + d)).toNat = 48 + d := by rw [UInt8.toNat_ofNat']; omega
  omega
theorem isDig_ofNat (d : Nat) (h : d < 10) : isDig (UInt8.ofNat (48 + d)) = true := by
  rw [isDig_iff, UInt8.toNat_ofNat']; omega
theorem decDigits_spec (u : Nat) : dval (Lib.decDigits u) = u ∧ (Lib.decDigits u).all isDig = true ∧ Lib.decDigits u ≠ [] ∧ ((Lib.decDigits u).head? = some 48 → u = 0 ∧ (Lib.decDigits u).length = 1) := by
  induction u using Nat.strongRecOn with
  | _ u ih =>
    by_cases h : u < 10
    · rw [Lib.decDigits_one h]
      refine ⟨?_, ?_, by simp, ?_⟩
      · have := dval_snoc_digit [] u h
        simpa [dval_nil] using this
      · rw [List.all_cons, isDig_ofNat u h]; rfl
      · intro hh
        simp only [List.head?_cons, Option.some_inj] at hh
        have h2 := congrArg UInt8.toNat hh
        rw [UInt8.toNat_ofNat'] at h2
        have : (48 : UInt8).toNat = 48 := rfl
        refine ⟨by omega, rfl⟩
    · obtain ⟨h1, h2, h3, h4⟩ := ih (u / 10) (by omega)
      rw [Lib.decDigits, dif_neg h]
      refine ⟨?_, ?_, by simp, ?_⟩
      · rw [dval_snoc_digit _ _ (by omega), h1]; omega
      · rw [List.all_append, h2, List.all_cons, isDig_ofNat (u % 10) (by omega)]; rfl
      · intro hh
        cases hl : Lib.decDigits (u / 10) with
        | nil => exact absurd hl h3
        | cons c r =>
          rw [hl] at hh h4
          have := (h4 hh).1
          omega
theorem decDigits_not_minus (u : Nat) : negOf (Lib.decDigits u) = false := by
  obtain ⟨_, h2, h3, _⟩ := decDigits_spec u
  cases hl : Lib.decDigits u with
  | nil => rfl
  | cons c r =>
    rw [hl, List.all_cons, Bool.and_eq_true] at h2
    have := (isDig_iff c).mp h2.1
    unfold negOf
    rw [List.head?_cons, beq_eq_false_iff_ne]
    intro h
    injection h with h
    subst h
    have : ((45 : UInt8).toNat : Int) = 45 := rfl
    omega
theorem parse_itoa (n lo hi : Int) (h : I64 n) (hl : lo ≤ n) (hh : n ≤ hi) : parseL (Lib.itoa n) lo hi = (n, 0) := by
  rw [parseL_eq]
  obtain ⟨h1, h2, h3, h4⟩ := decDigits_spec n.natAbs
  by_cases h0 : n < 0
  · rw [itoa_neg' h0]
    have hn : negOf (45 :: Lib.decDigits n.natAbs) = true := rfl
    have hm : magOf (45 :: Lib.decDigits n.natAbs) = Lib.decDigits n.natAbs := by simp [magOf, hn]
    have hf : formedM (Lib.decDigits n.natAbs) true = true := by
      unfold formedM
      rw [h2, Bool.and_true, Bool.and_eq_true]
      refine ⟨by simpa using h3, ?_⟩
      rw [Bool.true_or, Bool.and_true, Bool.not_eq_true', beq_eq_false_iff_ne]
      intro hh2
      have := (h4 hh2).1
      omega
    have hv : sgn true (dval (Lib.decDigits n.natAbs)) = n := by rw [h1]; simp [sgn]; omega
    rw [hm, hn, hf, hv, if_pos rfl, if_pos ⟨h, hl, hh⟩]
  · rw [itoa_pos h0]
    have hn := decDigits_not_minus n.natAbs
    have hm : magOf (Lib.decDigits n.natAbs) = Lib.decDigits n.natAbs := by simp [magOf, hn]
    have hf : formedM (Lib.decDigits n.natAbs) false = true := by
      unfold formedM
      rw [h2, Bool.and_true, Bool.and_eq_true]
      refine ⟨by simpa using h3, ?_⟩
      rw [Bool.false_or, Bool.not_eq_true', Bool.and_eq_false_iff]
      by_cases hh2 : (Lib.decDigits n.natAbs).head? = some 48
      · right
        rw [(h4 hh2).2]; rfl
      · left
        rw [beq_eq_false_iff_ne]; exact hh2
    have hv : sgn false (dval (Lib.decDigits n.natAbs)) = n := by rw [h1]; simp [sgn]; omega
    rw [hm, hn, hf, hv, if_pos rfl, if_pos ⟨h, hl, hh⟩]
theorem itoa_size (n : Int) (h : I64 n) : (⟨(Lib.itoa n).toArray⟩ : ByteArray).size ≤ 20 := by
  have h2 : Lib.nDigits n.natAbs ≤ 19 := nDigits_le 18 n.natAbs (by unfold I64 at h; omega)
  rw [size_eq']
  show (Lib.itoa n).length ≤ 20
  by_cases h0 : n < 0
  · rw [itoa_neg' h0, List.length_cons, Lib.decDigits_length]; omega
  · rw [itoa_pos h0, Lib.decDigits_length]; omega

theorem num_Text_at (n : Int) (h : I64 n) : num_Text.f n = some ⟨(Lib.itoa n).toArray⟩ := by
  unfold num_Text.f; rw [if_pos h]
theorem itoa_m120 : Lib.itoa (-120) = [45, 49, 50, 48] := by
  rw [itoa_neg' (by omega), show (-120 : Int).natAbs = 120 from rfl, Lib.decDigits, dif_neg (by omega), Lib.decDigits_two (by omega) (by omega)]; rfl
end Go.Proofs.Ytoenhagbgfkihaa.A
