import Derived.Test.YthmpapnhomngnaaDoorL3
import Derived.Test.YthmpapnhomngnaaDoorAx11
namespace Go.Proofs.YthmpapnhomngnaaDoor.A
open Go.RowKit Go.Proofs.YthmpapnhomngnaaDoor.B Go.Proofs.YthmpapnhomngnaaDoorW.PrintWords Go.Proofs.YthmpapnhomngnaaDoorW.PrintLast Go.Proofs.YthmpapnhomngnaaDoorW.PrintMore

/-! ### digits -/
/-- The last d digits of u. -/
def digs : Nat → Nat → List UInt8
  | 0, _ => []
  | d + 1, u => digs d (u / 10) ++ [UInt8.ofNat (48 + u % 10)]
theorem digs_length : ∀ d u, (digs d u).length = d
  | 0, _ => rfl
  | d + 1, u => by rw [digs, List.length_append, digs_length d]; rfl
theorem digs_zero : ∀ d, digs d 0 = List.replicate d 48
  | 0 => rfl
  | d + 1 => by rw [digs, Nat.zero_div, digs_zero d, List.replicate_succ']; rfl
theorem digs_all : ∀ d u, (digs d u).all isDig = true
  | 0, _ => rfl
  | d + 1, u => by rw [digs, List.all_append, digs_all d, Bool.true_and]; show (isDig _ && true) = true; rw [isDig_ofNat (u % 10) (Nat.mod_lt _ (by decide))]; rfl
theorem decDigits_small {u : Nat} (h : u < 10) : Lib.decDigits u = [UInt8.ofNat (48 + u)] := Lib.decDigits_one h
theorem decDigits_big {u : Nat} (h : ¬ u < 10) : Lib.decDigits u = Lib.decDigits (u / 10) ++ [UInt8.ofNat (48 + u % 10)] := by rw [Lib.decDigits, dif_neg h]
theorem dec_one : ∀ d u, Lib.decDigits (10 ^ d + u % 10 ^ d) = 49 :: digs d u
  | 0, u => by rw [Nat.pow_zero, Nat.mod_one]; exact decDigits_small (by decide)
  | d + 1, u => by
    have hp : 0 < 10 ^ d := Nat.pow_pos (by decide)
    have h1 : (10 ^ (d + 1) + u % 10 ^ (d + 1)) / 10 = 10 ^ d + (u / 10) % 10 ^ d := by
      rw [Nat.pow_succ, Nat.mul_comm (10 ^ d) 10, Nat.mod_mul, Nat.add_comm (u % 10), ← Nat.add_assoc, ← Nat.mul_add, Nat.mul_add_div (by decide)]
      have : u % 10 / 10 = 0 := Nat.div_eq_of_lt (Nat.mod_lt _ (by decide))
      omega
    have h2 : (10 ^ (d + 1) + u % 10 ^ (d + 1)) % 10 = u % 10 := by
      rw [Nat.pow_succ, Nat.mul_comm (10 ^ d) 10, Nat.mod_mul]; omega
    rw [decDigits_big (by rw [Nat.pow_succ]; omega), h1, h2, dec_one d (u / 10), digs]; rfl
theorem dec_len_pos (u : Nat) : 0 < (Lib.decDigits u).length := by
  have := (decDigits_spec u).2.2.1
  exact List.length_pos_iff.2 this
/-- Filled up with zeros in front. -/
def padL (d : Nat) (l : List UInt8) : List UInt8 := List.replicate (d + 1 - l.length) 48 ++ l
theorem pad_dec : ∀ d u, padL d (Lib.decDigits u) = Lib.decDigits (u / 10 ^ d) ++ digs d u
  | 0, u => by
    have := dec_len_pos u
    unfold padL
    rw [show 0 + 1 - (Lib.decDigits u).length = 0 by omega, Nat.pow_zero, Nat.div_one]; simp [digs]
  | d + 1, u => by
    by_cases h : u < 10
    · have h0 : u / 10 ^ (d + 1) = 0 := Nat.div_eq_of_lt (Nat.lt_of_lt_of_le h (by rw [Nat.pow_succ]; have := Nat.pow_pos (n := d) (show 0 < 10 by decide); omega))
      rw [h0, decDigits_small h, decDigits_small (show 0 < 10 by decide), digs, Nat.mod_eq_of_lt h, Nat.div_eq_of_lt h, digs_zero]
      unfold padL
      rw [List.length_singleton, show d + 1 + 1 - 1 = d + 1 by omega, List.replicate_succ]; rfl
    · have ih := pad_dec d (u / 10)
      rw [decDigits_big h, digs, show u / 10 ^ (d + 1) = u / 10 / 10 ^ d by rw [Nat.pow_succ, Nat.mul_comm, Nat.div_div_eq_div_mul], ← List.append_assoc, ← ih]
      unfold padL
      rw [List.length_append, List.length_singleton, show d + 1 + 1 - ((Lib.decDigits (u / 10)).length + 1) = d + 1 - (Lib.decDigits (u / 10)).length by omega, List.append_assoc]
/-- The notation, as a list. -/
def textL (a : Int) (d : Nat) : List UInt8 := (if a < 0 then [45] else []) ++ (Lib.decDigits (a.natAbs / 10 ^ d) ++ (if d = 0 then [] else 46 :: digs d a.natAbs))
theorem itoa_nat (u : Nat) : Lib.itoa (u : Int) = Lib.decDigits u := by rw [itoa_pos (by omega)]; rfl
theorem textB_L (a d : Int) (h0 : 0 ≤ d) : (textB (if a < 0 then ⟨#[45]⟩ else ⟨#[]⟩) a.natAbs d).data.toList = textL a d.toNat := by
  unfold textB textL itB
  rw [itoa_nat, itoa_nat, dec_one]
  have e1 : (if a < 0 then (⟨#[45]⟩ : ByteArray) else ⟨#[]⟩).data.toList = if a < 0 then [45] else [] := by split <;> rfl
  obtain ⟨D, rfl⟩ : ∃ D : Nat, d = D := ⟨d.toNat, by omega⟩
  rw [Int.toNat_natCast]
  generalize (if a < 0 then (⟨#[45]⟩ : ByteArray) else ⟨#[]⟩) = sg at *
  generalize (if a < 0 then [45] else []) = sl at *
  by_cases hd : D = 0
  · rw [if_pos (by omega), if_pos hd, ba_append, e1]; simp
  · rw [if_neg (by omega), if_neg hd, ba_append, ba_append, ba_append, e1, Lib.extract_to_end]
    simp
theorem textS_eq (a d : Int) : textS a d = if fitsB d = false then (⟨#[]⟩, 2) else if farB a = true then (⟨#[]⟩, 4) else (⟨(textL a d.toNat).toArray⟩, 0) := by
  unfold textS
  by_cases h1 : fitsB d = false
  · rw [if_pos h1, if_pos h1]
  rw [if_neg h1, if_neg h1]
  by_cases h2 : farB a = true
  · rw [if_pos h2, if_pos h2]
  rw [if_neg h2, if_neg h2]
  have := (fitsB_iff d).mp (by simpa using h1)
  rw [ba_of (textB_L a d this.1)]
/-! ### the reference's Text -/
theorem ref07_Text_l0 (d : Nat) (hd : d ≤ 4) (sg : ByteArray) (hsg : sg.size ≤ 1) : ∀ (n : Nat) (s : ByteArray), s.size ≤ 40 → d + 1 - s.size = n → 
    Ev (fun k => accountingref07_Text.l0 k (d : Int) s sg) (⟨(sg.data.toList ++ (if d = 0 then padL d s.data.toList else (padL d s.data.toList).take ((padL d s.data.toList).length - d) ++ 46 :: (padL d s.data.toList).drop ((padL d s.data.toList).length - d))).toArray⟩, 0)
  | 0, s, hs, hn => by
    have hsz := size_eq' s
    refine Ev.step (fun k => by rw [accountingref07_Text.l0]) (Ev.no (by omega) ?_)
    have hp : padL d s.data.toList = s.data.toList := by unfold padL; rw [← hsz, show d + 1 - s.size = 0 by omega]; rfl
    rw [hp]
    refine Ev.both (fun h => Ev.yes (by omega) (Ev.const ?_)) (fun h => ?_)
    · rw [if_pos (by omega), ← ba_of (ba_append sg s)]
    · have hw : wrap64 ((s.size : Int) - (d : Int)) = ((s.size - d : Nat) : Int) := by unfold wrap64; omega
      rw [hw, Int.toNat_natCast]
      have z1 : (s.extract 0 (s.size - d)).size ≤ 40 := by rw [ByteArray.size_extract]; omega
      have z2 : (s.extract (s.size - d) s.size).size ≤ 40 := by rw [ByteArray.size_extract]; omega
      refine Ev.yes (by omega) (Ev.yes (by omega) (Ev.yes (by omega) (Ev.yes (by rw [ByteArray.size_append]; omega) (Ev.yes (by rw [ByteArray.size_append, ByteArray.size_append, show (⟨#[46]⟩ : ByteArray).size = 1 from rfl]; omega) (Ev.const ?_)))))
      rw [if_neg (by omega)]
      congr 2
      refine ba_ext ?_
      rw [ba_append, ba_append, ba_append, Lib.extract_to_end, ← hsz]
      simp
  | n + 1, s, hs, hn => by
    have hsz := size_eq' s
    refine Ev.step (fun k => by rw [accountingref07_Text.l0]) (Ev.yes (by omega) (Ev.yes (by omega) ?_))
    have e : ((⟨#[48]⟩ : ByteArray) ++ s).size = s.size + 1 := by rw [ByteArray.size_append, Nat.add_comm]; rfl
    have ih := ref07_Text_l0 d hd sg hsg n ((⟨#[48]⟩ : ByteArray) ++ s) (by omega) (by omega)
    have hp : padL d ((⟨#[48]⟩ : ByteArray) ++ s).data.toList = padL d s.data.toList := by
      unfold padL
      rw [ba_append, List.length_append, ← hsz]
      show List.replicate (d + 1 - (1 + s.size)) 48 ++ (48 :: s.data.toList) = _
      rw [show d + 1 - s.size = (d + 1 - (1 + s.size)) + 1 by omega, List.replicate_succ']; simp
    rw [hp] at ih
    exact ih
theorem ref07_Text (a d : Int) (ha : I64 a) : Ev (fun k => accountingref07_Text.f k a d) (textS a d) := by
  rw [textS_eq]
  have j0 : ∀ b, b = !fitsB d → Ev (fun k => accountingref07_Text.j0 k a d b) (if fitsB d = false then (⟨#[]⟩, 2) else if farB a = true then (⟨#[]⟩, 4) else (⟨(textL a d.toNat).toArray⟩, 0)) := by
    intro b hb
    refine Ev.step (fun k => by rw [accountingref07_Text.j0]) ?_
    by_cases h1 : fitsB d = false
    · rw [if_pos h1]; rw [h1] at hb; subst hb; exact Ev.yes rfl (Ev.const rfl)
    rw [if_neg h1]
    rw [Bool.not_eq_false] at h1
    rw [h1] at hb; subst hb
    obtain ⟨d0, d4⟩ := (fitsB_iff d).mp h1
    refine Ev.no (by decide) ?_
    rw [ref07_large]
    simp only [Option.bind_some]
    by_cases h2 : farB a = true
    · rw [if_pos h2]; exact Ev.yes h2 (Ev.const rfl)
    rw [if_neg h2]
    refine Ev.no h2 (Ev.bind (ref01_Text a ha) ?_)
    obtain ⟨D, rfl⟩ : ∃ D : Nat, d = D := ⟨d.toNat, by omega⟩
    rw [Int.toNat_natCast]
    have sz := itoa_size a ha
    have fin : ∀ (sg : ByteArray) (s : ByteArray), sg.size ≤ 1 → s.size ≤ 40 → s.data.toList = Lib.decDigits a.natAbs → sg.data.toList = (if a < 0 then [45] else []) → Ev (fun k => accountingref07_Text.j1 k (D : Int) s sg) (⟨(textL a D).toArray⟩, 0) := by
      intro sg s h3 h4 h5 h6
      refine Ev.step (fun k => by rw [accountingref07_Text.j1]) ?_
      have := ref07_Text_l0 D (by omega) sg h3 _ s h4 rfl
      rw [h5, h6, pad_dec, List.length_append, digs_length, Nat.add_sub_cancel, List.take_left, List.drop_left] at this
      unfold textL
      by_cases hD : D = 0
      · subst hD
        rw [if_pos rfl] at this ⊢
        simpa [digs] using this
      · rw [if_neg hD] at this ⊢
        exact this
    refine Ev.both (fun hn => Ev.yes ?_ (fin _ _ (by decide) ?_ ?_ (by rw [if_pos hn]))) (fun hn => fin _ _ (by decide) (by omega) ?_ (by rw [if_neg hn]))
    · rw [size_eq']; show (1 : Int) ≤ ((Lib.itoa a).length : Int); rw [itoa_neg' hn, List.length_cons]; omega
    · rw [ByteArray.size_extract]; omega
    · rw [Lib.extract_to_end]; show (Lib.itoa a).drop 1 = _; rw [itoa_neg' hn]; rfl
    · show Lib.itoa a = _; rw [itoa_pos hn]
  unfold accountingref07_Text.f
  refine Ev.both (fun h => j0 true (by simp [fitsB]; omega)) (fun h => j0 _ (by rw [Bool.eq_iff_iff]; simp [fitsB]; omega))
end Go.Proofs.YthmpapnhomngnaaDoor.A
