import Derived.Test.YthmpapnhomngnaaDoorL4
import Derived.Test.YthmpapnhomngnaaDoorAx5
namespace Go.Proofs.YthmpapnhomngnaaDoor.A
open Go.RowKit Go.Proofs.YthmpapnhomngnaaDoor.B Go.Proofs.YthmpapnhomngnaaDoorW.PrintWords Go.Proofs.YthmpapnhomngnaaDoorW.PrintLast Go.Proofs.YthmpapnhomngnaaDoorW.PrintMore

/-! ### digits without superfluous zeros -/
def plainL : List UInt8 → List UInt8
  | [] => []
  | c :: r => if c = 48 ∧ r ≠ [] then plainL r else c :: r
theorem plainL_all : ∀ l, l.all isDig = true → (plainL l).all isDig = true
  | [], h => h
  | c :: r, h => by
    unfold plainL
    split
    · exact plainL_all r (by rw [List.all_cons, Bool.and_eq_true] at h; exact h.2)
    · exact h
theorem plainL_ne : ∀ l, l ≠ [] → plainL l ≠ []
  | [], h => absurd rfl h
  | c :: r, _ => by
    unfold plainL
    split
    · rename_i h; exact plainL_ne r h.2
    · simp
theorem plainL_head : ∀ l, (plainL l).head? = some 48 → plainL l = [48]
  | [] => by simp [plainL]
  | c :: r => by
    unfold plainL
    split
    · exact plainL_head r
    · rename_i h
      intro h2
      simp only [List.head?_cons, Option.some.injEq] at h2
      subst h2
      by_cases hr : r = []
      · rw [hr]
      · exact absurd ⟨rfl, hr⟩ h
theorem plainL_val : ∀ l, dval (plainL l) = dval l
  | [] => rfl
  | c :: r => by
    unfold plainL
    split
    · rename_i h
      rw [plainL_val r, h.1]; rfl
    · rfl
theorem plainL_len : ∀ l, (plainL l).length ≤ l.length
  | [] => Nat.le_refl _
  | c :: r => by
    unfold plainL
    split
    · have := plainL_len r; simp; omega
    · exact Nat.le_refl _
theorem plainL_same_iff (l : List UInt8) : plainL l = l ↔ ¬ (1 < l.length ∧ l.head? = some 48) := by
  cases l with
  | nil => simp [plainL]
  | cons c r =>
    unfold plainL
    by_cases h : c = 48 ∧ r ≠ []
    · rw [if_pos h]
      have h1 := plainL_len r
      have h2 : 0 < r.length := List.length_pos_iff.2 h.2
      constructor
      · intro e; have := congrArg List.length e; rw [List.length_cons] at this; omega
      · intro e; exact absurd ⟨by rw [List.length_cons]; omega, by rw [h.1]; rfl⟩ e
    · rw [if_neg h]
      refine ⟨fun _ h2 => h ⟨by simpa using h2.2, ?_⟩, fun _ => rfl⟩
      intro hr; subst hr; simp at h2
theorem bt_head (s : ByteArray) (c : UInt8) (r : List UInt8) (h : s.data.toList = c :: r) : bt s 0 = (c.toNat : Int) := by
  have hb : bt s 0 = ((s.data.toList.getD 0 0).toNat : Int) := bt_eq s 0
  rw [hb, h]; rfl
theorem extract_tail (s : ByteArray) (c : UInt8) (r : List UInt8) (h : s.data.toList = c :: r) : (s.extract 1 s.size).data.toList = r := by
  rw [Lib.extract_to_end, h]; rfl
theorem byte48 (c : UInt8) : ((c.toNat : Int) = 48) ↔ c = 48 := by
  have := byte_is c 48
  simpa using this
theorem money_plain_l0 : ∀ (l : List UInt8) (s : ByteArray), s.data.toList = l → l.length ≤ 1000 → Ev (fun k => money_plain.l0 k s) ⟨(plainL l).toArray⟩
  | [], s, hs, _ => by
    have hsz := size_eq' s
    rw [hs, List.length_nil] at hsz
    refine Ev.step (fun k => by rw [money_plain.l0]) (Ev.no (by omega) (Ev.const ?_))
    rw [ba_of hs]; rfl
  | c :: r, s, hs, hl => by
    have hsz := size_eq' s
    rw [hs, List.length_cons] at hsz
    refine Ev.step (fun k => by rw [money_plain.l0]) ?_
    rw [bt_head s c r hs]
    unfold plainL
    by_cases hr : r = []
    · rw [if_neg (fun h => h.2 hr)]
      subst hr
      exact Ev.no (by simp at hsz; omega) (Ev.const (by rw [ba_of hs]))
    · have : 0 < r.length := List.length_pos_iff.2 hr
      refine Ev.yes (by omega) (Ev.yes (by omega) ?_)
      by_cases hc : c = 48
      · rw [if_pos ⟨hc, hr⟩]
        exact Ev.yes ((byte48 c).mpr hc) (Ev.yes (by omega) (money_plain_l0 r _ (extract_tail s c r hs) (by simp at hl; omega)))
      · rw [if_neg (fun h => hc h.1)]
        exact Ev.no (fun h => hc ((byte48 c).mp h)) (Ev.const (by rw [ba_of hs]))
theorem money_plain_at (s : ByteArray) (hl : s.data.toList.length ≤ 1000) : Ev (fun k => money_plain.f k s) ⟨(plainL s.data.toList).toArray⟩ := by
  unfold money_plain.f
  exact money_plain_l0 _ s rfl hl

/-! ### the value -/
def parseCore (neg : Bool) (all : List UInt8) : Int × Int := if neg = true ∧ all = [48] then (0, 5) else if dval all ≤ 1000000000000000 then (sgn neg (dval all), 0) else (0, 4)
theorem mag_sg (neg : Bool) (all : List UInt8) (ha : all.all isDig = true) (hn : all ≠ []) : negOf ((if neg = true then [45] else []) ++ all) = neg ∧ magOf ((if neg = true then [45] else []) ++ all) = all := by
  cases neg
  · have : negOf all = false := by
      cases all with
      | nil => exact absurd rfl hn
      | cons c r =>
        rw [List.all_cons, Bool.and_eq_true] at ha
        unfold negOf
        rw [List.head?_cons, beq_eq_false_iff_ne]
        intro h
        rw [Option.some.inj h] at ha
        exact absurd ha.1 (by decide)
    simp [magOf, this]
  · simp [negOf, magOf]
theorem parse_core (neg : Bool) (all : List UInt8) (ha : all.all isDig = true) (hn : all ≠ []) (hh : all.head? = some 48 → all = [48]) :
    parseL ((if neg = true then [45] else []) ++ all) (-1000000000000000) 1000000000000000 = if neg = true ∧ all = [48] then (0, 5) else if dval all ≤ 1000000000000000 then (sgn neg (dval all), 0) else (0, 3) := by
  obtain ⟨h1, h2⟩ := mag_sg neg all ha hn
  rw [parseL_eq, h1, h2]
  by_cases hc : neg = true ∧ all = [48]
  · rw [if_pos hc, hc.1, hc.2]; decide
  · rw [if_neg hc]
    have hf : formedM all neg = true := by
      unfold formedM
      rw [ha, Bool.and_true, Bool.and_eq_true]
      refine ⟨by simpa using hn, ?_⟩
      rw [Bool.not_eq_true', Bool.and_eq_false_iff]
      by_cases h48 : all.head? = some 48
      · right
        have := hh h48
        subst this
        cases neg
        · rfl
        · exact absurd ⟨rfl, rfl⟩ hc
      · left; rw [beq_eq_false_iff_ne]; exact h48
    rw [if_pos hf]
    by_cases hv : dval all ≤ 1000000000000000
    · rw [if_pos hv, if_pos]
      unfold I64; cases neg <;> simp only [sgn] <;> (try simp) <;> omega
    · rw [if_neg hv, if_neg]
      unfold I64; cases neg <;> simp only [sgn] <;> (try simp) <;> omega

/-! ### the form -/
def refForm (m : List UInt8) (d : Nat) : Option (List UInt8 × List UInt8) :=
  if d = 0 then (if m.all isDig = true ∧ m ≠ [] then some (m, []) else none) else
    if d + 1 < m.length ∧ m[m.length - d - 1]? = some 46 ∧ (m.take (m.length - d - 1)).all isDig = true ∧ (m.drop (m.length - d - 1 + 1)).all isDig = true then some (m.take (m.length - d - 1), m.drop (m.length - d - 1 + 1)) else none
theorem split_form (m : List UInt8) (d : Nat) : (if (splitL m).2.2 = true ∧ (splitL m).2.1.length = d then some ((splitL m).1, (splitL m).2.1) else none) = refForm m d := by
  have hm := List.takeWhile_append_dropWhile (p := isDig) (l := m)
  have htw : (m.takeWhile isDig).all isDig = true := List.all_takeWhile
  unfold splitL
  cases hd : m.dropWhile isDig with
  | nil =>
    rw [hd, List.append_nil] at hm
    rw [hm] at htw
    unfold refForm
    by_cases h0 : d = 0
    · subst h0
      rw [if_pos rfl]
      cases m with
      | nil => simp
      | cons c r => simp [htw]
    · rw [if_neg (by simp; omega), if_neg h0, if_neg]
      rintro ⟨h1, h2, _⟩
      have h3 : m.length - d - 1 < m.length := by omega
      rw [List.getElem?_eq_getElem h3, Option.some.injEq] at h2
      have := List.all_eq_true.mp htw _ (List.getElem_mem h3)
      rw [h2] at this; exact absurd this (by decide)
  | cons c r =>
    have hc : isDig c = false := by
      have := List.head?_dropWhile_not isDig m
      rw [hd] at this
      simpa using this
    rw [hd] at hm
    generalize m.takeWhile isDig = tw at *
    subst hm
    have hnall : (tw ++ c :: r).all isDig = false := by rw [List.all_append, List.all_cons, hc]; simp
    have hL : (tw ++ c :: r).length = tw.length + r.length + 1 := by rw [List.length_append, List.length_cons]; omega
    have key : ∀ n, (tw ++ c :: r)[n]? = some 46 → ((tw ++ c :: r).take n).all isDig = true → n = tw.length := by
      intro n h1 h2
      rcases Nat.lt_trichotomy n tw.length with h | h | h
      · rw [List.getElem?_append_left h, List.getElem?_eq_getElem h, Option.some.injEq] at h1
        have := List.all_eq_true.mp htw _ (List.getElem_mem h)
        rw [h1] at this; exact absurd this (by decide)
      · exact h
      · rw [List.take_append, List.all_append, Bool.and_eq_true] at h2
        have h3 := h2.2
        obtain ⟨j, hj⟩ : ∃ j, n - tw.length = j + 1 := ⟨n - tw.length - 1, by omega⟩
        rw [hj, List.take_succ_cons, List.all_cons, hc] at h3
        simp at h3
    by_cases hcr : c = 46 ∧ r.all isDig = true
    · simp only [if_pos hcr]
      obtain ⟨rfl, hr⟩ := hcr
      unfold refForm
      by_cases h0 : d = 0
      · subst h0
        have hx : ¬ ((!tw.isEmpty && !r.isEmpty) = true ∧ r.length = 0) := by
          rintro ⟨h1, h2⟩
          have : r = [] := List.length_eq_zero_iff.1 h2
          subst this; simp at h1
        rw [if_pos rfl, hnall, if_neg hx, if_neg (by simp)]
      · rw [if_neg h0]
        by_cases hrd : r.length = d
        · have hn : (tw ++ 46 :: r).length - d - 1 = tw.length := by omega
          rw [hn, hL]
          have hg : (tw ++ 46 :: r)[tw.length]? = some 46 := by simp
          have ht : (tw ++ 46 :: r).take tw.length = tw := List.take_left
          have hdr : (tw ++ 46 :: r).drop (tw.length + 1) = r := by rw [← List.drop_drop, List.drop_left]; rfl
          rw [hg, ht, hdr, htw, hr]
          have hrne : r ≠ [] := by intro h; subst h; simp at hrd; omega
          have e : (!tw.isEmpty && !r.isEmpty) = true ↔ tw ≠ [] := by simp [hrne]
          by_cases htn : tw = []
          · rw [if_neg (fun h => e.mp h.1 htn), if_neg (fun h => by have := h.1; subst htn; simp at this; omega)]
          · rw [if_pos ⟨e.mpr htn, hrd⟩, if_pos ⟨by have := List.length_pos_iff.2 htn; omega, rfl, rfl, rfl⟩]
        · rw [if_neg (fun h => hrd h.2), if_neg]
          rintro ⟨h1, h2, h3, h4⟩
          have := key _ h2 h3
          omega
    · simp only [if_neg hcr]
      rw [if_neg (fun h => by cases h.1)]
      unfold refForm
      by_cases h0 : d = 0
      · rw [if_pos h0, hnall, if_neg (by simp)]
      · rw [if_neg h0, if_neg]
        rintro ⟨h1, h2, h3, h4⟩
        have hk := key _ h2 h3
        rw [hk] at h2 h4
        refine hcr ⟨by simpa using h2, ?_⟩
        rw [← List.drop_drop, List.drop_left] at h4
        exact h4
end Go.Proofs.YthmpapnhomngnaaDoor.A
