import Derived.Test.YthmpapnhomngnaaDoorL5
import Derived.Test.YthmpapnhomngnaaDoorAx1
import Derived.Test.YthmpapnhomngnaaDoorAx5
import Derived.Test.YthmpapnhomngnaaDoorAx8
import Derived.Test.YthmpapnhomngnaaDoorAx12
import Derived.Test.YthmpapnhomngnaaDoorAx14
namespace Go.Proofs.YthmpapnhomngnaaDoor.A
open Go.RowKit Go.Proofs.YthmpapnhomngnaaDoor.B Go.Proofs.YthmpapnhomngnaaDoorW.PrintWords Go.Proofs.YthmpapnhomngnaaDoorW.PrintLast Go.Proofs.YthmpapnhomngnaaDoorW.PrintMore

theorem refForm_facts {m : List UInt8} {d : Nat} {w r : List UInt8} (h : refForm m d = some (w, r)) : w.all isDig = true ∧ r.all isDig = true ∧ w ≠ [] ∧ r.length = d ∧ w.length + r.length ≤ m.length := by
  unfold refForm at h
  split at h
  · split at h
    · rename_i h1 h2
      simp only [Option.some.injEq, Prod.mk.injEq] at h
      obtain ⟨rfl, rfl⟩ := h
      exact ⟨h2.1, rfl, h2.2, h1.symm, by simp⟩
    · cases h
  · split at h
    · rename_i h1 h2
      simp only [Option.some.injEq, Prod.mk.injEq] at h
      obtain ⟨rfl, rfl⟩ := h
      refine ⟨h2.2.2.1, h2.2.2.2, ?_, ?_, ?_⟩
      · intro e; have := congrArg List.length e; rw [List.length_take, List.length_nil] at this; omega
      · rw [List.length_drop]; omega
      · rw [List.length_take, List.length_drop]; omega
    · cases h
def formM (neg : Bool) (m : List UInt8) (d : Nat) : Int × Int :=
  match refForm m d with
  | some (w, r) => if plainL w = w then parseCore neg (plainL (w ++ r)) else (0, 5)
  | none => (0, 5)
def parseM (l : List UInt8) (d : Int) : Int × Int := if fitsB d = false then (0, 2) else formM (negOf l) (magOf l) d.toNat
theorem plain_all {w r : List UInt8} (hw : w.all isDig = true) (hr : r.all isDig = true) : (plainL (w ++ r)).all isDig = true := plainL_all _ (by rw [List.all_append, hw, hr]; rfl)
theorem ba_toList (l : List UInt8) : (⟨l.toArray⟩ : ByteArray).data.toList = l := rfl
theorem sg_len {sg : ByteArray} {neg : Bool} (h : sg.data.toList = if neg = true then [45] else []) : sg.size ≤ 1 := by
  rw [size_eq', h]; cases neg <;> simp
theorem money_Parse_j2 (sg w r : ByteArray) (neg : Bool) (hsg : sg.data.toList = if neg = true then [45] else []) (hw : w.data.toList.all isDig = true) (hr : r.data.toList.all isDig = true) (hne : w.data.toList ≠ []) (hl : w.size + r.size ≤ 400) :
    Ev (fun k => money_Parse.j2 k sg w r (w.toList != (plainL w.data.toList))) (if plainL w.data.toList = w.data.toList then parseCore neg (plainL (w.data.toList ++ r.data.toList)) else (0, 5)) := by
  refine Ev.step (fun k => by rw [money_Parse.j2]) ?_
  rw [ByteArray.toList_eq]
  by_cases h : plainL w.data.toList = w.data.toList
  · rw [if_pos h, h]
    refine Ev.no (by simp) (Ev.yes (by omega) ?_)
    have hsz1 := size_eq' w
    have hsz2 := size_eq' r
    have hwr : (w ++ r).data.toList = w.data.toList ++ r.data.toList := ba_append w r
    refine Ev.bind (money_plain_at (w ++ r) (by rw [hwr, List.length_append]; omega)) ?_
    rw [hwr]
    have hal := plain_all hw hr
    have hn : plainL (w.data.toList ++ r.data.toList) ≠ [] := plainL_ne _ (by simp [hne])
    have hh := plainL_head (w.data.toList ++ r.data.toList)
    have hlen := plainL_len (w.data.toList ++ r.data.toList)
    rw [List.length_append] at hlen
    generalize plainL (w.data.toList ++ r.data.toList) = all at *
    have hs1 := sg_len hsg
    have hs2 : (⟨all.toArray⟩ : ByteArray).size = all.length := size_eq' _
    refine Ev.yes (by omega) (Ev.const ?_)
    rw [num_Parse_at _ _ _ (by rw [ByteArray.size_append]; omega), ba_append, hsg, ba_toList, parse_core neg all hal hn hh]
    unfold parseCore
    simp only [Option.bind_some]
    by_cases h1 : neg = true ∧ all = [48]
    · rw [if_pos h1, if_pos h1]; rfl
    · rw [if_neg h1, if_neg h1]
      by_cases h2 : dval all ≤ 1000000000000000
      · rw [if_pos h2, if_pos h2]; rfl
      · rw [if_neg h2, if_neg h2]; rfl
  · rw [if_neg h]
    exact Ev.yes (by rw [bne_iff_ne]; exact fun e => h e.symm) (Ev.const rfl)
theorem money_Parse_j2_bad (sg w r : ByteArray) : Ev (fun k => money_Parse.j2 k sg w r true) (0, 5) :=
  Ev.step (fun k => by rw [money_Parse.j2]) (Ev.yes rfl (Ev.const rfl))
theorem money_Parse_j1 (m sg : ByteArray) (d : Nat) (neg : Bool) (hsg : sg.data.toList = if neg = true then [45] else []) (hm : m.size ≤ 400) :
    Ev (fun k => money_Parse.j1 k m (d : Int) sg) (formM neg m.data.toList d) := by
  have hsz := size_eq' m
  refine Ev.step (fun k => by rw [money_Parse.j1]) ?_
  rw [show money_split.f m = some (ofL (splitL m.data.toList).1, ofL (splitL m.data.toList).2.1, (splitL m.data.toList).2.2) by unfold money_split.f; rw [if_pos (by omega)]]
  simp only [Option.bind_some]
  have hsf := split_form m.data.toList d
  unfold formM
  rw [← hsf]
  generalize hsp : splitL m.data.toList = S at *
  obtain ⟨w, r, ok⟩ := S
  dsimp only at *
  have hrs : ((ofL r).size : Int) = (r.length : Int) := by rw [size_eq']; rfl
  cases ok
  · rw [if_neg (by simp)]
    exact Ev.no (by decide) (money_Parse_j2_bad _ _ _)
  · refine Ev.yes rfl ?_
    by_cases hd : r.length = d
    · rw [if_pos ⟨rfl, hd⟩]
      rw [if_pos ⟨rfl, hd⟩] at hsf
      obtain ⟨f1, f2, f3, f4, f5⟩ := refForm_facts hsf.symm
      refine Ev.yes (by rw [hrs, hd]) ?_
      refine Ev.bind (money_plain_at (ofL w) (by show w.length ≤ 1000; omega)) ?_
      have := money_Parse_j2 sg (ofL w) (ofL r) neg hsg f1 f2 f3 (by rw [size_eq', size_eq']; show w.length + r.length ≤ 400; omega)
      rw [show ((⟨(plainL (ofL w).data.toList).toArray⟩ : ByteArray)).toList = plainL (ofL w).data.toList by rw [ByteArray.toList_eq]]
      exact this
    · rw [if_neg (fun h => hd h.2)]
      exact Ev.no (by rw [hrs]; omega) (money_Parse_j2_bad _ _ _)
theorem money_fits_at (d : Int) : money_fits.f d = some (fitsB d) := by
  unfold money_fits.f fitsB
  by_cases h : 0 ≤ d <;> simp [h]
theorem money_Parse_at (s : ByteArray) (d : Int) (hs : s.size ≤ 400) : Ev (fun k => money_Parse.f k s d) (parseM s.data.toList d) := by
  have hsz := size_eq' s
  unfold money_Parse.f parseM
  rw [money_fits_at]
  simp only [Option.bind_some]
  by_cases hf : fitsB d = false
  · rw [if_pos hf, hf]; exact Ev.no (by decide) (Ev.const rfl)
  rw [if_neg hf]
  rw [Bool.not_eq_false] at hf
  obtain ⟨d0, d4⟩ := (fitsB_iff d).mp hf
  obtain ⟨D, rfl⟩ : ∃ D : Nat, d = D := ⟨d.toNat, by omega⟩
  rw [Int.toNat_natCast]
  refine Ev.yes hf ?_
  have no : Ev (fun k => money_Parse.j0 k s (D : Int) (⟨#[]⟩ : ByteArray) false) (formM false s.data.toList D) :=
    Ev.step (fun k => by rw [money_Parse.j0]) (Ev.no (by decide) (money_Parse_j1 s _ D false rfl hs))
  cases hl : s.data.toList with
  | nil =>
    rw [hl] at no
    exact Ev.yes (by rw [ByteArray.toList_eq]; exact hl) no
  | cons c r =>
    rw [hl, List.length_cons] at hsz
    refine Ev.no (by rw [ByteArray.toList_eq, hl]; simp) (Ev.yes (by omega) ?_)
    rw [bt_head s c r hl]
    have hb : ((c.toNat : Int) == 45) = negOf (c :: r) := by
      unfold negOf
      rw [List.head?_cons, Bool.eq_iff_iff]
      have := byte_is c 45
      simpa using this
    rw [hb]
    cases hn : negOf (c :: r)
    · rw [hl] at no
      have : magOf (c :: r) = c :: r := by unfold magOf; rw [hn]; rfl
      rw [this]; exact no
    · have : magOf (c :: r) = r := by unfold magOf; rw [hn]; rfl
      rw [this]
      refine Ev.step (fun k => by rw [money_Parse.j0]) (Ev.yes rfl (Ev.yes (by omega) ?_))
      have := money_Parse_j1 (s.extract 1 s.size) (⟨#[45]⟩ : ByteArray) D true rfl (by rw [ByteArray.size_extract]; omega)
      rw [extract_tail s c r hl] at this
      exact this

/-! ### the reference's Parse -/
theorem ref07_Parse_j7 (sg x : ByteArray) (neg : Bool) (hsg : sg.data.toList = if neg = true then [45] else []) (ha : x.data.toList.all isDig = true) (hn : x.data.toList ≠ []) (hh : x.data.toList.head? = some 48 → x.data.toList = [48]) (hl : x.size ≤ 400) :
    Ev (fun k => accountingref07_Parse.j6 k sg x) (parseCore neg x.data.toList) := by
  have key : ∀ b, b = decide (neg = true ∧ x.data.toList = [48]) → Ev (fun k => accountingref07_Parse.j7 k sg x b) (parseCore neg x.data.toList) := by
    intro b hb
    refine Ev.step (fun k => by rw [accountingref07_Parse.j7]) ?_
    unfold parseCore
    by_cases h : neg = true ∧ x.data.toList = [48]
    · rw [decide_eq_true h] at hb; subst hb
      rw [if_pos h]; exact Ev.yes rfl (Ev.const rfl)
    · rw [decide_eq_false h] at hb; subst hb
      rw [if_neg h]
      have hs1 := sg_len hsg
      refine Ev.no (by decide) (Ev.yes (by omega) ?_)
      refine Ev.bind (ref01_Parse (sg ++ x) _ _ (by rw [ByteArray.size_append]; omega)) ?_
      rw [ba_append, hsg, parse_core neg _ ha hn hh, if_neg h]
      by_cases h2 : dval x.data.toList ≤ 1000000000000000
      · rw [if_pos h2, if_pos h2]; exact Ev.yes rfl (Ev.const rfl)
      · rw [if_neg h2, if_neg h2]; exact Ev.no (by decide) (Ev.const rfl)
  refine Ev.step (fun k => by rw [accountingref07_Parse.j6]) ?_
  rw [ByteArray.toList_eq, ByteArray.toList_eq, hsg]
  cases neg
  · exact Ev.no (by simp) (key false (by simp))
  · refine Ev.yes rfl (key _ ?_)
    rw [Bool.eq_iff_iff]; simp
theorem ref07_Parse_l0 (sg : ByteArray) (neg : Bool) (hsg : sg.data.toList = if neg = true then [45] else []) : ∀ (l : List UInt8) (x : ByteArray), x.data.toList = l → l.all isDig = true → l ≠ [] → l.length ≤ 400 → Ev (fun k => accountingref07_Parse.l0 k sg x) (parseCore neg (plainL l))
  | [], _, _, _, h, _ => absurd rfl h
  | c :: r, x, hx, ha, _, hl => by
    have hsz := size_eq' x
    rw [hx, List.length_cons] at hsz
    rw [List.length_cons] at hl
    refine Ev.step (fun k => by rw [accountingref07_Parse.l0]) ?_
    rw [bt_head x c r hx]
    unfold plainL
    have fin : (¬ (c = 48 ∧ r ≠ [])) → Ev (fun k => accountingref07_Parse.j6 k sg x) (parseCore neg (c :: r)) := by
      intro h
      have := ref07_Parse_j7 sg x neg hsg (by rw [hx]; exact ha) (by rw [hx]; simp) (by
        rw [hx]; intro h2
        simp only [List.head?_cons, Option.some.injEq] at h2
        by_cases hr : r = []
        · rw [h2, hr]
        · exact absurd ⟨h2, hr⟩ h) (by omega)
      rw [hx] at this; exact this
    by_cases hr : r = []
    · rw [if_neg (fun h => h.2 hr)]
      have := fin (fun h => h.2 hr)
      subst hr
      exact Ev.no (by simp at hsz; omega) this
    · have : 0 < r.length := List.length_pos_iff.2 hr
      refine Ev.yes (by omega) (Ev.yes (by omega) ?_)
      by_cases hc : c = 48
      · rw [if_pos ⟨hc, hr⟩]
        rw [List.all_cons, Bool.and_eq_true] at ha
        exact Ev.yes ((byte48 c).mpr hc) (Ev.yes (by omega) (ref07_Parse_l0 sg neg hsg r _ (extract_tail x c r hx) ha.2 hr (by omega)))
      · rw [if_neg (fun h => hc h.1)]
        exact Ev.no (fun h => hc ((byte48 c).mp h)) (fin (fun h => hc h.1))
theorem ref07_Parse_j4_bad (w r sg : ByteArray) : Ev (fun k => accountingref07_Parse.j4 k w r sg true) (0, 5) :=
  Ev.step (fun k => by rw [accountingref07_Parse.j4]) (Ev.yes rfl (Ev.const rfl))
/-- Both parts are there: are they digits, is the first one plain? -/
theorem ref07_Parse_j3 (w r sg : ByteArray) (d : Nat) (neg : Bool) (hsg : sg.data.toList = if neg = true then [45] else []) (hl : w.size + r.size ≤ 400) (h0 : d = 0 → r.data.toList = []) :
    Ev (fun k => accountingref07_Parse.j3 k (d : Int) w r sg) (if w.data.toList.all isDig = true ∧ w.data.toList ≠ [] ∧ (d ≠ 0 → r.data.toList.all isDig = true ∧ r.data.toList ≠ []) ∧ plainL w.data.toList = w.data.toList then parseCore neg (plainL (w.data.toList ++ r.data.toList)) else (0, 5)) := by
  have hsw := size_eq' w
  have hsr := size_eq' r
  refine Ev.step (fun k => by rw [accountingref07_Parse.j3]) (Ev.bind (ref01_Digits w (by omega)) ?_)
  by_cases hw : w.data.toList.all isDig = true ∧ w.data.toList ≠ []
  · obtain ⟨hw1, hw2⟩ := hw
    have e : (w.data.toList.all isDig && w.data.toList != []) = true := by rw [hw1]; simpa using hw2
    rw [e]
    refine Ev.yes rfl ?_
    have good : (d ≠ 0 → r.data.toList.all isDig = true ∧ r.data.toList ≠ []) → plainL w.data.toList = w.data.toList → Ev (fun k => accountingref07_Parse.j4 k w r sg false) (parseCore neg (plainL (w.data.toList ++ r.data.toList))) := by
      intro hr _
      have hra : r.data.toList.all isDig = true := by
        by_cases hd : d = 0
        · rw [h0 hd]; rfl
        · exact (hr hd).1
      refine Ev.step (fun k => by rw [accountingref07_Parse.j4]) (Ev.no (by decide) (Ev.yes (by omega) ?_))
      exact ref07_Parse_l0 sg neg hsg _ (w ++ r) (ba_append w r) (by rw [List.all_append, hw1, hra]; rfl) (by simp [hw2]) (by rw [List.length_append]; omega)
    have tl : plainL w.data.toList = w.data.toList → Ev (fun k => if (d : Int) > 0 then (accountingref01_Digits.f k r).bind fun t => accountingref07_Parse.j4 k w r sg (!t) else accountingref07_Parse.j4 k w r sg false) (if w.data.toList.all isDig = true ∧ w.data.toList ≠ [] ∧ (d ≠ 0 → r.data.toList.all isDig = true ∧ r.data.toList ≠ []) ∧ plainL w.data.toList = w.data.toList then parseCore neg (plainL (w.data.toList ++ r.data.toList)) else (0, 5)) := by
      intro hp
      refine Ev.both (fun hd => Ev.bind (ref01_Digits r (by omega)) ?_) (fun hd => ?_)
      · by_cases hr : r.data.toList.all isDig = true ∧ r.data.toList ≠ []
        · have e2 : (r.data.toList.all isDig && r.data.toList != []) = true := by rw [hr.1]; simpa using hr.2
          rw [e2, if_pos ⟨hw1, hw2, fun _ => hr, hp⟩]
          exact good (fun _ => hr) hp
        · have e2 : (r.data.toList.all isDig && r.data.toList != []) = false := by
            rw [Bool.eq_false_iff]; intro h; rw [Bool.and_eq_true] at h; exact hr ⟨h.1, by simpa using h.2⟩
          rw [e2, if_neg (fun h => hr (h.2.2.1 (by omega)))]
          exact ref07_Parse_j4_bad w r sg
      · rw [if_pos ⟨hw1, hw2, fun h => absurd h (by omega), hp⟩]
        exact good (fun h => absurd h (by omega)) hp
    have hps := plainL_same_iff w.data.toList
    refine Ev.both (fun h1 => Ev.yes (by omega) ?_) (fun h1 => tl (hps.mpr (by omega)))
    cases hlw : w.data.toList with
    | nil => exact absurd hlw hw2
    | cons c r' =>
      rw [hlw] at hps
      rw [bt_head w c r' hlw, ← hlw]
      refine Ev.both (fun h2 => ?_) (fun h2 => tl ?_)
      · have hc := (byte48 c).mp h2
        rw [if_neg]
        · exact ref07_Parse_j4_bad w r sg
        · rintro ⟨_, _, _, h3⟩
          rw [hlw] at h3
          refine hps.mp h3 ⟨?_, by rw [hc]; rfl⟩
          rw [← hlw]; omega
      · rw [hlw]
        exact hps.mpr (fun h3 => h2 ((byte48 c).mpr (by simpa using h3.2)))
  · have e : (w.data.toList.all isDig && w.data.toList != []) = false := by
      rw [Bool.eq_false_iff]; intro h; rw [Bool.and_eq_true] at h; exact hw ⟨h.1, by simpa using h.2⟩
    rw [e, if_neg (fun h => hw ⟨h.1, h.2.1⟩)]
    exact Ev.no (by decide) (ref07_Parse_j4_bad w r sg)
theorem ref07_Parse_j2 (m sg : ByteArray) (d : Nat) (hd4 : d ≤ 4) (neg : Bool) (hsg : sg.data.toList = if neg = true then [45] else []) (hm : m.size ≤ 400) :
    Ev (fun k => accountingref07_Parse.j2 k (d : Int) m (⟨#[]⟩ : ByteArray) sg) (formM neg m.data.toList d) := by
  have hsz := size_eq' m
  refine Ev.step (fun k => by rw [accountingref07_Parse.j2]) ?_
  have w1 : wrap64 (wrap64 ((m.size : Int) - (d : Int)) - 1) = (m.size : Int) - d - 1 := by unfold wrap64; omega
  have w2 : wrap64 ((m.size : Int) - (d : Int) - 1 + 1) = (m.size : Int) - d := by unfold wrap64; omega
  rw [w1, w2]
  unfold formM refForm
  by_cases h0 : d = 0
  · subst h0
    refine Ev.no (by decide) ?_
    have := ref07_Parse_j3 m (⟨#[]⟩ : ByteArray) sg 0 neg hsg (by show m.size + 0 ≤ 400; omega) (fun _ => rfl)
    rw [if_pos rfl]
    rw [show (⟨#[]⟩ : ByteArray).data.toList = [] from rfl] at this
    by_cases h1 : m.data.toList.all isDig = true ∧ m.data.toList ≠ []
    · rw [if_pos h1]
      dsimp only
      by_cases h2 : plainL m.data.toList = m.data.toList
      · rw [if_pos ⟨h1.1, h1.2, fun h => absurd rfl h, h2⟩] at this
        rw [if_pos h2]; exact this
      · rw [if_neg (fun h => h2 h.2.2.2)] at this
        rw [if_neg h2]; exact this
    · rw [if_neg h1]
      rw [if_neg (fun h => h1 ⟨h.1, h.2.1⟩)] at this
      exact this
  · rw [if_neg h0]
    refine Ev.yes (by omega) ?_
    refine Ev.both (fun h1 => ?_) (fun h1 => ?_)
    · rw [if_neg (fun h => by have := h.1; omega)]
      exact Ev.const rfl
    · obtain ⟨n, hn⟩ : ∃ n : Nat, n = m.size - d - 1 := ⟨_, rfl⟩
      have e1 : (m.size : Int) - d - 1 = (n : Int) := by omega
      have e2 : (m.size : Int) - d = ((n + 1 : Nat) : Int) := by omega
      rw [e1, e2, Int.toNat_natCast, Int.toNat_natCast, ← hsz, ← hn]
      have hnl : n < m.data.toList.length := by omega
      have hbt : bt m (n : Int) = ((m.data.toList.getD n 0).toNat : Int) := bt_eq m n
      rw [hbt, List.getD_eq_getElem?_getD, List.getElem?_eq_getElem hnl]
      simp only [Option.getD_some]
      refine Ev.yes (by omega) (Ev.yes (by omega) ?_)
      have h46 : ((m.data.toList[n].toNat : Int) = 46) ↔ m.data.toList[n] = 46 := by
        have := byte_is m.data.toList[n] 46
        simpa using this
      refine Ev.both (fun h2 => ?_) (fun h2 => ?_)
      · rw [h46] at h2
        refine Ev.yes (by omega) (Ev.yes (by omega) (Ev.yes (by omega) ?_))
        have := ref07_Parse_j3 (m.extract 0 n) (m.extract (n + 1) m.size) sg d neg hsg (by rw [ByteArray.size_extract, ByteArray.size_extract]; omega) (fun h => absurd h h0)
        rw [Lib.extract_to_end, show (m.extract 0 n).data.toList = m.data.toList.take n by simp] at this
        have hne : m.data.toList.take n ≠ [] := by
          intro e; have := congrArg List.length e; rw [List.length_take, List.length_nil] at this; omega
        have hne2 : m.data.toList.drop (n + 1) ≠ [] := by
          intro e; have := congrArg List.length e; rw [List.length_drop, List.length_nil] at this; omega
        by_cases hc : (m.data.toList.take n).all isDig = true ∧ (m.data.toList.drop (n + 1)).all isDig = true
        · rw [if_pos ⟨by omega, by rw [h2], hc.1, hc.2⟩]
          dsimp only
          by_cases h3 : plainL (m.data.toList.take n) = m.data.toList.take n
          · rw [if_pos ⟨hc.1, hne, fun _ => ⟨hc.2, hne2⟩, h3⟩] at this
            rw [if_pos h3]; exact this
          · rw [if_neg (fun h => h3 h.2.2.2)] at this
            rw [if_neg h3]; exact this
        · rw [if_neg (fun h => hc ⟨h.2.2.1, h.2.2.2⟩)]
          rw [if_neg (fun h => hc ⟨h.1, (h.2.2.1 h0).1⟩)] at this
          exact this
      · rw [if_neg (fun h => h2 (h46.mpr (by simpa using h.2.1)))]
        exact Ev.const rfl
theorem ref07_Parse (s : ByteArray) (d : Int) (hs : s.size ≤ 400) : Ev (fun k => accountingref07_Parse.f k s d) (parseM s.data.toList d) := by
  have hsz := size_eq' s
  have j0 : ∀ b, b = !fitsB d → Ev (fun k => accountingref07_Parse.j0 k s d b) (parseM s.data.toList d) := by
    intro b hb
    refine Ev.step (fun k => by rw [accountingref07_Parse.j0]) ?_
    unfold parseM
    by_cases hf : fitsB d = false
    · rw [if_pos hf]; rw [hf] at hb; subst hb; exact Ev.yes rfl (Ev.const rfl)
    rw [if_neg hf]
    rw [Bool.not_eq_false] at hf
    rw [hf] at hb; subst hb
    obtain ⟨d0, d4⟩ := (fitsB_iff d).mp hf
    obtain ⟨D, rfl⟩ : ∃ D : Nat, d = D := ⟨d.toNat, by omega⟩
    rw [Int.toNat_natCast]
    refine Ev.no (by decide) ?_
    have no : Ev (fun k => accountingref07_Parse.j1 k (D : Int) s (⟨#[]⟩ : ByteArray) (⟨#[]⟩ : ByteArray) false) (formM false s.data.toList D) :=
      Ev.step (fun k => by rw [accountingref07_Parse.j1]) (Ev.no (by decide) (ref07_Parse_j2 s _ D (by omega) false rfl hs))
    cases hl : s.data.toList with
    | nil =>
      rw [hl] at no
      exact Ev.yes (by rw [ByteArray.toList_eq]; exact hl) no
    | cons c r =>
      rw [hl, List.length_cons] at hsz
      refine Ev.no (by rw [ByteArray.toList_eq, hl]; simp) (Ev.yes (by omega) ?_)
      rw [bt_head s c r hl]
      have hb : ((c.toNat : Int) == 45) = negOf (c :: r) := by
        unfold negOf
        rw [List.head?_cons, Bool.eq_iff_iff]
        have := byte_is c 45
        simpa using this
      rw [hb]
      cases hn : negOf (c :: r)
      · rw [hl] at no
        have : magOf (c :: r) = c :: r := by unfold magOf; rw [hn]; rfl
        rw [this]; exact no
      · have : magOf (c :: r) = r := by unfold magOf; rw [hn]; rfl
        rw [this]
        refine Ev.step (fun k => by rw [accountingref07_Parse.j1]) (Ev.yes rfl (Ev.yes (by omega) ?_))
        have := ref07_Parse_j2 (s.extract 1 s.size) (⟨#[45]⟩ : ByteArray) D (by omega) true rfl (by rw [ByteArray.size_extract]; omega)
        rw [extract_tail s c r hl] at this
        exact this
  unfold accountingref07_Parse.f
  refine Ev.both (fun h => j0 true (by simp [fitsB]; omega)) (fun h => j0 _ (by rw [Bool.eq_iff_iff]; simp [fitsB]; omega))
end Go.Proofs.YthmpapnhomngnaaDoor.A
