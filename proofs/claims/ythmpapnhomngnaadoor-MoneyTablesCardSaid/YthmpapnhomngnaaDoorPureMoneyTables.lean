/- Proved: the Go function accountinglaw07.MoneyTables returns true at every input and leaves its arguments as they were; the package variable money.powers is tied to the program's text. This text: the plain law over the functions that the walks have shown. By an AI agent. -/
import Derived.Test.YthmpapnhomngnaaDoorL3
import Derived.Test.YthmpapnhomngnaaDoorAx0
import Derived.Test.YthmpapnhomngnaaDoorAx1
import Derived.Test.YthmpapnhomngnaaDoorAx6
import Derived.Test.YthmpapnhomngnaaDoorAx7
import Derived.Test.YthmpapnhomngnaaDoorAx8
import Derived.Test.YthmpapnhomngnaaDoorAx14
import Derived.Test.YthmpapnhomngnaaDoorAx15
import Derived.Test.YthmpapnhomngnaaDoorAx16
import Derived.Test.YthmpapnhomngnaaDoorAx23
namespace Go.Proofs.YthmpapnhomngnaaDoor.A
open Go.RowKit Go.Proofs.YthmpapnhomngnaaDoor.B Go.Proofs.YthmpapnhomngnaaDoorW.PrintWords Go.Proofs.YthmpapnhomngnaaDoorW.PrintLast Go.Proofs.YthmpapnhomngnaaDoorW.PrintMore
theorem bt_up (s : ByteArray) (i : Nat) (h : i < s.size) : bt s (i : Int) = (s[i].toNat : Int) := by
  have hb : bt s (i : Int) = ((s.data.toList.getD i 0).toNat : Int) := bt_eq s i
  rw [hb, List.getD_eq_getElem?_getD, List.getElem?_eq_getElem (by rw [size_eq'] at h; exact h)]
  simp; rfl
theorem code07_l0 (s : ByteArray) (h3 : s.size = 3) : ∀ (n i : Nat), i + n = 3 → (∀ j, (h : j < i) → (h' : j < s.size) → isUp s[j] = true) → Ev (fun k => accountingref07_Code.l0 k s (i : Int)) (codeL s.data.toList)
  | 0, i, hi, hu => by
    refine Ev.step (fun k => by rw [accountingref07_Code.l0]) (Ev.no (by omega) (Ev.is ?_))
    have hsz := size_eq' s
    unfold codeL
    have hall : s.data.toList.all isUp = true := by
      rw [List.all_eq_true]
      intro x hx
      obtain ⟨j, hj, rfl⟩ := List.getElem_of_mem hx
      rw [list_at s j (by omega)]
      exact hu j (by omega) (by omega)
    rw [hall, Bool.true_and]
    exact (decide_eq_true (by omega)).symm
  | n + 1, i, hi, hu => by
    have hsz := size_eq' s
    refine Ev.step (fun k => by rw [accountingref07_Code.l0]) (Ev.yes (by omega) (Ev.yes (by omega) (Ev.yes (by omega) ?_)))
    rw [bt_up s i (by omega)]
    have bad : isUp s[i] = false → codeL s.data.toList = false := fun h => codeL_bad (i := i) (by omega) (by rw [list_at s i (by omega)]; exact h)
    refine Ev.both (fun h => Ev.is (bad ?_).symm) (fun h => Ev.both (fun h2 => Ev.is (bad ?_).symm) (fun h2 => ?_))
    · rw [Bool.eq_false_iff, Ne, isUp_iff]; omega
    · rw [Bool.eq_false_iff, Ne, isUp_iff]; omega
    · have hw : wrap64 ((i : Int) + 1) = ((i + 1 : Nat) : Int) := by unfold wrap64; omega
      rw [hw]
      refine code07_l0 s h3 n (i + 1) (by omega) (fun j hj hj' => ?_)
      by_cases e : j < i
      · exact hu j e hj'
      · obtain rfl : j = i := by omega
        rw [isUp_iff]; omega
theorem code07_f (s : ByteArray) : Ev (fun k => accountingref07_Code.f k s) (codeL s.data.toList) := by
  have hsz := size_eq' s
  unfold accountingref07_Code.f
  refine Ev.both (fun h => code07_l0 s (by omega) 3 0 (by omega) (fun j h => by omega)) (fun h => Ev.is ?_)
  unfold codeL
  symm
  rw [Bool.and_eq_false_iff]; right
  exact decide_eq_false (by omega)
def rtF (l : List S56) : Nat → Nat → Bool
  | 0, _ => true
  | d + 1, i => if codeL (rd_T56 l (i : Int)).f0.data.toList = true then (if (rd_T56 l (i : Int)).f1 < 0 then false else if 4 < (rd_T56 l (i : Int)).f1 then false else
      if 0 < i then (if Op.bytesLess (rd_T56 l ((i : Int) - 1)).f0.toList (rd_T56 l (i : Int)).f0.toList = true then rtF l d (i + 1) else false) else rtF l d (i + 1)) else false
def dgF (l : List S56) (s : ByteArray) : Nat → Nat → Int × Bool
  | 0, _ => (0, false)
  | d + 1, i => if (rd_T56 l (i : Int)).f0.toList = s.toList then ((rd_T56 l (i : Int)).f1, true) else dgF l s d (i + 1)
def rtL (l : List S56) : Bool := if 40 < l.length then false else rtF l l.length 0
def dgL (l : List S56) (s : ByteArray) : Int × Bool := if rtL l = true then dgF l s l.length 0 else (0, false)
theorem rd_mem (l : List S56) (i : Nat) (h : i < l.length) : rd_T56 l (i : Int) ∈ l := by
  unfold rd_T56
  rw [Int.toNat_natCast, List.getD_eq_getElem?_getD, List.getElem?_eq_getElem h]
  exact List.getElem_mem h
theorem nx (i : Nat) (h : i ≤ 1000) : wrap64 ((i : Int) + 1) = ((i + 1 : Nat) : Int) := by unfold wrap64; omega
theorem pv (i : Nat) (h : i ≤ 1000) : wrap64 ((i : Int) - 1) = (i : Int) - 1 := by unfold wrap64; omega
theorem code_ev (s : ByteArray) (h : s.size ≤ 140737488351232) : money_Code.f s = some (codeL s.data.toList) := by unfold money_Code.f; rw [if_pos h]
theorem money_Right_l0 (l : List S56) (hl : l.length ≤ 50) (hs : ∀ x ∈ l, x.f0.size ≤ 140737488351232) (d : Nat) : ∀ i : Nat, i + d = l.length → Ev (fun k => money_Right.l0 k l l (l.length : Int) (i : Int)) (rtF l d i) := by
  induction d with
  | zero =>
    intro i hi
    refine Ev.step (fun k => by rw [money_Right.l0]) ?_
    exact Ev.no (by omega) (Ev.is rfl)
  | succ d ih =>
    intro i hi
    have hil : i < l.length := by omega
    refine Ev.step (fun k => by rw [money_Right.l0]) (Ev.yes (by omega) (Ev.yes (by omega) (Ev.yes (by omega) ?_)))
    rw [code_ev _ (hs _ (rd_mem l i hil)), nx i (by omega), pv i (by omega)]
    have hn := ih (i + 1) (by omega)
    unfold rtF money_fits.f
    simp only [Option.bind_some]
    refine Ev.both (fun h1 => ?_) (fun h1 => Ev.is (by rw [if_neg h1]))
    rw [if_pos h1]
    by_cases g1 : (rd_T56 l (i : Int)).f1 < 0
    · rw [if_pos g1, if_neg (by omega)]
      simp only [Option.bind_some]
      exact Ev.no (by decide) (Ev.is rfl)
    rw [if_neg g1, if_pos (by omega)]
    simp only [Option.bind_some]
    refine Ev.both (fun h2 => ?_) (fun h2 => Ev.is ?_)
    · rw [decide_eq_true_iff] at h2
      rw [if_neg (by omega)]
      refine Ev.both (fun h3 => ?_) (fun h3 => ?_)
      · rw [if_pos (by omega)]
        exact Ev.yes (by omega) (Ev.yes (by omega) (Ev.both (fun h4 => by rw [if_pos h4]; exact hn) (fun h4 => Ev.is (by rw [if_neg h4]))))
      · rw [if_neg (by omega)]; exact hn
    · rw [decide_eq_true_iff] at h2
      rw [if_pos (by omega)]
theorem money_Right_ev (l : List S56) (hl : l.length ≤ 50) (hs : ∀ x ∈ l, x.f0.size ≤ 140737488351232) : Ev (fun k => money_Right.f k l) (rtL l) := by
  unfold money_Right.f rtL
  refine Ev.both (fun h => Ev.is (by rw [if_pos (by omega)])) (fun h => ?_)
  rw [if_neg (by omega)]
  exact money_Right_l0 l hl hs l.length 0 (by omega)
theorem ref07_Right_l0 (l : List S56) (hl : l.length ≤ 50) (d : Nat) : ∀ i : Nat, i + d = l.length → Ev (fun k => accountingref07_Right.l0 k l (i : Int)) (rtF l d i) := by
  induction d with
  | zero =>
    intro i hi
    refine Ev.step (fun k => by rw [accountingref07_Right.l0]) ?_
    exact Ev.no (by omega) (Ev.is rfl)
  | succ d ih =>
    intro i hi
    have hil : i < l.length := by omega
    refine Ev.step (fun k => by rw [accountingref07_Right.l0]) (Ev.yes (by omega) (Ev.yes (by omega) (Ev.bind (code07_f _) ?_)))
    rw [nx i (by omega), pv i (by omega)]
    have hn := ih (i + 1) (by omega)
    unfold rtF
    refine Ev.both (fun h1 => ?_) (fun h1 => Ev.is (by rw [if_neg h1]))
    rw [if_pos h1]
    refine Ev.both (fun g1 => Ev.is (by rw [if_pos g1])) (fun g1 => ?_)
    rw [if_neg g1]
    refine Ev.both (fun h2 => Ev.is (by rw [if_pos (by omega)])) (fun h2 => ?_)
    rw [if_neg (by omega)]
    refine Ev.both (fun h3 => ?_) (fun h3 => ?_)
    · rw [if_pos (by omega)]
      exact Ev.yes (by omega) (Ev.yes (by omega) (Ev.both (fun h4 => by rw [if_pos h4]; exact hn) (fun h4 => Ev.is (by rw [if_neg h4]))))
    · rw [if_neg (by omega)]; exact hn
theorem ref07_Right_ev (l : List S56) (hl : l.length ≤ 50) : Ev (fun k => accountingref07_Right.f k l) (rtL l) := by
  unfold accountingref07_Right.f rtL
  refine Ev.both (fun h => Ev.is (by rw [if_pos (by omega)])) (fun h => ?_)
  rw [if_neg (by omega)]
  exact ref07_Right_l0 l hl l.length 0 (by omega)
theorem money_Digits_l0 (l : List S56) (s : ByteArray) (hl : l.length ≤ 50) (d : Nat) : ∀ i : Nat, i + d = l.length → Ev (fun k => money_Digits.l0 k s l (l.length : Int) (i : Int)) (dgF l s d i) := by
  induction d with
  | zero =>
    intro i hi
    refine Ev.step (fun k => by rw [money_Digits.l0]) ?_
    exact Ev.no (by omega) (Ev.is rfl)
  | succ d ih =>
    intro i hi
    refine Ev.step (fun k => by rw [money_Digits.l0]) (Ev.yes (by omega) (Ev.yes (by omega) (Ev.yes (by omega) ?_)))
    rw [nx i (by omega)]
    unfold dgF
    exact Ev.both (fun h => Ev.is (by rw [if_pos h])) (fun h => by rw [if_neg h]; exact ih (i + 1) (by omega))
theorem ref07_Digits_l0 (l : List S56) (s : ByteArray) (hl : l.length ≤ 50) (d : Nat) : ∀ i : Nat, i + d = l.length → Ev (fun k => accountingref07_Digits.l0 k l s (i : Int)) (dgF l s d i) := by
  induction d with
  | zero =>
    intro i hi
    refine Ev.step (fun k => by rw [accountingref07_Digits.l0]) ?_
    exact Ev.no (by omega) (Ev.is rfl)
  | succ d ih =>
    intro i hi
    refine Ev.step (fun k => by rw [accountingref07_Digits.l0]) (Ev.yes (by omega) (Ev.yes (by omega) ?_))
    rw [nx i (by omega)]
    unfold dgF
    exact Ev.both (fun h => Ev.is (by rw [if_pos h])) (fun h => by rw [if_neg h]; exact ih (i + 1) (by omega))
theorem money_Digits_ev (l : List S56) (s : ByteArray) (hl : l.length ≤ 50) (hs : ∀ x ∈ l, x.f0.size ≤ 140737488351232) : Ev (fun k => money_Digits.f k l s) (dgL l s) := by
  unfold money_Digits.f dgL
  exact Ev.bind (money_Right_ev l hl hs) (Ev.both (fun h => by rw [if_pos h]; exact money_Digits_l0 l s hl l.length 0 (by omega)) (fun h => Ev.is (by rw [if_neg h])))
theorem ref07_Digits_ev (l : List S56) (s : ByteArray) (hl : l.length ≤ 50) : Ev (fun k => accountingref07_Digits.f k l s) (dgL l s) := by
  unfold accountingref07_Digits.f dgL
  exact Ev.bind (ref07_Right_ev l hl) (Ev.both (fun h => by rw [if_pos h]; exact ref07_Digits_l0 l s hl l.length 0 (by omega)) (fun h => Ev.is (by rw [if_neg h])))
end Go.Proofs.YthmpapnhomngnaaDoor.A
namespace Go.Proofs.YthmpapnhomngnaaDoor.Pure
open Go.RowKit Go.Proofs.YthmpapnhomngnaaDoor.A Go.Proofs.YthmpapnhomngnaaDoor.B Go.Proofs.YthmpapnhomngnaaDoorW.PrintWords Go.Proofs.YthmpapnhomngnaaDoorW.PrintLast Go.Proofs.YthmpapnhomngnaaDoorW.PrintMore
theorem MoneyTables : ∀ (l : List S56) (s : ByteArray), (∀ x ∈ l, x.f0.size ≤ 140737488351232) → s.size ≤ 140737488351232 → ∃ k, accountinglaw07_MoneyTables.f k l s = some true := by
  intro l s hs h
  have hj : ∀ b : Bool, b = true → Ev (fun k => accountinglaw07_MoneyTables.j0 k l s b) true := fun b hb => Ev.step (fun k => by rw [accountinglaw07_MoneyTables.j0]) (Ev.yes hb (Ev.is rfl))
  have main : Ev (fun k => accountinglaw07_MoneyTables.f k l s) true := by
    unfold accountinglaw07_MoneyTables.f
    refine Ev.both (fun _ => hj _ rfl) (fun h50 => ?_)
    have hl : l.length ≤ 50 := by omega
    by_cases h100 : (s.size : Int) > 100
    · exact hj _ (decide_eq_true h100)
    rw [decide_eq_false h100]
    refine Ev.step (fun k => by rw [accountinglaw07_MoneyTables.j0]) (Ev.no (by decide) (Ev.bind (money_Digits_ev l s hl hs) (Ev.bind (ref07_Digits_ev l s hl) ?_)))
    rw [code_ev s h]
    simp only [Option.bind_some]
    exact Ev.bind (code07_f s) (Ev.yes (by simp) (Ev.bind (money_Right_ev l hl hs) (Ev.bind (ref07_Right_ev l hl) (Ev.yes (by simp) (Ev.yes (by simp) (Ev.yes (by simp) (Ev.bind lives07 (Ev.is rfl))))))))
  obtain ⟨n, h⟩ := main
  exact ⟨n, h n (Nat.le_refl _)⟩
end Go.Proofs.YthmpapnhomngnaaDoor.Pure
