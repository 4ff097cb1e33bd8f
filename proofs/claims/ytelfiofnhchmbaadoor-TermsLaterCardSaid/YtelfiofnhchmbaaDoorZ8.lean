-- By pack.py, a program of this session's: declarations of this seat's texts, put together for a claim.
import Derived.Test.YtelfiofnhchmbaaDoorZ5
namespace Go.Proofs.YtelfiofnhchmbaaDoor.A
open Go.RowKit Go.Proofs.YtelfiofnhchmbaaDoor.B Go.Proofs.YtelfiofnhchmbaaDoorW.PrintWords Go.Proofs.YtelfiofnhchmbaaDoorW.PrintLast Go.Proofs.YtelfiofnhchmbaaDoorW.PrintMore
attribute [local go_sem] max2_int min2_int max_two min_two max_three min_three max_four min_four
set_option linter.unusedVariables false
set_option linter.unusedSimpArgs false
set_option maxHeartbeats 8000000
set_option maxRecDepth 100000
def rf04_Is.f (a0 : Int) : Option (Bool) := if a0 ≥ 0 then (some (decide (a0 ≤ 109572))) else (some false)
end Go.Proofs.YtelfiofnhchmbaaDoor.A
namespace Go.Proofs.YtelfiofnhchmbaaDoor.A
open Go.RowKit Go.Proofs.YtelfiofnhchmbaaDoor.B Go.Proofs.YtelfiofnhchmbaaDoorW.PrintWords Go.Proofs.YtelfiofnhchmbaaDoorW.PrintLast Go.Proofs.YtelfiofnhchmbaaDoorW.PrintMore
def befN (j : Nat) : Int := 365 * (j : Int) + (((1899 + j) / 4 : Nat) : Int) - (((1899 + j) / 100 : Nat) : Int) + (((1899 + j) / 400 : Nat) : Int) - 474 + 18 - 4
theorem lenK_at (j m : Nat) (h : m < 12) : lenK (12 * j + m) = lenYM j m := by
  unfold lenK
  rw [show (12 * j + m) / 12 = j by omega, show (12 * j + m) % 12 = m by omega]
theorem monN_in (m : Nat) (h : m < 12) : 28 ≤ monN m ∧ monN m ≤ 31 := by
  have : ∀ m, m < 12 → 28 ≤ monN m ∧ monN m ≤ 31 := by decide
  exact this m h
theorem lenYM_in (j m : Nat) (h : m < 12) : 28 ≤ lenYM j m ∧ lenYM j m ≤ 31 := by
  unfold lenYM
  split
  · split <;> omega
  · exact monN_in m h
theorem lenK_in (K : Nat) : 28 ≤ lenK K ∧ lenK K ≤ 31 := lenYM_in _ _ (Nat.mod_lt _ (by omega))
theorem first_year (j : Nat) : first (12 * (j + 1)) = first (12 * j) + 365 + (if leapN (1900 + j) = true then 1 else 0) := by
  have e (m : Nat) (h : m < 12) : first (12 * j + (m + 1)) = first (12 * j + m) + lenYM j m := by
    rw [← lenK_at j m h]; rfl
  have l0 : lenYM j 0 = 31 := rfl
  have l1 : lenYM j 1 = 28 + (if leapN (1900 + j) = true then 1 else 0) := by unfold lenYM; rw [if_pos rfl]; split <;> rfl
  have l2 : lenYM j 2 = 31 := rfl
  have l3 : lenYM j 3 = 30 := rfl
  have l4 : lenYM j 4 = 31 := rfl
  have l5 : lenYM j 5 = 30 := rfl
  have l6 : lenYM j 6 = 31 := rfl
  have l7 : lenYM j 7 = 31 := rfl
  have l8 : lenYM j 8 = 30 := rfl
  have l9 : lenYM j 9 = 31 := rfl
  have l10 : lenYM j 10 = 30 := rfl
  have l11 : lenYM j 11 = 31 := rfl
  have z : first (12 * j + 0) = first (12 * j) := rfl
  have e0 : first (12 * j + 1) = first (12 * j + 0) + lenYM j 0 := e 0 (by omega)
  have e1 : first (12 * j + 2) = first (12 * j + 1) + lenYM j 1 := e 1 (by omega)
  have e2 : first (12 * j + 3) = first (12 * j + 2) + lenYM j 2 := e 2 (by omega)
  have e3 : first (12 * j + 4) = first (12 * j + 3) + lenYM j 3 := e 3 (by omega)
  have e4 : first (12 * j + 5) = first (12 * j + 4) + lenYM j 4 := e 4 (by omega)
  have e5 : first (12 * j + 6) = first (12 * j + 5) + lenYM j 5 := e 5 (by omega)
  have e6 : first (12 * j + 7) = first (12 * j + 6) + lenYM j 6 := e 6 (by omega)
  have e7 : first (12 * j + 8) = first (12 * j + 7) + lenYM j 7 := e 7 (by omega)
  have e8 : first (12 * j + 9) = first (12 * j + 8) + lenYM j 8 := e 8 (by omega)
  have e9 : first (12 * j + 10) = first (12 * j + 9) + lenYM j 9 := e 9 (by omega)
  have e10 : first (12 * j + 11) = first (12 * j + 10) + lenYM j 10 := e 10 (by omega)
  have e11 : first (12 * j + 12) = first (12 * j + 11) + lenYM j 11 := e 11 (by omega)
  rw [show 12 * (j + 1) = 12 * j + 12 by omega]
  omega
theorem befN_succ (j : Nat) : befN (j + 1) = befN j + 365 + (if leapN (1900 + j) = true then 1 else 0) := by
  unfold befN leapN
  by_cases a : (1900 + j) % 4 = 0
  · by_cases b : (1900 + j) % 100 = 0
    · by_cases c : (1900 + j) % 400 = 0
      · rw [if_pos (by simp [a, b, c])]; omega
      · rw [if_neg (by simp [a, b, c])]; omega
    · have c : ¬ (1900 + j) % 400 = 0 := by omega
      rw [if_pos (by simp [a, b, c])]; omega
  · have b : ¬ (1900 + j) % 100 = 0 := by omega
    have c : ¬ (1900 + j) % 400 = 0 := by omega
    rw [if_neg (by simp [a, b, c])]; omega
theorem befN_first (j : Nat) : befN j = first (12 * j) := by
  induction j with
  | zero => rfl
  | succ j ih => rw [befN_succ, first_year, ih]
theorem first_lt {K L : Nat} (h : K < L) : first K + 28 ≤ first L := by
  induction L with
  | zero => omega
  | succ L ih =>
    have := (lenK_in L).1
    show first K + 28 ≤ first L + lenK L
    by_cases e : K = L
    · subst e; omega
    · have := ih (by omega); omega
theorem first_le {K L : Nat} (h : K ≤ L) : first K ≤ first L := by
  by_cases e : K = L
  · rw [e]; exact Int.le_refl _
  · have := first_lt (show K < L by omega); omega
theorem first_end : first 3600 = 109573 := by
  have := befN_first 300
  rw [show 12 * 300 = 3600 from rfl] at this
  rw [← this]; rfl
theorem first_nonneg (K : Nat) : 0 ≤ first K := first_le (Nat.zero_le K)
theorem days_Leap_eq (y : Nat) : days_Leap.f (y : Int) = some (leapN y) := by
  unfold days_Leap.f leapN
  rw [show Int.tmod (y : Int) 4 = ((y % 4 : Nat) : Int) from rfl, show Int.tmod (y : Int) 100 = ((y % 100 : Nat) : Int) from rfl, show Int.tmod (y : Int) 400 = ((y % 400 : Nat) : Int) from rfl]
  have e : (((y % 400 : Nat) : Int) == 0) = decide (y % 400 = 0) := by
    by_cases c : y % 400 = 0
    · rw [c]; rfl
    · rw [decide_eq_false c, beq_eq_false_iff_ne]; omega
  rw [e]
  by_cases a : y % 4 = 0
  · rw [if_pos (by omega), decide_eq_true a, Bool.true_and]
    by_cases b : y % 100 = 0
    · have c := e
      rw [if_pos (by omega), decide_eq_false (show ¬ y % 100 ≠ 0 by omega), Bool.false_or]
    · have c : ¬ y % 400 = 0 := by omega
      rw [if_neg (by omega), decide_eq_true (show y % 100 ≠ 0 by omega), Bool.true_or]
  · rw [if_neg (by omega), decide_eq_false a, Bool.false_and, Bool.false_or]
theorem monLen_eq (m : Nat) (h : m < 12) : monLen m = monN m := by
  have : ∀ m, m < 12 → monLen m = monN m := by decide
  exact this m h
theorem days_Length_eq (j m : Nat) (h : m < 12) : days_Length.f ((1900 + j : Nat) : Int) (((m + 1 : Nat)) : Int) = some (lenYM j m) := by
  unfold days_Length.f lenYM
  rw [if_neg (by omega)]
  by_cases c : m = 1
  · subst c
    rw [if_pos (by rfl), if_pos rfl, days_Leap_eq]; rfl
  · rw [if_neg (by omega), if_neg c, show ((((m + 1 : Nat) : Int) - 1).toNat) = m by omega, monLen_eq m h]
theorem days_before_eq (j : Nat) (h : j ≤ 300) : days_before.f ((1900 + j : Nat) : Int) = some (befN j) := by
  unfold days_before.f befN
  have w (n : Int) (a : -1000000 < n) (b : n < 1000000) : wrap64 n = n := by unfold wrap64; omega
  rw [show wrap64 (((1900 + j : Nat) : Int) - 1900) = (j : Int) by rw [w _ (by omega) (by omega)]; omega, show wrap64 (((1900 + j : Nat) : Int) - 1) = ((1899 + j : Nat) : Int) by rw [w _ (by omega) (by omega)]; omega]
  rw [show Int.tdiv ((1899 + j : Nat) : Int) 4 = (((1899 + j) / 4 : Nat) : Int) from rfl, show Int.tdiv ((1899 + j : Nat) : Int) 100 = (((1899 + j) / 100 : Nat) : Int) from rfl, show Int.tdiv ((1899 + j : Nat) : Int) 400 = (((1899 + j) / 400 : Nat) : Int) from rfl]
  have x4 : (1899 + j) / 4 ≤ 600 := by omega
  have x1 : (1899 + j) / 100 ≤ 600 := by omega
  have x2 : (1899 + j) / 400 ≤ 600 := by omega
  generalize (1899 + j) / 4 = a at *
  generalize (1899 + j) / 100 = b at *
  generalize (1899 + j) / 400 = c at *
  rw [w (a : Int) (by omega) (by omega), w (b : Int) (by omega) (by omega), w (c : Int) (by omega) (by omega), w (365 * (j : Int)) (by omega) (by omega)]
  rw [w ((a : Int) - b) (by omega) (by omega), w ((a : Int) - b + c) (by omega) (by omega), w ((a : Int) - b + c - 474) (by omega) (by omega), w ((a : Int) - b + c - 474 + 18) (by omega) (by omega), w ((a : Int) - b + c - 474 + 18 - 4) (by omega) (by omega), w _ (by omega) (by omega)]
  congr 1
  omega
theorem first_small (j : Nat) : first (12 * j) ≤ 366 * (j : Int) := by
  induction j with
  | zero => exact Int.le_refl _
  | succ j ih => rw [first_year]; split <;> omega
def dateR (K : Nat) (n : Int) : Int × Int × Int × Int := (((1900 + K / 12 : Nat) : Int), ((K % 12 + 1 : Nat) : Int), n - first K + 1, 0)
theorem ref04_Is_eq (n : Int) : rf04_Is.f n = some (decide (0 ≤ n ∧ n ≤ 109572)) := by
  unfold rf04_Is.f
  by_cases h : 0 ≤ n
  · rw [if_pos h]; congr 1; exact decide_eq_decide.mpr ⟨fun x => ⟨h, x⟩, fun x => x.2⟩
  · rw [if_neg h, decide_eq_false (by omega)]
theorem days_is_eq (n : Int) : days_is.f n = some (decide (0 ≤ n ∧ n ≤ 109572)) := ref04_Is_eq n
theorem days_Date_no (n : Int) (h : ¬ (0 ≤ n ∧ n ≤ 109572)) : Ev (fun k => days_Date.f k n) (0, 0, 0, 11) := by
  unfold days_Date.f
  rw [days_is_eq, decide_eq_false h]
  exact Ev.is rfl
theorem days_Date_months (K : Nat) (n : Int) (z : Int) (hK : K < 3600) (hn : n ≤ 109572) (ha : first K ≤ n) (hb : n < first (K + 1)) : ∀ d m : Nat, m + d = K % 12 → Ev (fun k => days_Date.l1 k (n - first (12 * (K / 12) + m)) ((1900 + K / 12 : Nat) : Int) ((m + 1 : Nat) : Int) z) (dateR K n)
  | d, m, e => by
    have hm : m < 12 := by omega
    have hL := first_le (show 12 * (K / 12) + m ≤ K by omega)
    have h0 := first_nonneg (12 * (K / 12) + m)
    have hl := lenYM_in (K / 12) m hm
    have hs : first (12 * (K / 12) + m + 1) = first (12 * (K / 12) + m) + lenYM (K / 12) m := by rw [← lenK_at (K / 12) m hm]; rfl
    refine Ev.step (fun k => by rw [days_Date.l1, days_Length_eq _ _ hm, Option.bind_some, Option.bind_some]) ?_
    cases d with
    | zero =>
      have e' : 12 * (K / 12) + m = K := by omega
      rw [e'] at hs ⊢
      refine Ev.no (by omega) (Ev.is ?_)
      unfold dateR
      rw [show wrap64 (n - first K + 1) = n - first K + 1 by unfold wrap64; omega, show m = K % 12 by omega]
    | succ d =>
      have := first_le (show 12 * (K / 12) + m + 1 ≤ K by omega)
      refine Ev.yes (by omega) ?_
      rw [show wrap64 (((m + 1 : Nat) : Int) + 1) = ((m + 1 + 1 : Nat) : Int) by unfold wrap64; omega, show wrap64 (n - first (12 * (K / 12) + m) - lenYM (K / 12) m) = n - first (12 * (K / 12) + (m + 1)) by rw [show 12 * (K / 12) + (m + 1) = 12 * (K / 12) + m + 1 by omega, hs]; unfold wrap64; omega]
      exact days_Date_months K n z hK hn ha hb d (m + 1) (by omega)
theorem days_Date_years (K : Nat) (n : Int) (y z : Int) (hK : K < 3600) (hn : n ≤ 109572) (ha : first K ≤ n) (hb : n < first (K + 1)) : ∀ d j : Nat, j + d = K / 12 → Ev (fun k => days_Date.l0 k n ((1900 + j : Nat) : Int) y z) (dateR K n)
  | d, j, e => by
    have hj : j ≤ 299 := by omega
    have h0 := first_nonneg (12 * (K / 12))
    have h1 := first_le (show 12 * (K / 12) ≤ K by omega)
    have h2 := first_le (show K + 1 ≤ 12 * (K / 12 + 1) by omega)
    have w1 : wrap64 (((1900 + j : Nat) : Int) + 1) = ((1900 + (j + 1) : Nat) : Int) := by unfold wrap64; omega
    have fin : j = K / 12 → Ev (fun k => days_Date.j1 k n ((1900 + j : Nat) : Int) y z) (dateR K n) := by
      intro ej
      subst ej
      refine Ev.step (fun k => by rw [days_Date.j1, days_before_eq _ (by omega), Option.bind_some, befN_first]) ?_
      rw [show wrap64 (n - first (12 * (K / 12))) = n - first (12 * (K / 12) + 0) by show _ = n - first (12 * (K / 12)); unfold wrap64; omega]
      exact days_Date_months K n z hK hn ha hb (K % 12) 0 (by omega)
    refine Ev.step (fun k => by rw [days_Date.l0, w1]) ?_
    cases d with
    | zero =>
      have ej : j = K / 12 := by omega
      refine Ev.both (fun h => ?_) (fun h => fin ej)
      rw [days_before_eq _ (by omega), befN_first]
      simp only [Option.bind_some]
      refine Ev.no ?_ (fin ej)
      rw [ej]; omega
    | succ d =>
      refine Ev.yes (by omega) ?_
      rw [days_before_eq _ (by omega), befN_first]
      simp only [Option.bind_some]
      have h3 := first_le (show 12 * (j + 1) ≤ 12 * (K / 12) by omega)
      exact Ev.yes (by omega) (days_Date_years K n y z hK hn ha hb d (j + 1) (by omega))
theorem days_Date_ev (K : Nat) (n : Int) (hK : K < 3600) (hn : n ≤ 109572) (ha : first K ≤ n) (hb : n < first (K + 1)) : Ev (fun k => days_Date.f k n) (dateR K n) := by
  have h0 := first_nonneg K
  unfold days_Date.f
  rw [days_is_eq, decide_eq_true ⟨by omega, hn⟩]
  have ht : wrap64 (1900 + wrap64 (Int.tdiv n 366)) = ((1900 + n.toNat / 366 : Nat) : Int) := by
    have : n = (n.toNat : Int) := by omega
    rw [this, show Int.tdiv (n.toNat : Int) 366 = ((n.toNat / 366 : Nat) : Int) from rfl, Int.toNat_natCast]
    have : n.toNat ≤ 109572 := by omega
    generalize n.toNat = q at *
    unfold wrap64; omega
  have hj : n.toNat / 366 ≤ K / 12 := by
    have h2 := first_le (show K + 1 ≤ 12 * (K / 12 + 1) by omega)
    have h3 := first_small (K / 12 + 1)
    omega
  show Ev (fun k => days_Date.l0 k n (wrap64 (1900 + wrap64 (Int.tdiv n 366))) 0 0) _
  rw [ht]
  exact days_Date_years K n 0 0 hK hn ha hb (K / 12 - n.toNat / 366) _ (by omega)
end Go.Proofs.YtelfiofnhchmbaaDoor.A
namespace Go.Proofs.YtelfiofnhchmbaaDoor.A
open Go.RowKit Go.Proofs.YtelfiofnhchmbaaDoor.B Go.Proofs.YtelfiofnhchmbaaDoorW.PrintWords Go.Proofs.YtelfiofnhchmbaaDoorW.PrintLast Go.Proofs.YtelfiofnhchmbaaDoorW.PrintMore
set_option linter.unusedVariables false
set_option linter.unusedSimpArgs false
def monIx : Nat → Int → Nat
  | 0, _ => 0
  | N + 1, n => if n < first N then monIx N n else N
theorem monIx_is (N : Nat) (n : Int) (h0 : 0 ≤ n) (h : n < first N) : monIx N n < N ∧ first (monIx N n) ≤ n ∧ n < first (monIx N n + 1) := by
  induction N with
  | zero => exact absurd h (by show ¬ n < 0; omega)
  | succ N ih =>
    unfold monIx
    by_cases e : n < first N
    · rw [if_pos e]
      obtain ⟨a, b⟩ := ih e
      exact ⟨by omega, b⟩
    · rw [if_neg e]
      exact ⟨by omega, by omega, h⟩
def mIx (n : Int) : Nat := monIx 3600 n
theorem mIx_is {n : Int} (h : Day n) : mIx n < 3600 ∧ first (mIx n) ≤ n ∧ n < first (mIx n + 1) :=
  monIx_is 3600 n h.1 (by rw [first_end]; have := h.2; omega)
theorem inY_in {n : Int} (h : inY n = true) : 0 ≤ n ∧ n ≤ 365 := by
  unfold inY at h
  rw [Bool.and_eq_true, decide_eq_true_eq, decide_eq_true_eq] at h
  exact h
end Go.Proofs.YtelfiofnhchmbaaDoor.A
