-- By pack.py, a program of this session's: declarations of this seat's texts, put together for a claim.
import Derived.Test.YtelfiofnhchmbaaDoorZ8
namespace Go.Proofs.YtelfiofnhchmbaaDoor.A
open Go.RowKit Go.Proofs.YtelfiofnhchmbaaDoor.B Go.Proofs.YtelfiofnhchmbaaDoorW.PrintWords Go.Proofs.YtelfiofnhchmbaaDoorW.PrintLast Go.Proofs.YtelfiofnhchmbaaDoorW.PrintMore
set_option linter.unusedVariables false
set_option linter.unusedSimpArgs false
theorem terms_isDay_ev (n : Int) : Ev (fun k => terms_isDay.f k n) (decide (Day n)) := by
  unfold terms_isDay.f
  by_cases h : Day n
  · obtain ⟨a, b, c⟩ := mIx_is h
    refine Ev.bind (days_Date_ev _ n a h.2 b c) (Ev.is ?_)
    rw [decide_eq_true h]; rfl
  · refine Ev.bind (days_Date_no n h) (Ev.is ?_)
    rw [decide_eq_false h]; rfl
theorem okFrom_at (l : List S53) (d : Nat) : ∀ i j, okFrom l i d = true → i ≤ j → j < i + d → okAt l j = true := by
  induction d with
  | zero => intro i j h a b; omega
  | succ d ih =>
    intro i j h a b
    unfold okFrom at h
    rw [Bool.and_eq_true] at h
    by_cases e : i = j
    · rw [← e]; exact h.1
    · exact ih (i + 1) j h.2 (by omega) (by omega)
theorem okAt_days {l : List S53} {j : Nat} (h : okAt l j = true) : 0 ≤ (cutAt l j).f0 ∧ (cutAt l j).f0 ≤ 365 := by
  unfold okAt at h
  rw [Bool.and_eq_true] at h
  exact inY_in h.1
theorem termsOk_from {n : Int} {l : List S53} (h : termsOk n l = true) : okFrom l 0 l.length = true := by
  unfold termsOk at h
  rw [Bool.and_eq_true, Bool.and_eq_true] at h
  exact h.2.2
def cutFrom (l : List S53) (day paid : Int) : Nat → Nat → Int × Int × Int
  | _, 0 => (0, 1, 0)
  | i, d + 1 => if paid ≤ day + (cutAt l i).f0 then ((cutAt l i).f1.f0, (cutAt l i).f1.f1, 0) else cutFrom l day paid (i + 1) d
def cutS (n : Int) (l : List S53) (day paid : Int) : Int × Int × Int :=
  if termsOk n l = true then (if Day day ∧ Day paid then cutFrom l day paid 0 l.length else (0, 0, 11)) else (0, 0, 2)
theorem terms_Cut_loop (l : List S53) (day paid : Int) (hd : Day day) (hlen : l.length ≤ 1000) : ∀ d i : Nat, i + d = l.length → okFrom l i d = true → Ev (fun k => terms_Cut.l0 k day paid l (l.length : Int) (i : Int)) (cutFrom l day paid i d)
  | 0, i, e, _ => by
    refine Ev.step (fun k => by rw [terms_Cut.l0]) ?_
    exact Ev.no (by omega) (Ev.is rfl)
  | d + 1, i, e, ok => by
    have hi := okAt_days (okFrom_at l (d + 1) i i ok (Nat.le_refl _) (by omega))
    unfold okFrom at ok
    rw [Bool.and_eq_true] at ok
    unfold Day at hd
    refine Ev.step (fun k => by rw [terms_Cut.l0, rd_cut, w_succ i (by omega), show wrap64 (day + (cutAt l i).f0) = day + (cutAt l i).f0 by unfold wrap64; omega]) (Ev.yes (by omega) (Ev.yes (by omega) (Ev.yes (by omega) ?_)))
    unfold cutFrom
    refine Ev.both (fun h => ?_) (fun h => ?_)
    · rw [if_pos h]; exact Ev.is rfl
    · rw [if_neg h]; exact terms_Cut_loop l day paid hd hlen d (i + 1) (by omega) ok.2
theorem terms_Cut_ev (n : Int) (b : Bool) (l : List S53) (day paid : Int) (hl : Cuts l) (hlen : l.length ≤ 1000) : Ev (fun k => terms_Cut.f k n b l day paid) (cutS n l day paid) := by
  unfold terms_Cut.f cutS
  refine Ev.bind (terms_Right_ev n b l hl hlen) (Ev.both (fun h => ?_) (fun h => ?_))
  · rw [if_pos h]
    refine Ev.bind (terms_isDay_ev day) (Ev.both (fun hd => ?_) (fun hd => ?_))
    · have hd := of_decide_eq_true hd
      refine Ev.bind (terms_isDay_ev paid) ?_
      by_cases hp : Day paid
      · rw [decide_eq_true hp, if_pos ⟨hd, hp⟩]
        refine Ev.step (fun k => by rw [terms_Cut.j0]) ?_
        exact Ev.no (by decide) (terms_Cut_loop l day paid hd hlen l.length 0 (by omega) (termsOk_from h))
      · rw [decide_eq_false hp, if_neg (fun x => hp x.2)]
        refine Ev.step (fun k => by rw [terms_Cut.j0]) ?_
        exact Ev.yes rfl (Ev.is rfl)
    · have hd := of_decide_eq_false (Bool.eq_false_iff.mpr hd)
      rw [if_neg (fun x => hd x.1)]
      refine Ev.step (fun k => by rw [terms_Cut.j0]) ?_
      exact Ev.yes rfl (Ev.is rfl)
  · rw [if_neg h]; exact Ev.is rfl
end Go.Proofs.YtelfiofnhchmbaaDoor.A
