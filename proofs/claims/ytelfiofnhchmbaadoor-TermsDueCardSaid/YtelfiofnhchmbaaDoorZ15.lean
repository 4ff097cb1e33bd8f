-- By pack.py, a program of this session's: declarations of this seat's texts, put together for a claim.
import Derived.Test.YtelfiofnhchmbaaDoorZ8
namespace Go.Proofs.YtelfiofnhchmbaaDoor.A
open Go.RowKit Go.Proofs.YtelfiofnhchmbaaDoor.B Go.Proofs.YtelfiofnhchmbaaDoorW.PrintWords Go.Proofs.YtelfiofnhchmbaaDoorW.PrintLast Go.Proofs.YtelfiofnhchmbaaDoorW.PrintMore
theorem first_at {K : Nat} (h : K ≤ 3600) : first K ≤ 109573 := by rw [← first_end]; exact first_le h
theorem days_Of_loop (j M : Nat) (x z : Int) (hj : j < 300) (hM : M < 12) (hx : 0 ≤ x) (hx' : x ≤ 31) : ∀ d m : Nat, m + d = M → Ev (fun k => days_Of.l0 k (first (12 * j + m) + x) ((m + 1 : Nat) : Int) ((1900 + j : Nat) : Int) ((M + 1 : Nat) : Int) z) (first (12 * j + M) + x, 0)
  | d, m, e => by
    have hm : m < 12 := by omega
    have h0 := first_nonneg (12 * j + m)
    have hl := lenYM_in j m hm
    have hs : first (12 * j + m + 1) = first (12 * j + m) + lenYM j m := by rw [← lenK_at j m hm]; rfl
    have h1 := first_at (show 12 * j + m ≤ 3600 by omega)
    cases d with
    | zero =>
      have e' : m = M := by omega
      subst e'
      exact Ev.step (fun k => by rw [days_Of.l0]) (Ev.no (by omega) (Ev.is rfl))
    | succ d =>
      refine Ev.step (fun k => by rw [days_Of.l0, days_Length_eq _ _ hm, Option.bind_some]) (Ev.yes (by omega) ?_)
      rw [show wrap64 (((m + 1 : Nat) : Int) + 1) = ((m + 1 + 1 : Nat) : Int) by unfold wrap64; omega, show wrap64 (first (12 * j + m) + x + lenYM j m) = first (12 * j + (m + 1)) + x by rw [show 12 * j + (m + 1) = 12 * j + m + 1 by omega, hs]; unfold wrap64; omega]
      exact days_Of_loop j M x z hj hM hx hx' d (m + 1) (by omega)
theorem days_Of_ev (K : Nat) (q : Int) (hK : K < 3600) (h1 : 1 ≤ q) (h2 : q ≤ lenK K) : Ev (fun k => days_Of.f k ((1900 + K / 12 : Nat) : Int) ((K % 12 + 1 : Nat) : Int) q) (first K + (q - 1), 0) := by
  have hm : K % 12 < 12 := Nat.mod_lt _ (by omega)
  have hl := lenK_in K
  unfold days_Of.f
  refine Ev.no (by omega) (Ev.no (by omega) (Ev.no (by omega) ?_))
  rw [days_Length_eq _ _ hm]
  have hd : decide (q > lenYM (K / 12) (K % 12)) = false := decide_eq_false (by have : lenK K = lenYM (K / 12) (K % 12) := rfl; omega)
  show Ev (fun k => days_Of.j0 k (decide (q > lenYM (K / 12) (K % 12))) _ _ _) _
  rw [hd]
  refine Ev.step (fun k => by rw [days_Of.j0]) (Ev.no (by decide) ?_)
  rw [days_before_eq _ (by omega), befN_first]
  have h0 := first_nonneg (12 * (K / 12))
  have h3 := first_at (show 12 * (K / 12) ≤ 3600 by omega)
  show Ev (fun k => days_Of.l0 k (wrap64 (wrap64 (first (12 * (K / 12)) + q) - 1)) 1 _ _ _) _
  rw [show wrap64 (wrap64 (first (12 * (K / 12)) + q) - 1) = first (12 * (K / 12) + 0) + (q - 1) by show _ = first (12 * (K / 12)) + (q - 1); unfold wrap64; omega]
  have h := days_Of_loop (K / 12) (K % 12) (q - 1) q (by omega) hm (by omega) (by omega) (K % 12) 0 (by omega)
  rw [show 12 * (K / 12) + K % 12 = K by omega] at h
  exact h
theorem days_MonthEnd_ev (K : Nat) (n : Int) (hK : K < 3600) (hn : n ≤ 109572) (ha : first K ≤ n) (hb : n < first (K + 1)) : Ev (fun k => days_MonthEnd.f k n) (first (K + 1) - 1, 0) := by
  have hm : K % 12 < 12 := Nat.mod_lt _ (by omega)
  have hl := lenK_in K
  have hs : first (K + 1) = first K + lenK K := rfl
  unfold days_MonthEnd.f
  refine Ev.bind (days_Date_ev K n hK hn ha hb) (Ev.no (fun h => h rfl) (Ev.both (fun h => Ev.is ?_) (fun h => ?_)))
  · have h1 : ((1900 + K / 12 : Nat) : Int) = 2199 := h.1
    have h2 : ((K % 12 + 1 : Nat) : Int) = 12 := h.2.1
    have e : K + 1 = 3600 := by omega
    rw [e, first_end]; rfl
  · show Ev (fun k => (days_Length.f ((1900 + K / 12 : Nat) : Int) ((K % 12 + 1 : Nat) : Int)).bind fun n => days_Of.f k ((1900 + K / 12 : Nat) : Int) ((K % 12 + 1 : Nat) : Int) n) _
    rw [days_Length_eq _ _ hm]
    have h := days_Of_ev K (lenK K) hK (by omega) (Int.le_refl _)
    have e : lenK K = lenYM (K / 12) (K % 12) := rfl
    rw [show first (K + 1) - 1 = first K + (lenYM (K / 12) (K % 12) - 1) by omega]
    rw [e] at h
    simp only [Option.bind_some]
    exact h
theorem days_MonthEnd_no (n : Int) (h : ¬ (0 ≤ n ∧ n ≤ 109572)) : Ev (fun k => days_MonthEnd.f k n) (0, 11) := by
  unfold days_MonthEnd.f
  exact Ev.bind (days_Date_no n h) (Ev.yes (by decide) (Ev.is rfl))
end Go.Proofs.YtelfiofnhchmbaaDoor.A
namespace Go.Proofs.YtelfiofnhchmbaaDoor.A
open Go.RowKit Go.Proofs.YtelfiofnhchmbaaDoor.B Go.Proofs.YtelfiofnhchmbaaDoorW.PrintWords Go.Proofs.YtelfiofnhchmbaaDoorW.PrintLast Go.Proofs.YtelfiofnhchmbaaDoorW.PrintMore
set_option linter.unusedVariables false
set_option linter.unusedSimpArgs false
def meS (n : Int) : Int := first (mIx n + 1) - 1
theorem meS_in {n : Int} (h : Day n) : n ≤ meS n ∧ meS n ≤ 109572 := by
  obtain ⟨a, b, c⟩ := mIx_is h
  have := first_at (show mIx n + 1 ≤ 3600 by omega)
  unfold meS; omega
theorem days_MonthEnd_me (n : Int) (h : Day n) : Ev (fun k => days_MonthEnd.f k n) (meS n, 0) := by
  obtain ⟨a, b, c⟩ := mIx_is h
  exact days_MonthEnd_ev _ n a h.2 b c
def baseS (b : Bool) (d : Int) : Int := if b = true then meS d else d
def dueS (n : Int) (b : Bool) (l : List S53) (d : Int) : Int × Int :=
  if termsOk n l = true then (if Day d then (if baseS b d + n ≤ 109572 then (baseS b d + n, 0) else (0, 11)) else (0, 11)) else (0, 2)
theorem termsOk_net {n : Int} {l : List S53} (h : termsOk n l = true) : 0 ≤ n ∧ n ≤ 365 := by
  unfold termsOk at h
  rw [Bool.and_eq_true] at h
  exact inY_in h.1
theorem terms_Due_ev (n : Int) (b : Bool) (l : List S53) (d : Int) (hl : Cuts l) (hlen : l.length ≤ 1000) : Ev (fun k => terms_Due.f k n b l d) (dueS n b l d) := by
  unfold terms_Due.f dueS
  refine Ev.bind (terms_Right_ev n b l hl hlen) (Ev.both (fun h => ?_) (fun h => ?_))
  · have hn := termsOk_net h
    rw [if_pos h]
    by_cases hd : Day d
    · rw [if_pos hd]
      have hm := meS_in hd
      unfold Day at hd
      refine Ev.bind (days_MonthEnd_me d hd) (Ev.yes rfl (Ev.both (fun hb => ?_) (fun hb => ?_)))
      · have eb : baseS b d = meS d := by unfold baseS; rw [if_pos hb]
        rw [eb]
        show Ev (fun k => if wrap64 (meS d + n) > 109572 then some (0, 11) else some (wrap64 (meS d + n), 0)) _
        rw [show wrap64 (meS d + n) = meS d + n by unfold wrap64; omega]
        refine Ev.both (fun hx => Ev.is ?_) (fun hx => Ev.is ?_)
        · rw [if_neg (by omega)]
        · rw [if_pos (by omega)]
      · have eb : baseS b d = d := by unfold baseS; rw [if_neg hb]
        rw [eb, show wrap64 (d + n) = d + n by unfold wrap64; omega]
        refine Ev.both (fun hx => Ev.is ?_) (fun hx => Ev.is ?_)
        · rw [if_neg (by omega)]
        · rw [if_pos (by omega)]
    · rw [if_neg hd]
      exact Ev.bind (days_MonthEnd_no d hd) (Ev.no (by decide) (Ev.is rfl))
  · rw [if_neg h]; exact Ev.is rfl
end Go.Proofs.YtelfiofnhchmbaaDoor.A
