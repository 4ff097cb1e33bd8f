-- By pack.py, a program of this session's.
import Derived.Test.YtmlcdpfcafmmcaaDoorX28
set_option linter.unusedVariables false
set_option linter.unusedSimpArgs false
namespace Go.Proofs.YtmlcdpfcafmmcaaDoor.A
open Go.RowKit B WW WL WM
theorem zq55 {P:Prop} (h:P:=by have:=HJ3.out;first | omega | exact Nat.le_refl _):P:=h
theorem plainL_same_iff (l:List UInt8):plainL l=l ↔ ¬ (1 < l.length∧l.head?=some 48):=by
  cases l with
  | nil=>simp [plainL]
  | cons c r =>
    unfold plainL;by_cases h:c=48∧r≠[]
    · rw [if_pos h]
      have h1:=plainL_len r;have h2:0 < r.length:=List.length_pos_iff.2 h.2;constructor
      · intro e;have:=congrArg List.length e;rw [List.length_cons] at this;omega
      · intro e;exact absurd ⟨by rw [List.length_cons];omega,by rw [h.1];rfl⟩ e
    · rw [if_neg h]
      refine ⟨fun _ h2=>h ⟨by simpa using h2.2,?_⟩,fun _=>rfl⟩;intro hr;subst hr;simp at h2
end Go.Proofs.YtmlcdpfcafmmcaaDoor.A
namespace Go.Proofs.YtmlcdpfcafmmcaaDoor.A
open Go.RowKit B WW WL WM
theorem isPt_iff (c:UInt8):isPt c=true ↔ c.toNat=46∨c.toNat=47∨c.toNat=45:=by
  unfold isPt;simp only [Bool.or_eq_true,decide_eq_true_iff]
theorem isLet_pt {c:UInt8} (h:isLet c=true∨isDig c=true):isPt c=false:=by
  rw [Bool.eq_false_iff,Ne,isPt_iff];rcases h with h | h
  · unfold isLet at h;simp only [Bool.or_eq_true,Bool.and_eq_true,decide_eq_true_iff] at h;omega
  · rw [isDig_range] at h;omega
end Go.Proofs.YtmlcdpfcafmmcaaDoor.A
