import Derived.Test.YthmpapnhomngnaaDoorL2
import Derived.Test.YthmpapnhomngnaaDoorAx2
import Derived.Test.YthmpapnhomngnaaDoorAx6
namespace Go.Proofs.YthmpapnhomngnaaDoor.A
open Go.RowKit Go.Proofs.YthmpapnhomngnaaDoor.B Go.Proofs.YthmpapnhomngnaaDoorW.PrintWords Go.Proofs.YthmpapnhomngnaaDoorW.PrintLast Go.Proofs.YthmpapnhomngnaaDoorW.PrintMore

theorem Ev.of_mono {α : Type} {f : Nat → Option α} {v : α} (hm : ∀ k, LeO (f k) (f (k + 1))) (n : Nat) (h : f n = some v) : Ev f v := by
  refine ⟨n, fun k hk => ?_⟩
  induction k with
  | zero => obtain rfl : n = 0 := by omega
            exact h
  | succ k ih =>
    by_cases e : n = k + 1
    · subst e; exact h
    · exact hm k _ (ih (by omega))
theorem textS_m5 : textS (-5) 2 = (⟨#[45, 48, 46, 48, 53]⟩, 0) := by
  have h0 : Lib.itoa 0 = [48] := by rw [itoa_pos (by omega)]; exact Lib.decDigits_one (by omega)
  have h5 : Lib.itoa 105 = [49, 48, 53] := by
    rw [itoa_pos (by omega), show (105 : Int).natAbs = 105 from rfl, Lib.decDigits, dif_neg (by omega), Lib.decDigits_two (by omega) (by omega)]; rfl
  have e : textS (-5) 2 = (textB ⟨#[45]⟩ 5 2, 0) := rfl
  rw [e]
  unfold textB itB
  rw [if_neg (by decide), show (((5 / 10 ^ (2 : Int).toNat : Nat) : Int)) = 0 from rfl, show (((10 ^ (2 : Int).toNat + 5 % 10 ^ (2 : Int).toNat : Nat) : Int)) = 105 from rfl, h0, h5]
  rfl
theorem lives07 : Ev (fun k => accountinglaw07_lives.f k) true := by
  refine Ev.of_mono (fun k => accountinglaw07_lives.mono k) 20 ?_
  unfold accountinglaw07_lives.f
  rw [show money_Text.f (-5) 2 = some (textS (-5) 2) from rfl, textS_m5]
  decide +kernel
theorem money_Scale_at (a f t m : Int) (ha : I64 a) : money_Scale.f a f t m = some (scaleM a f t m) := by
  unfold money_Scale.f; rw [if_pos ha, scaleS_eq]
end Go.Proofs.YthmpapnhomngnaaDoor.A
