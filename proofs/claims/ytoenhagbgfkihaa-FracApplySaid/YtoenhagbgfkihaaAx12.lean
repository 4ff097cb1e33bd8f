-- By gen.py, a program of this session's, over the print's forms: not the print's own text.
import Derived.Test.YtoenhagbgfkihaaAx0
import Derived.Test.YtoenhagbgfkihaaQ
import Derived.Test.YtoenhagbgfkihaaAx11
namespace Go.Proofs.Ytoenhagbgfkihaa.A
open Go.RowKit Go.Proofs.Ytoenhagbgfkihaa.B Go.Proofs.YtoenhagbgfkihaaW.PrintWords Go.Proofs.YtoenhagbgfkihaaW.PrintLast Go.Proofs.YtoenhagbgfkihaaW.PrintMore
attribute [local go_sem] max2_int min2_int max_two min_two max_three min_three max_four min_four   -- for this text's walks alone
set_option linter.unusedVariables false
set_option linter.unusedSimpArgs false

/-! ### accountingref02_wide: function 60 -/
def accountingref02_wide.f (a0 : Int) (a1 : Int) : Option (Int × Int) := some (IntKind.u64.wrap ((IntKind.u64.wrap ((IntKind.u64.wrap ((IntKind.u64.wrap (Int.tdiv a0 4294967296)) * (IntKind.u64.wrap (Int.tdiv a1 4294967296)))) + (IntKind.u64.wrap (Int.tdiv (IntKind.u64.wrap ((IntKind.u64.wrap ((IntKind.u64.wrap (Int.tdiv a0 4294967296)) * (Int.tmod a1 4294967296))) + (IntKind.u64.wrap (Int.tdiv (IntKind.u64.wrap ((Int.tmod a0 4294967296) * (Int.tmod a1 4294967296))) 4294967296)))) 4294967296)))) + (IntKind.u64.wrap (Int.tdiv (IntKind.u64.wrap ((IntKind.u64.wrap ((Int.tmod a0 4294967296) * (IntKind.u64.wrap (Int.tdiv a1 4294967296)))) + (Int.tmod (IntKind.u64.wrap ((IntKind.u64.wrap ((IntKind.u64.wrap (Int.tdiv a0 4294967296)) * (Int.tmod a1 4294967296))) + (IntKind.u64.wrap (Int.tdiv (IntKind.u64.wrap ((Int.tmod a0 4294967296) * (Int.tmod a1 4294967296))) 4294967296)))) 4294967296))) 4294967296))), IntKind.u64.wrap ((IntKind.u64.wrap ((Int.tmod (IntKind.u64.wrap ((IntKind.u64.wrap ((Int.tmod a0 4294967296) * (IntKind.u64.wrap (Int.tdiv a1 4294967296)))) + (Int.tmod (IntKind.u64.wrap ((IntKind.u64.wrap ((IntKind.u64.wrap (Int.tdiv a0 4294967296)) * (Int.tmod a1 4294967296))) + (IntKind.u64.wrap (Int.tdiv (IntKind.u64.wrap ((Int.tmod a0 4294967296) * (Int.tmod a1 4294967296))) 4294967296)))) 4294967296))) 4294967296) * 4294967296)) + (Int.tmod (IntKind.u64.wrap ((Int.tmod a0 4294967296) * (Int.tmod a1 4294967296))) 4294967296)))
set_option maxHeartbeats 8000000 in
set_option maxRecDepth 100000 in
theorem accountingref02_wide.calls (a0 : Int) (a1 : Int) (r1 : Int) (r2 : Int) (w : World) (h : accountingref02_wide.f a0 a1 = some (r1, r2)) :
  Calls Try.prog 60 #[.int .u64 a0, .int .u64 a1] w fun e w' => e = .returned (.tuple #[.int .u64 r1, .int .u64 r2]) ∧ Drawn0 w w' := by
 have H : (some (IntKind.u64.wrap ((IntKind.u64.wrap ((IntKind.u64.wrap ((IntKind.u64.wrap (Int.tdiv a0 4294967296)) * (IntKind.u64.wrap (Int.tdiv a1 4294967296)))) + (IntKind.u64.wrap (Int.tdiv (IntKind.u64.wrap ((IntKind.u64.wrap ((IntKind.u64.wrap (Int.tdiv a0 4294967296)) * (Int.tmod a1 4294967296))) + (IntKind.u64.wrap (Int.tdiv (IntKind.u64.wrap ((Int.tmod a0 4294967296) * (Int.tmod a1 4294967296))) 4294967296)))) 4294967296)))) + (IntKind.u64.wrap (Int.tdiv (IntKind.u64.wrap ((IntKind.u64.wrap ((Int.tmod a0 4294967296) * (IntKind.u64.wrap (Int.tdiv a1 4294967296)))) + (Int.tmod (IntKind.u64.wrap ((IntKind.u64.wrap ((IntKind.u64.wrap (Int.tdiv a0 4294967296)) * (Int.tmod a1 4294967296))) + (IntKind.u64.wrap (Int.tdiv (IntKind.u64.wrap ((Int.tmod a0 4294967296) * (Int.tmod a1 4294967296))) 4294967296)))) 4294967296))) 4294967296))), IntKind.u64.wrap ((IntKind.u64.wrap ((Int.tmod (IntKind.u64.wrap ((IntKind.u64.wrap ((Int.tmod a0 4294967296) * (IntKind.u64.wrap (Int.tdiv a1 4294967296)))) + (Int.tmod (IntKind.u64.wrap ((IntKind.u64.wrap ((IntKind.u64.wrap (Int.tdiv a0 4294967296)) * (Int.tmod a1 4294967296))) + (IntKind.u64.wrap (Int.tdiv (IntKind.u64.wrap ((Int.tmod a0 4294967296) * (Int.tmod a1 4294967296))) 4294967296)))) 4294967296))) 4294967296) * 4294967296)) + (Int.tmod (IntKind.u64.wrap ((Int.tmod a0 4294967296) * (Int.tmod a1 4294967296))) 4294967296)))) = some (r1, r2) := h
 clear h
 simp only [Option.some.injEq, Prod.mk.injEq] at H
 obtain ⟨rfl, rfl⟩ := H
 go_enter Try.func60, Try.ntmps60
 go_wp2
 go_ret2
 exact ⟨q9, q10⟩

/-! ### accountingref02_mag: function 61 -/
def accountingref02_mag.f (a0 : Int) : Option (Int) := if a0 < 0 then (some (IntKind.u64.wrap ((IntKind.u64.wrap (wrap64 (-(wrap64 (a0 + 1))))) + 1))) else (some (IntKind.u64.wrap (a0)))
set_option maxHeartbeats 8000000 in
set_option maxRecDepth 100000 in
theorem accountingref02_mag.calls (a0 : Int) (r : Int) (w : World) (h : accountingref02_mag.f a0 = some r) :
  Calls Try.prog 61 #[.int .i64 a0] w fun e w' => e = .returned (.int .u64 r) ∧ Drawn0 w w' := by
 have H : (if a0 < 0 then (some (IntKind.u64.wrap ((IntKind.u64.wrap (wrap64 (-(wrap64 (a0 + 1))))) + 1))) else (some (IntKind.u64.wrap (a0)))) = some r := h
 clear h
 by_cases c2 : a0 < 0
 ·rw [if_pos c2] at H
  have c2b0 : decide (a0 < 0) = true := decide_eq_true c2
  clear c2
  obtain rfl := Option.some.inj H
  go_enter Try.func61, Try.ntmps61
  go_wp2
  go_ret
  exact ⟨q9, q10⟩
 ·rw [if_neg c2] at H
  have c2b0 : decide (a0 < 0) = false := decide_eq_false c2
  clear c2
  obtain rfl := Option.some.inj H
  go_enter Try.func61, Try.ntmps61
  go_wp2
  go_ret
  exact ⟨q9, q10⟩

/-! ### accountingref02_divide: function 62 -/
def accountingref02_divide.l0 : Nat → Int → Int → Int → Int → Int → Int → Int → Option (Int × Int × Int)
 | 0, _, _, _, _, _, _, _ => none
 | k + 1, x0, x1, x2, x9, x10, x11, x12 => if x12 < 128 then (if x11 ≥ 9223372036854775808 then (accountingref02_divide.l0 k (IntKind.u64.wrap ((IntKind.u64.wrap (2 * x0)) + (IntKind.u64.wrap (Int.tdiv x1 9223372036854775808)))) (IntKind.u64.wrap (2 * x1)) x2 (IntKind.u64.wrap ((IntKind.u64.wrap (2 * x9)) + (IntKind.u64.wrap (Int.tdiv x10 9223372036854775808)))) (IntKind.u64.wrap ((IntKind.u64.wrap (2 * x10)) + 1)) (IntKind.u64.wrap ((IntKind.u64.wrap ((IntKind.u64.wrap (2 * x11)) + (IntKind.u64.wrap (Int.tdiv x0 9223372036854775808)))) - x2)) (wrap64 (x12 + 1))) else (if (IntKind.u64.wrap ((IntKind.u64.wrap (2 * x11)) + (IntKind.u64.wrap (Int.tdiv x0 9223372036854775808)))) ≥ x2 then (accountingref02_divide.l0 k (IntKind.u64.wrap ((IntKind.u64.wrap (2 * x0)) + (IntKind.u64.wrap (Int.tdiv x1 9223372036854775808)))) (IntKind.u64.wrap (2 * x1)) x2 (IntKind.u64.wrap ((IntKind.u64.wrap (2 * x9)) + (IntKind.u64.wrap (Int.tdiv x10 9223372036854775808)))) (IntKind.u64.wrap ((IntKind.u64.wrap (2 * x10)) + 1)) (IntKind.u64.wrap ((IntKind.u64.wrap ((IntKind.u64.wrap (2 * x11)) + (IntKind.u64.wrap (Int.tdiv x0 9223372036854775808)))) - x2)) (wrap64 (x12 + 1))) else (accountingref02_divide.l0 k (IntKind.u64.wrap ((IntKind.u64.wrap (2 * x0)) + (IntKind.u64.wrap (Int.tdiv x1 9223372036854775808)))) (IntKind.u64.wrap (2 * x1)) x2 (IntKind.u64.wrap ((IntKind.u64.wrap (2 * x9)) + (IntKind.u64.wrap (Int.tdiv x10 9223372036854775808)))) (IntKind.u64.wrap (2 * x10)) (IntKind.u64.wrap ((IntKind.u64.wrap (2 * x11)) + (IntKind.u64.wrap (Int.tdiv x0 9223372036854775808)))) (wrap64 (x12 + 1))))) else (some (x9, x10, x11))
def accountingref02_divide.f (k : Nat) (a0 : Int) (a1 : Int) (a2 : Int) : Option (Int × Int × Int) := accountingref02_divide.l0 k a0 a1 a2 0 0 0 0
theorem accountingref02_divide.mono_l : ∀ k, (∀ y0 y1 y2 y3 y4 y5 y6, LeO (accountingref02_divide.l0 k y0 y1 y2 y3 y4 y5 y6) (accountingref02_divide.l0 (k + 1) y0 y1 y2 y3 y4 y5 y6))
 | 0 => fun _ _ _ _ _ _ _ r h => by simp [accountingref02_divide.l0] at h
 | k + 1 => by
  have ih0 := accountingref02_divide.mono_l k
  ·intro y0 y1 y2 y3 y4 y5 y6
   unfold accountingref02_divide.l0
   repeat' first
   | (with_reducible exact ih0 _ _ _ _ _ _ _)
   | (with_reducible exact LeO.refl _)
   | (with_reducible exact LeO.none _)
   | (with_reducible refine LeO.ite ?_ ?_)
   | (with_reducible refine LeO.bind ?_ (fun _ => ?_))
   | exact ih0 _ _ _ _ _ _ _
   | exact LeO.none _
   | refine LeO.ite ?_ ?_
   | refine LeO.bind ?_ (fun _ => ?_)
theorem accountingref02_divide.mono : ∀ a0 a1 a2 k, LeO (accountingref02_divide.f k a0 a1 a2) (accountingref02_divide.f (k + 1) a0 a1 a2) := by
 intro a0 a1 a2 k
 have ih0 := accountingref02_divide.mono_l k
 unfold accountingref02_divide.f
 repeat' first
   | (with_reducible exact ih0 _ _ _ _ _ _ _)
   | (with_reducible exact LeO.refl _)
   | (with_reducible exact LeO.none _)
   | (with_reducible refine LeO.ite ?_ ?_)
   | (with_reducible refine LeO.bind ?_ (fun _ => ?_))
   | exact ih0 _ _ _ _ _ _ _
   | exact LeO.none _
   | refine LeO.ite ?_ ?_
   | refine LeO.bind ?_ (fun _ => ?_)
set_option maxHeartbeats 8000000 in
set_option maxRecDepth 100000 in
theorem accountingref02_divide.calls (k : Nat) (a0 : Int) (a1 : Int) (a2 : Int) (r1 : Int) (r2 : Int) (r3 : Int) (w : World) (h : accountingref02_divide.f k a0 a1 a2 = some (r1, r2, r3)) :
  Calls Try.prog 62 #[.int .u64 a0, .int .u64 a1, .int .u64 a2] w fun e w' => e = .returned (.tuple #[.int .u64 r1, .int .u64 r2, .int .u64 r3]) ∧ Drawn0 w w' := by
 have H : (accountingref02_divide.l0 k a0 a1 a2 0 0 0 0) = some (r1, r2, r3) := h
 clear h
 have H' := Aside0.mk H
 clear H
 go_enter Try.func62, Try.ntmps62
 go_wp2
 go_loopg [0, 1, 9, 10, 11, 12] k (fun kq v0 v1 v9 v10 v11 v12 w' => ∃ (x0_1 : Int) (x1_1 : Int) (x9_1 : Int) (x10_1 : Int) (x11_1 : Int) (x12_1 : Int), v0 = .int .u64 x0_1 ∧ v1 = .int .u64 x1_1 ∧ v9 = .int .u64 x9_1 ∧ v10 = .int .u64 x10_1 ∧ v11 = .int .u64 x11_1 ∧ v12 = .int .i64 x12_1 ∧ Aside0 (accountingref02_divide.l0 kq x0_1 x1_1 a2 x9_1 x10_1 x11_1 x12_1 = some (r1, r2, r3)) ∧ Aside0 (kq ≤ k) ∧ Drawn0 w w')
 case atStart => exact ⟨(a0), (a1), (0), (0), (0), (0), q9, q9, q9, q9, q9, q9, H', ⟨Nat.le_refl _⟩, q10⟩
 case round =>
  clear H'
  try clear p2
  obtain ⟨x0_1, x1_1, x9_1, x10_1, x11_1, x12_1, rfl, rfl, rfl, rfl, rfl, rfl, HA, HK1, ⟨m1, rfl⟩⟩ := hrel
  cases gk with
  | zero => exact absurd HA.out (by simp [accountingref02_divide.l0])
  | succ k1 =>
   have H := HA.out
   clear HA
   simp only [accountingref02_divide.l0] at H
   by_cases c4 : x12_1 < 128
   ·rw [if_pos c4] at H
    have c4b0 : decide (x12_1 < 128) = true := decide_eq_true c4
    clear c4
    by_cases c5 : x11_1 ≥ 9223372036854775808
    ·rw [if_pos c5] at H
     have c5b0 : decide (9223372036854775808 ≤ x11_1) = true := decide_eq_true c5
     clear c5
     have H' := Aside0.mk H
     clear H
     go_wp2
     go_roundg k1
     case measure => have := HK1.out; omega
     case rel => exact ⟨(IntKind.u64.wrap ((IntKind.u64.wrap (2 * x0_1)) + (IntKind.u64.wrap (Int.tdiv x1_1 9223372036854775808)))), (IntKind.u64.wrap (2 * x1_1)), (IntKind.u64.wrap ((IntKind.u64.wrap (2 * x9_1)) + (IntKind.u64.wrap (Int.tdiv x10_1 9223372036854775808)))), (IntKind.u64.wrap ((IntKind.u64.wrap (2 * x10_1)) + 1)), (IntKind.u64.wrap ((IntKind.u64.wrap ((IntKind.u64.wrap (2 * x11_1)) + (IntKind.u64.wrap (Int.tdiv x0_1 9223372036854775808)))) - a2)), (wrap64 (x12_1 + 1)), q9, q9, q9, q9, q9, q9, H', ⟨by have := HK1.out; omega⟩, q10⟩
    ·rw [if_neg c5] at H
     have c5b0 : decide (9223372036854775808 ≤ x11_1) = false := decide_eq_false c5
     clear c5
     by_cases c6 : (IntKind.u64.wrap ((IntKind.u64.wrap (2 * x11_1)) + (IntKind.u64.wrap (Int.tdiv x0_1 9223372036854775808)))) ≥ a2
     ·rw [if_pos c6] at H
      have c6b0 : decide (a2 ≤ (IntKind.u64.wrap ((IntKind.u64.wrap (2 * x11_1)) + (IntKind.u64.wrap (Int.tdiv x0_1 9223372036854775808))))) = true := decide_eq_true c6
      clear c6
      have H' := Aside0.mk H
      clear H
      go_wp2
      go_roundg k1
      case measure => have := HK1.out; omega
      case rel => exact ⟨(IntKind.u64.wrap ((IntKind.u64.wrap (2 * x0_1)) + (IntKind.u64.wrap (Int.tdiv x1_1 9223372036854775808)))), (IntKind.u64.wrap (2 * x1_1)), (IntKind.u64.wrap ((IntKind.u64.wrap (2 * x9_1)) + (IntKind.u64.wrap (Int.tdiv x10_1 9223372036854775808)))), (IntKind.u64.wrap ((IntKind.u64.wrap (2 * x10_1)) + 1)), (IntKind.u64.wrap ((IntKind.u64.wrap ((IntKind.u64.wrap (2 * x11_1)) + (IntKind.u64.wrap (Int.tdiv x0_1 9223372036854775808)))) - a2)), (wrap64 (x12_1 + 1)), q9, q9, q9, q9, q9, q9, H', ⟨by have := HK1.out; omega⟩, q10⟩
     ·rw [if_neg c6] at H
      have c6b0 : decide (a2 ≤ (IntKind.u64.wrap ((IntKind.u64.wrap (2 * x11_1)) + (IntKind.u64.wrap (Int.tdiv x0_1 9223372036854775808))))) = false := decide_eq_false c6
      clear c6
      have H' := Aside0.mk H
      clear H
      go_wp2
      go_roundg k1
      case measure => have := HK1.out; omega
      case rel => exact ⟨(IntKind.u64.wrap ((IntKind.u64.wrap (2 * x0_1)) + (IntKind.u64.wrap (Int.tdiv x1_1 9223372036854775808)))), (IntKind.u64.wrap (2 * x1_1)), (IntKind.u64.wrap ((IntKind.u64.wrap (2 * x9_1)) + (IntKind.u64.wrap (Int.tdiv x10_1 9223372036854775808)))), (IntKind.u64.wrap (2 * x10_1)), (IntKind.u64.wrap ((IntKind.u64.wrap (2 * x11_1)) + (IntKind.u64.wrap (Int.tdiv x0_1 9223372036854775808)))), (wrap64 (x12_1 + 1)), q9, q9, q9, q9, q9, q9, H', ⟨by have := HK1.out; omega⟩, q10⟩
   ·rw [if_neg c4] at H
    have c4b0 : decide (x12_1 < 128) = false := decide_eq_false c4
    clear c4
    simp only [Option.some.injEq, Prod.mk.injEq] at H
    obtain ⟨rfl, rfl, rfl⟩ := H
    go_wp2
    go_ret3
    exact ⟨q9, q10⟩

/-! ### accountingref02_away: function 63 -/
def accountingref02_away.f (a0 : Int) (a1 : Bool) (a2 : Bool) (a3 : Int) (a4 : Int) : Option (Bool) := if a0 = 2 then (some (decide (a3 > 0))) else (if a0 = 3 then (some (decide (a3 ≥ (IntKind.u64.wrap (a4 - a3))))) else (if a0 = 4 then (if a3 > (IntKind.u64.wrap (a4 - a3)) then (some true) else (if a3 = (IntKind.u64.wrap (a4 - a3)) then (some a2) else (some false))) else (if a0 = 5 then (if a1 = true then (some (decide (a3 > 0))) else (some false)) else (some false))))
set_option maxHeartbeats 8000000 in
set_option maxRecDepth 100000 in
theorem accountingref02_away.calls (a0 : Int) (a1 : Bool) (a2 : Bool) (a3 : Int) (a4 : Int) (r : Bool) (w : World) (h : accountingref02_away.f a0 a1 a2 a3 a4 = some r) :
  Calls Try.prog 63 #[.int .i64 a0, .bool a1, .bool a2, .int .u64 a3, .int .u64 a4] w fun e w' => e = .returned (.bool r) ∧ Drawn0 w w' := by
 have H : (if a0 = 2 then (some (decide (a3 > 0))) else (if a0 = 3 then (some (decide (a3 ≥ (IntKind.u64.wrap (a4 - a3))))) else (if a0 = 4 then (if a3 > (IntKind.u64.wrap (a4 - a3)) then (some true) else (if a3 = (IntKind.u64.wrap (a4 - a3)) then (some a2) else (some false))) else (if a0 = 5 then (if a1 = true then (some (decide (a3 > 0))) else (some false)) else (some false))))) = some r := h
 clear h
 by_cases c6 : a0 = 2
 ·rw [if_pos c6] at H
  have c6b0 : (a0 == 2) = true := beq_iff_eq.mpr c6
  have c6b1 : (a0 != 2) = false := bne_eq_false_iff_eq.mpr c6
  clear c6
  obtain rfl := Option.some.inj H
  go_enter Try.func63, Try.ntmps63
  go_wp2
  go_ret
  exact ⟨q9, q10⟩
 ·rw [if_neg c6] at H
  have c6b0 : (a0 == 2) = false := beq_eq_false_iff_ne.mpr c6
  have c6b1 : (a0 != 2) = true := bne_iff_ne.mpr c6
  by_cases c7 : a0 = 3
  ·rw [if_pos c7] at H
   have c7b0 : (a0 == 3) = true := beq_iff_eq.mpr c7
   have c7b1 : (a0 != 3) = false := bne_eq_false_iff_eq.mpr c7
   clear c7
   obtain rfl := Option.some.inj H
   go_enter Try.func63, Try.ntmps63
   go_wp2
   go_ret
   exact ⟨q9, q10⟩
  ·rw [if_neg c7] at H
   have c7b0 : (a0 == 3) = false := beq_eq_false_iff_ne.mpr c7
   have c7b1 : (a0 != 3) = true := bne_iff_ne.mpr c7
   by_cases c8 : a0 = 4
   ·rw [if_pos c8] at H
    have c8b0 : (a0 == 4) = true := beq_iff_eq.mpr c8
    have c8b1 : (a0 != 4) = false := bne_eq_false_iff_eq.mpr c8
    clear c8
    by_cases c9 : a3 > (IntKind.u64.wrap (a4 - a3))
    ·rw [if_pos c9] at H
     have c9b0 : decide ((IntKind.u64.wrap (a4 - a3)) < a3) = true := decide_eq_true c9
     clear c9
     obtain rfl := Option.some.inj H
     go_enter Try.func63, Try.ntmps63
     go_wp2
     go_ret
     exact ⟨q9, q10⟩
    ·rw [if_neg c9] at H
     have c9b0 : decide ((IntKind.u64.wrap (a4 - a3)) < a3) = false := decide_eq_false c9
     clear c9
     by_cases c10 : a3 = (IntKind.u64.wrap (a4 - a3))
     ·rw [if_pos c10] at H
      have c10b0 : (a3 == (IntKind.u64.wrap (a4 - a3))) = true := beq_iff_eq.mpr c10
      have c10b1 : (a3 != (IntKind.u64.wrap (a4 - a3))) = false := bne_eq_false_iff_eq.mpr c10
      clear c10
      obtain rfl := Option.some.inj H
      go_enter Try.func63, Try.ntmps63
      go_wp2
      go_ret
      exact ⟨q9, q10⟩
     ·rw [if_neg c10] at H
      have c10b0 : (a3 == (IntKind.u64.wrap (a4 - a3))) = false := beq_eq_false_iff_ne.mpr c10
      have c10b1 : (a3 != (IntKind.u64.wrap (a4 - a3))) = true := bne_iff_ne.mpr c10
      obtain rfl := Option.some.inj H
      go_enter Try.func63, Try.ntmps63
      go_wp2
      go_ret
      exact ⟨q9, q10⟩
   ·rw [if_neg c8] at H
    have c8b0 : (a0 == 4) = false := beq_eq_false_iff_ne.mpr c8
    have c8b1 : (a0 != 4) = true := bne_iff_ne.mpr c8
    by_cases c11 : a0 = 5
    ·rw [if_pos c11] at H
     have c11b0 : (a0 == 5) = true := beq_iff_eq.mpr c11
     have c11b1 : (a0 != 5) = false := bne_eq_false_iff_eq.mpr c11
     clear c11
     by_cases c12 : a1 = true
     ·subst c12
      have H1 : (some (decide (a3 > 0))) = some r := by rw [if_pos rfl] at H; exact H
      clear H
      have H := H1
      clear H1
      obtain rfl := Option.some.inj H
      go_enter Try.func63, Try.ntmps63
      go_wp2
      go_ret
      exact ⟨q9, q10⟩
     ·replace c12 := Bool.eq_false_iff.mpr c12
      subst c12
      have H1 : (some false) = some r := by rw [if_neg (show ¬ (false = true) by decide)] at H; exact H
      clear H
      have H := H1
      clear H1
      obtain rfl := Option.some.inj H
      go_enter Try.func63, Try.ntmps63
      go_wp2
      go_ret
      exact ⟨q9, q10⟩
    ·rw [if_neg c11] at H
     have c11b0 : (a0 == 5) = false := beq_eq_false_iff_ne.mpr c11
     have c11b1 : (a0 != 5) = true := bne_iff_ne.mpr c11
     obtain rfl := Option.some.inj H
     go_enter Try.func63, Try.ntmps63
     go_wp2
     go_ret
     exact ⟨q9, q10⟩

/-! ### accountingref02_MulDiv: function 38 (by hand) -/
def accountingref02_MulDiv.g (q : Int) (neg : Bool) : Int × Int :=
 if 9223372036854775808 < q then (0, 4) else if q = 9223372036854775808 then (if neg = true then (-9223372036854775808, 0) else (0, 4)) else (if neg = true then -q else q, 0)
def accountingref02_MulDiv.f (k : Nat) (a0 a1 a2 a3 : Int) : Option (Int × Int) :=
 if a3 < 1 then some (0, 10) else if 5 < a3 then some (0, 10) else if a2 = 0 then some (0, 2) else
 (accountingref02_mag.f a0).bind fun x => (accountingref02_mag.f a1).bind fun y => (accountingref02_wide.f x y).bind fun hl => (accountingref02_mag.f a2).bind fun z =>
 (accountingref02_divide.f k hl.1 hl.2 z).bind fun q => if 0 ≤ q.2.1 ∧ q.2.1 ≤ 18446744073709551615 then
  (if 0 < q.1 then some (0, 4) else if 9223372036854775808 < q.2.1 then some (0, 4) else
   (accountingref02_away.f a3 ((decide (a0 < 0) != decide (a1 < 0)) != decide (a2 < 0)) (q.2.1 % 2 == 1) q.2.2 z).bind fun aw =>
    some (accountingref02_MulDiv.g (if aw = true then q.2.1 + 1 else q.2.1) ((decide (a0 < 0) != decide (a1 < 0)) != decide (a2 < 0)))) else none
theorem accountingref02_MulDiv.mono : ∀ a0 a1 a2 a3 k, LeO (accountingref02_MulDiv.f k a0 a1 a2 a3) (accountingref02_MulDiv.f (k + 1) a0 a1 a2 a3) := fun a0 a1 a2 a3 k => by
 unfold accountingref02_MulDiv.f
 refine LeO.ite (LeO.refl _) (LeO.ite (LeO.refl _) (LeO.ite (LeO.refl _) (LeO.bind (LeO.refl _) fun _ => LeO.bind (LeO.refl _) fun _ => LeO.bind (LeO.refl _) fun _ => LeO.bind (LeO.refl _) fun _ => LeO.bind (accountingref02_divide.mono _ _ _ _) fun _ => LeO.refl _)))
set_option maxHeartbeats 6400000 in
set_option maxRecDepth 100000 in
theorem accountingref02_MulDiv.calls (k : Nat) (a0 a1 a2 a3 : Int) (r1 r2 : Int) (w : World) (h : accountingref02_MulDiv.f k a0 a1 a2 a3 = some (r1, r2)) :
  Calls Try.prog 38 #[.int .i64 a0, .int .i64 a1, .int .i64 a2, .int .i64 a3] w fun e w' => e = .returned (.tuple #[.int .i64 r1, .int .i64 r2]) ∧ Drawn0 w w' := by
 have HPost : ∀ W, Drawn0 w W → (fun (e : Ending) (w' : World) => e = .returned (.tuple #[.int .i64 r1, .int .i64 r2]) ∧ Drawn0 w w') (.returned (.tuple #[.int .i64 r1, .int .i64 r2])) W := fun W hW => ⟨rfl, hW⟩
 generalize (fun (e : Ending) (w' : World) => e = .returned (.tuple #[.int .i64 r1, .int .i64 r2]) ∧ Drawn0 w w') = Post at HPost ⊢
 have HP := Aside0.mk HPost
 clear HPost
 unfold accountingref02_MulDiv.f at h
 by_cases c1 : a3 < 1
 ·rw [if_pos c1] at h
  simp only [Option.some.injEq, Prod.mk.injEq] at h
  obtain ⟨rfl, rfl⟩ := h
  go_enter Try.func38, Try.ntmps38
  go_wp2_with fail
  (try go_ret2)
  first | exact HP.out _ q10 | exact HP1.out _ q10
 rw [if_neg c1] at h
 have c1b : decide (a3 < 1) = false := decide_eq_false c1
 by_cases c2 : 5 < a3
 ·rw [if_pos c2] at h
  simp only [Option.some.injEq, Prod.mk.injEq] at h
  obtain ⟨rfl, rfl⟩ := h
  clear c1
  go_enter Try.func38, Try.ntmps38
  go_wp2_with fail
  (try go_ret2)
  first | exact HP.out _ q10 | exact HP1.out _ q10
 rw [if_neg c2] at h
 have c2b : decide (5 < a3) = false := decide_eq_false c2
 clear c1 c2
 by_cases c3 : a2 = 0
 ·rw [if_pos c3] at h
  simp only [Option.some.injEq, Prod.mk.injEq] at h
  obtain ⟨rfl, rfl⟩ := h
  subst c3
  go_enter Try.func38, Try.ntmps38
  go_wp2_with fail
  (try go_ret2)
  first | exact HP.out _ q10 | exact HP1.out _ q10
 rw [if_neg c3] at h
 have c3b : (a2 == 0) = false := beq_eq_false_iff_ne.mpr c3
 clear c3
 replace h := Option.bind_eq_some_iff.mp h
 obtain ⟨x, hx, h⟩ := h
 replace h := Option.bind_eq_some_iff.mp h
 obtain ⟨y, hy, h⟩ := h
 replace h := Option.bind_eq_some_iff.mp h
 obtain ⟨⟨hi, lo⟩, hw, h⟩ := h
 replace h := Option.bind_eq_some_iff.mp h
 obtain ⟨z, hz, h⟩ := h
 replace h := Option.bind_eq_some_iff.mp h
 obtain ⟨⟨qh, q, r⟩, hq, h⟩ := h
 dsimp only at h hq
 split at h
 case isFalse => cases h
 rename_i hqb
 obtain ⟨hq0, hq1⟩ := hqb
 have C1 := Aside0.mk (fun W => accountingref02_mag.calls a0 x W hx)
 have C2 := Aside0.mk (fun W => accountingref02_mag.calls a1 y W hy)
 have C3 := Aside0.mk (fun W => accountingref02_wide.calls x y hi lo W hw)
 have C4 := Aside0.mk (fun W => accountingref02_mag.calls a2 z W hz)
 have C5 := Aside0.mk (fun W => accountingref02_divide.calls k hi lo z qh q r W hq)
 clear hx hy hw hz hq
 obtain ⟨nb, hnb⟩ : ∃ nb, ((decide (a0 < 0) != decide (a1 < 0)) != decide (a2 < 0)) = nb := ⟨_, rfl⟩
 rw [hnb] at h
 have hnb' := hnb
 have hneg : (!((!(decide (a0 < 0) == decide (a1 < 0))) == decide (a2 < 0))) = nb := hnb
 clear hnb
 have HNB := Aside0.mk hnb'
 clear hnb'
 by_cases c4 : 0 < qh
 ·rw [if_pos c4] at h
  simp only [Option.some.injEq, Prod.mk.injEq] at h
  obtain ⟨rfl, rfl⟩ := h
  go_enter Try.func38, Try.ntmps38
  go_wp2_with (first | (go_at_call 61; (with_reducible refine (C1.out _).mono ?_); rintro e w' ⟨rfl, nd, rfl⟩) | (go_at_call 61; (with_reducible refine (C2.out _).mono ?_); rintro e w' ⟨rfl, nd, rfl⟩) | (go_at_call 61; (with_reducible refine (C4.out _).mono ?_); rintro e w' ⟨rfl, nd, rfl⟩) | (go_at_call 60; (with_reducible refine (C3.out _).mono ?_); rintro e w' ⟨rfl, nd, rfl⟩) | (go_at_call 62; (with_reducible refine (C5.out _).mono ?_); rintro e w' ⟨rfl, nd, rfl⟩) | (go_at_call 63; (with_reducible refine (C6.out _).mono ?_); rintro e w' ⟨rfl, nd, rfl⟩))
  (try go_ret2)
  first | exact HP.out _ q10 | exact HP1.out _ q10
 rw [if_neg c4] at h
 have c4b : decide (0 < qh) = false := decide_eq_false c4
 clear c4
 by_cases c5 : 9223372036854775808 < q
 ·rw [if_pos c5] at h
  simp only [Option.some.injEq, Prod.mk.injEq] at h
  obtain ⟨rfl, rfl⟩ := h
  have c5b : decide (9223372036854775808 < q) = true := decide_eq_true c5
  clear c5
  go_enter Try.func38, Try.ntmps38
  go_wp2_with (first | (go_at_call 61; (with_reducible refine (C1.out _).mono ?_); rintro e w' ⟨rfl, nd, rfl⟩) | (go_at_call 61; (with_reducible refine (C2.out _).mono ?_); rintro e w' ⟨rfl, nd, rfl⟩) | (go_at_call 61; (with_reducible refine (C4.out _).mono ?_); rintro e w' ⟨rfl, nd, rfl⟩) | (go_at_call 60; (with_reducible refine (C3.out _).mono ?_); rintro e w' ⟨rfl, nd, rfl⟩) | (go_at_call 62; (with_reducible refine (C5.out _).mono ?_); rintro e w' ⟨rfl, nd, rfl⟩) | (go_at_call 63; (with_reducible refine (C6.out _).mono ?_); rintro e w' ⟨rfl, nd, rfl⟩))
  (try go_ret2)
  first | exact HP.out _ q10 | exact HP1.out _ q10
 rw [if_neg c5] at h
 have c5b : decide (9223372036854775808 < q) = false := decide_eq_false c5
 replace h := Option.bind_eq_some_iff.mp h
 obtain ⟨aw, haw, h⟩ := h
 have ew : wrap64 q = if q = 9223372036854775808 then -9223372036854775808 else q := by unfold wrap64; split <;> omega
 have ew1 : IntKind.u64.wrap (q + 1) = q + 1 := by rw [wu64]; omega
 obtain ⟨ob, hob⟩ : ∃ ob, (q % 2 == 1) = ob := ⟨_, rfl⟩
 rw [hob] at haw
 have C6 := Aside0.mk (fun W => accountingref02_away.calls a3 nb ob r z aw W haw)
 clear haw
 simp only [accountingref02_MulDiv.g] at h
 cases aw
 ·replace h : some (if 9223372036854775808 < q then ((0 : Int), (4 : Int)) else if q = 9223372036854775808 then (if nb = true then (-9223372036854775808, 0) else (0, 4)) else (if nb = true then -(q) else q, 0)) = some (r1, r2) := h
  clear ew
  have ew : wrap64 (q) = if q = 9223372036854775808 then -9223372036854775808 else q := by unfold wrap64; split <;> omega
  rw [if_neg c5] at h
  by_cases c6 : q = 9223372036854775808
  ·rw [if_pos c6] at h
   subst c6
   obtain rfl : ob = false := by rw [← hob]; decide
   cases nb
   ·rw [if_neg (by decide)] at h
    simp only [Option.some.injEq, Prod.mk.injEq] at h
    obtain ⟨rfl, rfl⟩ := h
    go_enter Try.func38, Try.ntmps38
    go_wp2_with (first | (go_at_call 61; (with_reducible refine (C1.out _).mono ?_); rintro e w' ⟨rfl, nd, rfl⟩) | (go_at_call 61; (with_reducible refine (C2.out _).mono ?_); rintro e w' ⟨rfl, nd, rfl⟩) | (go_at_call 61; (with_reducible refine (C4.out _).mono ?_); rintro e w' ⟨rfl, nd, rfl⟩) | (go_at_call 60; (with_reducible refine (C3.out _).mono ?_); rintro e w' ⟨rfl, nd, rfl⟩) | (go_at_call 62; (with_reducible refine (C5.out _).mono ?_); rintro e w' ⟨rfl, nd, rfl⟩) | (go_at_call 63; (with_reducible refine (C6.out _).mono ?_); rintro e w' ⟨rfl, nd, rfl⟩))
    (try go_ret2)
    first | exact HP.out _ q10 | exact HP1.out _ q10
   ·rw [if_pos rfl] at h
    simp only [Option.some.injEq, Prod.mk.injEq] at h
    obtain ⟨rfl, rfl⟩ := h
    go_enter Try.func38, Try.ntmps38
    go_wp2_with (first | (go_at_call 61; (with_reducible refine (C1.out _).mono ?_); rintro e w' ⟨rfl, nd, rfl⟩) | (go_at_call 61; (with_reducible refine (C2.out _).mono ?_); rintro e w' ⟨rfl, nd, rfl⟩) | (go_at_call 61; (with_reducible refine (C4.out _).mono ?_); rintro e w' ⟨rfl, nd, rfl⟩) | (go_at_call 60; (with_reducible refine (C3.out _).mono ?_); rintro e w' ⟨rfl, nd, rfl⟩) | (go_at_call 62; (with_reducible refine (C5.out _).mono ?_); rintro e w' ⟨rfl, nd, rfl⟩) | (go_at_call 63; (with_reducible refine (C6.out _).mono ?_); rintro e w' ⟨rfl, nd, rfl⟩))
    (try go_ret2)
    first | exact HP.out _ q10 | exact HP1.out _ q10
  ·rw [if_neg c6] at h
   rw [if_neg c6] at ew
   have c6b : (q == 9223372036854775808) = false := beq_eq_false_iff_ne.mpr c6
   have ew2 : wrap64 (-(q)) = -(q) := by unfold wrap64; omega
   clear c6
   cases nb
   ·rw [if_neg (by decide)] at h
    simp only [Option.some.injEq, Prod.mk.injEq] at h
    obtain ⟨rfl, rfl⟩ := h
    have HP1 := Aside0.mk (fun W (hW : Drawn0 w W) => show Post (.returned (.tuple #[.int .i64 (wrap64 (q)), .int .i64 0])) W by rw [ew]; exact HP.out W hW)
    go_enter Try.func38, Try.ntmps38
    go_wp2_with (first | (go_at_call 61; (with_reducible refine (C1.out _).mono ?_); rintro e w' ⟨rfl, nd, rfl⟩) | (go_at_call 61; (with_reducible refine (C2.out _).mono ?_); rintro e w' ⟨rfl, nd, rfl⟩) | (go_at_call 61; (with_reducible refine (C4.out _).mono ?_); rintro e w' ⟨rfl, nd, rfl⟩) | (go_at_call 60; (with_reducible refine (C3.out _).mono ?_); rintro e w' ⟨rfl, nd, rfl⟩) | (go_at_call 62; (with_reducible refine (C5.out _).mono ?_); rintro e w' ⟨rfl, nd, rfl⟩) | (go_at_call 63; (with_reducible refine (C6.out _).mono ?_); rintro e w' ⟨rfl, nd, rfl⟩))
    (try go_ret2)
    first | exact HP.out _ q10 | exact HP1.out _ q10
   ·rw [if_pos rfl] at h
    simp only [Option.some.injEq, Prod.mk.injEq] at h
    obtain ⟨rfl, rfl⟩ := h
    have HP1 := Aside0.mk (fun W (hW : Drawn0 w W) => show Post (.returned (.tuple #[.int .i64 (wrap64 (-wrap64 (q))), .int .i64 0])) W by rw [ew, ew2]; exact HP.out W hW)
    go_enter Try.func38, Try.ntmps38
    go_wp2_with (first | (go_at_call 61; (with_reducible refine (C1.out _).mono ?_); rintro e w' ⟨rfl, nd, rfl⟩) | (go_at_call 61; (with_reducible refine (C2.out _).mono ?_); rintro e w' ⟨rfl, nd, rfl⟩) | (go_at_call 61; (with_reducible refine (C4.out _).mono ?_); rintro e w' ⟨rfl, nd, rfl⟩) | (go_at_call 60; (with_reducible refine (C3.out _).mono ?_); rintro e w' ⟨rfl, nd, rfl⟩) | (go_at_call 62; (with_reducible refine (C5.out _).mono ?_); rintro e w' ⟨rfl, nd, rfl⟩) | (go_at_call 63; (with_reducible refine (C6.out _).mono ?_); rintro e w' ⟨rfl, nd, rfl⟩))
    (try go_ret2)
    first | exact HP.out _ q10 | exact HP1.out _ q10
 ·replace h : some (if 9223372036854775808 < q + 1 then ((0 : Int), (4 : Int)) else if q + 1 = 9223372036854775808 then (if nb = true then (-9223372036854775808, 0) else (0, 4)) else (if nb = true then -(q + 1) else q + 1, 0)) = some (r1, r2) := h
  by_cases c7 : 9223372036854775808 < q + 1
  ·rw [if_pos c7] at h
   simp only [Option.some.injEq, Prod.mk.injEq] at h
   obtain ⟨rfl, rfl⟩ := h
   have c7b : decide (9223372036854775808 < q + 1) = true := decide_eq_true c7
   clear c7 ew
   go_enter Try.func38, Try.ntmps38
   go_wp2_with (first | (go_at_call 61; (with_reducible refine (C1.out _).mono ?_); rintro e w' ⟨rfl, nd, rfl⟩) | (go_at_call 61; (with_reducible refine (C2.out _).mono ?_); rintro e w' ⟨rfl, nd, rfl⟩) | (go_at_call 61; (with_reducible refine (C4.out _).mono ?_); rintro e w' ⟨rfl, nd, rfl⟩) | (go_at_call 60; (with_reducible refine (C3.out _).mono ?_); rintro e w' ⟨rfl, nd, rfl⟩) | (go_at_call 62; (with_reducible refine (C5.out _).mono ?_); rintro e w' ⟨rfl, nd, rfl⟩) | (go_at_call 63; (with_reducible refine (C6.out _).mono ?_); rintro e w' ⟨rfl, nd, rfl⟩))
   (try go_ret2)
   first | exact HP.out _ q10 | exact HP1.out _ q10
  rw [if_neg c7] at h
  clear ew
  have ew : wrap64 (q + 1) = if q + 1 = 9223372036854775808 then -9223372036854775808 else q + 1 := by unfold wrap64; split <;> omega
  have c7b : decide (9223372036854775808 < q + 1) = false := decide_eq_false c7
  have c7' : q + 1 ≤ 9223372036854775808 := by omega
  clear c7
  by_cases c6 : q + 1 = 9223372036854775808
  ·rw [if_pos c6] at h
   obtain rfl : q = 9223372036854775807 := by omega
   obtain rfl : ob = true := by rw [← hob]; decide
   cases nb
   ·rw [if_neg (by decide)] at h
    simp only [Option.some.injEq, Prod.mk.injEq] at h
    obtain ⟨rfl, rfl⟩ := h
    go_enter Try.func38, Try.ntmps38
    go_wp2_with (first | (go_at_call 61; (with_reducible refine (C1.out _).mono ?_); rintro e w' ⟨rfl, nd, rfl⟩) | (go_at_call 61; (with_reducible refine (C2.out _).mono ?_); rintro e w' ⟨rfl, nd, rfl⟩) | (go_at_call 61; (with_reducible refine (C4.out _).mono ?_); rintro e w' ⟨rfl, nd, rfl⟩) | (go_at_call 60; (with_reducible refine (C3.out _).mono ?_); rintro e w' ⟨rfl, nd, rfl⟩) | (go_at_call 62; (with_reducible refine (C5.out _).mono ?_); rintro e w' ⟨rfl, nd, rfl⟩) | (go_at_call 63; (with_reducible refine (C6.out _).mono ?_); rintro e w' ⟨rfl, nd, rfl⟩))
    (try go_ret2)
    first | exact HP.out _ q10 | exact HP1.out _ q10
   ·rw [if_pos rfl] at h
    simp only [Option.some.injEq, Prod.mk.injEq] at h
    obtain ⟨rfl, rfl⟩ := h
    go_enter Try.func38, Try.ntmps38
    go_wp2_with (first | (go_at_call 61; (with_reducible refine (C1.out _).mono ?_); rintro e w' ⟨rfl, nd, rfl⟩) | (go_at_call 61; (with_reducible refine (C2.out _).mono ?_); rintro e w' ⟨rfl, nd, rfl⟩) | (go_at_call 61; (with_reducible refine (C4.out _).mono ?_); rintro e w' ⟨rfl, nd, rfl⟩) | (go_at_call 60; (with_reducible refine (C3.out _).mono ?_); rintro e w' ⟨rfl, nd, rfl⟩) | (go_at_call 62; (with_reducible refine (C5.out _).mono ?_); rintro e w' ⟨rfl, nd, rfl⟩) | (go_at_call 63; (with_reducible refine (C6.out _).mono ?_); rintro e w' ⟨rfl, nd, rfl⟩))
    (try go_ret2)
    first | exact HP.out _ q10 | exact HP1.out _ q10
  ·rw [if_neg c6] at h
   rw [if_neg c6] at ew
   have c6b : (q + 1 == 9223372036854775808) = false := beq_eq_false_iff_ne.mpr c6
   have ew2 : wrap64 (-(q + 1)) = -(q + 1) := by unfold wrap64; omega
   clear c6
   cases nb
   ·rw [if_neg (by decide)] at h
    simp only [Option.some.injEq, Prod.mk.injEq] at h
    obtain ⟨rfl, rfl⟩ := h
    have HP1 := Aside0.mk (fun W (hW : Drawn0 w W) => show Post (.returned (.tuple #[.int .i64 (wrap64 (q + 1)), .int .i64 0])) W by rw [ew]; exact HP.out W hW)
    go_enter Try.func38, Try.ntmps38
    go_wp2_with (first | (go_at_call 61; (with_reducible refine (C1.out _).mono ?_); rintro e w' ⟨rfl, nd, rfl⟩) | (go_at_call 61; (with_reducible refine (C2.out _).mono ?_); rintro e w' ⟨rfl, nd, rfl⟩) | (go_at_call 61; (with_reducible refine (C4.out _).mono ?_); rintro e w' ⟨rfl, nd, rfl⟩) | (go_at_call 60; (with_reducible refine (C3.out _).mono ?_); rintro e w' ⟨rfl, nd, rfl⟩) | (go_at_call 62; (with_reducible refine (C5.out _).mono ?_); rintro e w' ⟨rfl, nd, rfl⟩) | (go_at_call 63; (with_reducible refine (C6.out _).mono ?_); rintro e w' ⟨rfl, nd, rfl⟩))
    (try go_ret2)
    first | exact HP.out _ q10 | exact HP1.out _ q10
   ·rw [if_pos rfl] at h
    simp only [Option.some.injEq, Prod.mk.injEq] at h
    obtain ⟨rfl, rfl⟩ := h
    have HP1 := Aside0.mk (fun W (hW : Drawn0 w W) => show Post (.returned (.tuple #[.int .i64 (wrap64 (-wrap64 (q + 1))), .int .i64 0])) W by rw [ew, ew2]; exact HP.out W hW)
    go_enter Try.func38, Try.ntmps38
    go_wp2_with (first | (go_at_call 61; (with_reducible refine (C1.out _).mono ?_); rintro e w' ⟨rfl, nd, rfl⟩) | (go_at_call 61; (with_reducible refine (C2.out _).mono ?_); rintro e w' ⟨rfl, nd, rfl⟩) | (go_at_call 61; (with_reducible refine (C4.out _).mono ?_); rintro e w' ⟨rfl, nd, rfl⟩) | (go_at_call 60; (with_reducible refine (C3.out _).mono ?_); rintro e w' ⟨rfl, nd, rfl⟩) | (go_at_call 62; (with_reducible refine (C5.out _).mono ?_); rintro e w' ⟨rfl, nd, rfl⟩) | (go_at_call 63; (with_reducible refine (C6.out _).mono ?_); rintro e w' ⟨rfl, nd, rfl⟩))
    (try go_ret2)
    first | exact HP.out _ q10 | exact HP1.out _ q10

/-! ### accountingref03_Apply: function 18 -/
def accountingref03_Apply.f (k : Nat) (a0_0 : Int) (a0_1 : Int) (a1 : Int) (a2 : Int) : Option (Int × Int) := (accountingref03_Right.f k a0_0 a0_1).bind fun t228 => (if t228 = true then ((accountingref02_MulDiv.f k a0_0 a1 a0_1 a2).bind fun bt229 => (some (bt229.1, bt229.2))) else (some (0, 2)))
theorem accountingref03_Apply.mono : ∀ a0 a1 a2 a3 k, LeO (accountingref03_Apply.f k a0 a1 a2 a3) (accountingref03_Apply.f (k + 1) a0 a1 a2 a3) := by
 intro a0 a1 a2 a3 k
 unfold accountingref03_Apply.f
 repeat' first
   | (with_reducible exact accountingref02_MulDiv.mono _ _ _ _ _)
   | (with_reducible exact accountingref03_Right.mono _ _ _)
   | (with_reducible exact LeO.refl _)
   | (with_reducible exact LeO.none _)
   | (with_reducible refine LeO.ite ?_ ?_)
   | (with_reducible refine LeO.bind ?_ (fun _ => ?_))
   | exact accountingref02_MulDiv.mono _ _ _ _ _
   | exact accountingref03_Right.mono _ _ _
   | exact LeO.none _
   | refine LeO.ite ?_ ?_
   | refine LeO.bind ?_ (fun _ => ?_)
set_option maxHeartbeats 8000000 in
set_option maxRecDepth 100000 in
theorem accountingref03_Apply.calls (k : Nat) (a0_0 : Int) (a0_1 : Int) (a1 : Int) (a2 : Int) (r1 : Int) (r2 : Int) (w : World) (h : accountingref03_Apply.f k a0_0 a0_1 a1 a2 = some (r1, r2)) :
  Calls Try.prog 18 #[.agg #[.int .i64 a0_0, .int .i64 a0_1], .int .i64 a1, .int .i64 a2] w fun e w' => e = .returned (.tuple #[.int .i64 r1, .int .i64 r2]) ∧ Below w.heap.size w w' := by
 have hu23 := Try.underlying23
 have HB := Aside0.mk (Below.refl w.heap.size w)
 have H : ((accountingref03_Right.f k a0_0 a0_1).bind fun t228 => (if t228 = true then ((accountingref02_MulDiv.f k a0_0 a1 a0_1 a2).bind fun bt229 => (some (bt229.1, bt229.2))) else (some (0, 2)))) = some (r1, r2) := h
 clear h
 replace H := Option.bind_eq_some_iff.mp H
 obtain ⟨t228, A40, H⟩ := H
 replace H : (if t228 = true then ((accountingref02_MulDiv.f k a0_0 a1 a0_1 a2).bind fun bt229 => (some (bt229.1, bt229.2))) else (some (0, 2))) = some (r1, r2) := H
 have A4 := Aside0.mk A40
 clear A40
 by_cases c5 : t228 = true
 ·subst c5
  have H1 : ((accountingref02_MulDiv.f k a0_0 a1 a0_1 a2).bind fun bt229 => (some (bt229.1, bt229.2))) = some (r1, r2) := by rw [if_pos rfl] at H; exact H
  clear H
  have H := H1
  clear H1
  replace H := Option.bind_eq_some_iff.mp H
  obtain ⟨⟨t229, t230⟩, A60, H⟩ := H
  replace H : (some (t229, t230)) = some (r1, r2) := H
  have A6 := Aside0.mk A60
  clear A60
  simp only [Option.some.injEq, Prod.mk.injEq] at H
  obtain ⟨rfl, rfl⟩ := H
  go_enter Try.func18, Try.ntmps18
  go_wp2_with (first | ((with_reducible refine gate_dst (N := 3) rfl ?_); refine box_event ?hg (N := 3) ?hd (cs := #[.int .i64 a0_0, .int .i64 a0_1]) (t := 23) ?hr ?_; (case hd => rfl); (case hg => rfl); (case hr => first | (go_simp; done) | (go_simp; rfl)); intro gb227 hg w7 hbox hb; have n0_ := Aside0.mk (below_step q11 hb); have n1_ := Aside0.mk (hbox); have n2_ := Aside0.mk ((q12 : w.heap.size ≤ gb227)); have n3_ := Aside0.mk ((q12 : w.heap.size ≤ gb227)); clear HB; have HB := n0_; have BK227 := n1_; have GW227 := n2_; have GE227 := n3_; clear n0_ n1_ n2_ n3_; clear hb hbox hg; have hcz8_0 : w7.cell? ⟨gb227, 0, none⟩ = some (.int .i64 a0_0) := (blk_cell BK227.out 0).trans rfl; have hcz8_1 : w7.cell? ⟨gb227, 1, none⟩ = some (.int .i64 a0_1) := (blk_cell BK227.out 1).trans rfl; have hfz8_0 := blk_frozen BK227.out 0; have hfz8_1 := blk_frozen BK227.out 1) | ((with_reducible refine gate_callee (f := 13) rfl ?_); refine goesL_ (some 9) rfl rfl Try.func13 (by kernel_rfl) rfl #[.agg #[.int .i64 a0_0, .int .i64 a0_1]] rfl q20 ?_; (with_reducible refine (accountingref03_Right.calls k a0_0 a0_1 true _ A4.out).mono ?_); rintro e w9 ⟨rfl, hb⟩; refine ⟨_, rfl, ?_⟩; have n0_ := Aside0.mk (blk_below (g := gb227) (o := .cells #[.int .i64 a0_0, .int .i64 a0_1] 23 (0, 0)) (by (with_reducible repeat (first | refine blk_drewN ?_ _ | refine blk_drew ?_ | refine blk_alloc ?_ _)); exact BK227.out) hb); have n1_ := Aside0.mk (below_step q21 hb); clear BK227; clear HB; have BK227 := n0_; have HB := n1_; clear n0_ n1_; (try clear hb); (try clear hb2); (try clear hk); (try clear hi); have hcz10_0 : w9.cell? ⟨gb227, 0, none⟩ = some (.int .i64 a0_0) := (blk_cell BK227.out 0).trans rfl; have hcz10_1 : w9.cell? ⟨gb227, 1, none⟩ = some (.int .i64 a0_1) := (blk_cell BK227.out 1).trans rfl; have hfz10_0 := blk_frozen BK227.out 0; have hfz10_1 := blk_frozen BK227.out 1) | ((with_reducible refine gate_callee (f := 38) rfl ?_); refine goesL_ (some 17) rfl rfl Try.func38 (by kernel_rfl) rfl #[.int .i64 a0_0, .int .i64 a1, .int .i64 a0_1, .int .i64 a2] rfl q20 ?_; (with_reducible refine (accountingref02_MulDiv.calls k a0_0 a1 a0_1 a2 t229 t230 _ A6.out).mono ?_); rintro e w' ⟨rfl, ⟨nd, rfl⟩⟩; refine ⟨_, rfl, ?_⟩))
  go_ret2
  exact ⟨q13, q21⟩
 ·replace c5 := Bool.eq_false_iff.mpr c5
  subst c5
  have H1 : (some (0, 2)) = some (r1, r2) := by rw [if_neg (show ¬ (false = true) by decide)] at H; exact H
  clear H
  have H := H1
  clear H1
  simp only [Option.some.injEq, Prod.mk.injEq] at H
  obtain ⟨rfl, rfl⟩ := H
  go_enter Try.func18, Try.ntmps18
  go_wp2_with (first | ((with_reducible refine gate_dst (N := 3) rfl ?_); refine box_event ?hg (N := 3) ?hd (cs := #[.int .i64 a0_0, .int .i64 a0_1]) (t := 23) ?hr ?_; (case hd => rfl); (case hg => rfl); (case hr => first | (go_simp; done) | (go_simp; rfl)); intro gb227 hg w11 hbox hb; have n0_ := Aside0.mk (below_step q11 hb); have n1_ := Aside0.mk (hbox); have n2_ := Aside0.mk ((q12 : w.heap.size ≤ gb227)); have n3_ := Aside0.mk ((q12 : w.heap.size ≤ gb227)); clear HB; have HB := n0_; have BK227 := n1_; have GW227 := n2_; have GE227 := n3_; clear n0_ n1_ n2_ n3_; clear hb hbox hg; have hcz12_0 : w11.cell? ⟨gb227, 0, none⟩ = some (.int .i64 a0_0) := (blk_cell BK227.out 0).trans rfl; have hcz12_1 : w11.cell? ⟨gb227, 1, none⟩ = some (.int .i64 a0_1) := (blk_cell BK227.out 1).trans rfl; have hfz12_0 := blk_frozen BK227.out 0; have hfz12_1 := blk_frozen BK227.out 1) | ((with_reducible refine gate_callee (f := 13) rfl ?_); refine goesL_ (some 9) rfl rfl Try.func13 (by kernel_rfl) rfl #[.agg #[.int .i64 a0_0, .int .i64 a0_1]] rfl q20 ?_; (with_reducible refine (accountingref03_Right.calls k a0_0 a0_1 false _ A4.out).mono ?_); rintro e w13 ⟨rfl, hb⟩; refine ⟨_, rfl, ?_⟩; have n0_ := Aside0.mk (blk_below (g := gb227) (o := .cells #[.int .i64 a0_0, .int .i64 a0_1] 23 (0, 0)) (by (with_reducible repeat (first | refine blk_drewN ?_ _ | refine blk_drew ?_ | refine blk_alloc ?_ _)); exact BK227.out) hb); have n1_ := Aside0.mk (below_step q21 hb); clear BK227; clear HB; have BK227 := n0_; have HB := n1_; clear n0_ n1_; (try clear hb); (try clear hb2); (try clear hk); (try clear hi)))
  go_ret2
  exact ⟨q13, q21⟩

end Go.Proofs.Ytoenhagbgfkihaa.A
