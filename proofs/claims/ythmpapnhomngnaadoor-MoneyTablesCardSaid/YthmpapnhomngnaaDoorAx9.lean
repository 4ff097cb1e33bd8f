-- By gen.py, a program of this session's, over the print's forms: not the print's own text.
import Derived.Test.YthmpapnhomngnaaDoorAx0
import Derived.Test.YthmpapnhomngnaaDoorQ
namespace Go.Proofs.YthmpapnhomngnaaDoor.A
open Go.RowKit Go.Proofs.YthmpapnhomngnaaDoor.B Go.Proofs.YthmpapnhomngnaaDoorW.PrintWords Go.Proofs.YthmpapnhomngnaaDoorW.PrintLast Go.Proofs.YthmpapnhomngnaaDoorW.PrintMore
attribute [local go_sem] max2_int min2_int max_two min_two max_three min_three max_four min_four   -- for this text's walks alone
set_option linter.unusedVariables false
set_option linter.unusedSimpArgs false

/-! ### accountingref07_Power: function 13 -/
def accountingref07_Power.l0 : Nat → Int → Int → Int → Option (Int)
 | 0, _, _, _ => none
 | k + 1, x0, x3, x4 => if x4 < x0 then (accountingref07_Power.l0 k x0 (wrap64 (x3 * 10)) (wrap64 (x4 + 1))) else (some x3)
def accountingref07_Power.f (k : Nat) (a0 : Int) : Option (Int) := accountingref07_Power.l0 k a0 1 0
theorem accountingref07_Power.mono_l : ∀ k, (∀ y0 y1 y2, LeO (accountingref07_Power.l0 k y0 y1 y2) (accountingref07_Power.l0 (k + 1) y0 y1 y2))
 | 0 => fun _ _ _ r h => by simp [accountingref07_Power.l0] at h
 | k + 1 => by
  have ih0 := accountingref07_Power.mono_l k
  ·intro y0 y1 y2
   unfold accountingref07_Power.l0
   repeat' first
   | (with_reducible exact ih0 _ _ _)
   | (with_reducible exact LeO.refl _)
   | (with_reducible exact LeO.none _)
   | (with_reducible refine LeO.ite ?_ ?_)
   | (with_reducible refine LeO.bind ?_ (fun _ => ?_))
   | exact ih0 _ _ _
   | exact LeO.none _
   | refine LeO.ite ?_ ?_
   | refine LeO.bind ?_ (fun _ => ?_)
theorem accountingref07_Power.mono : ∀ a0 k, LeO (accountingref07_Power.f k a0) (accountingref07_Power.f (k + 1) a0) := by
 intro a0 k
 have ih0 := accountingref07_Power.mono_l k
 unfold accountingref07_Power.f
 repeat' first
   | (with_reducible exact ih0 _ _ _)
   | (with_reducible exact LeO.refl _)
   | (with_reducible exact LeO.none _)
   | (with_reducible refine LeO.ite ?_ ?_)
   | (with_reducible refine LeO.bind ?_ (fun _ => ?_))
   | exact ih0 _ _ _
   | exact LeO.none _
   | refine LeO.ite ?_ ?_
   | refine LeO.bind ?_ (fun _ => ?_)
set_option maxHeartbeats 8000000 in
set_option maxRecDepth 100000 in
theorem accountingref07_Power.calls (k : Nat) (a0 : Int) (r : Int) (w : World) (h : accountingref07_Power.f k a0 = some r) :
  Calls Tryd.prog 13 #[.int .i64 a0] w fun e w' => e = .returned (.int .i64 r) ∧ Drawn0 w w' := by
 have H : (accountingref07_Power.l0 k a0 1 0) = some r := h
 clear h
 have H' := Aside0.mk H
 clear H
 go_enter Tryd.func13, Tryd.ntmps13
 go_wp2
 go_loopg [3, 4] k (fun kq v3 v4 w' => ∃ (x3_1 : Int) (x4_1 : Int), v3 = .int .i64 x3_1 ∧ v4 = .int .i64 x4_1 ∧ Aside0 (accountingref07_Power.l0 kq a0 x3_1 x4_1 = some r) ∧ Aside0 (kq ≤ k) ∧ Drawn0 w w')
 case atStart => exact ⟨(1), (0), zq1, zq1, H', ⟨Nat.le_refl _⟩, zq2⟩
 case round =>
  clear H'
  try clear c1
  obtain ⟨x3_1, x4_1, rfl, rfl, HA, HK1, ⟨m1, rfl⟩⟩ := hrel
  cases gk with
  | zero => exact absurd HA.out (by simp [accountingref07_Power.l0])
  | succ k1 =>
   have H := HA.out
   clear HA
   simp only [accountingref07_Power.l0] at H
   by_cases c2 : x4_1 < a0
   ·rw [if_pos c2] at H
    have c2b0 : decide (x4_1 < a0) = true := decide_eq_true c2
    clear c2
    have H' := Aside0.mk H
    clear H
    go_wp2
    go_roundg k1
    case measure => have := HK1.out; omega
    case rel => exact ⟨(wrap64 (x3_1 * 10)), (wrap64 (x4_1 + 1)), zq1, zq1, H', ⟨by have := HK1.out; omega⟩, zq2⟩
   ·rw [if_neg c2] at H
    have c2b0 : decide (x4_1 < a0) = false := decide_eq_false c2
    clear c2
    obtain rfl := Option.some.inj H
    go_wp2
    go_ret
    exact ⟨zq1, zq2⟩

/-! ### accountingref07_large: function 27 -/
def accountingref07_large.f (a0 : Int) : Option (Bool) := if a0 > 1000000000000000 then (some true) else (some (decide (a0 < (-1000000000000000))))
set_option maxHeartbeats 8000000 in
set_option maxRecDepth 100000 in
theorem accountingref07_large.calls (a0 : Int) (r : Bool) (w : World) (h : accountingref07_large.f a0 = some r) :
  Calls Tryd.prog 27 #[.int .i64 a0] w fun e w' => e = .returned (.bool r) ∧ Drawn0 w w' := by
 have H : (if a0 > 1000000000000000 then (some true) else (some (decide (a0 < (-1000000000000000))))) = some r := h
 clear h
 by_cases c2 : a0 > 1000000000000000
 ·rw [if_pos c2] at H
  have c2b0 : decide (1000000000000000 < a0) = true := decide_eq_true c2
  clear c2
  obtain rfl := Option.some.inj H
  go_enter Tryd.func27, Tryd.ntmps27
  go_wp2
  go_ret
  exact ⟨zq1, zq2⟩
 ·rw [if_neg c2] at H
  have c2b0 : decide (1000000000000000 < a0) = false := decide_eq_false c2
  clear c2
  obtain rfl := Option.some.inj H
  go_enter Tryd.func27, Tryd.ntmps27
  go_wp2
  go_ret
  exact ⟨zq1, zq2⟩

/-! ### accountingref07_Round: function 28 -/
def accountingref07_Round.j0 : Nat → Int → Int → Int → Int → Int → Option (Int)
 | 0, _, _, _, _, _ => none
 | k + 1, x0, x1, x2, x7, x8 => if x2 = 1 then (if x0 < 0 then (if x8 > 0 then (some (wrap64 (x7 + 1))) else (some x7)) else (some x7)) else (if x2 = 2 then (if x0 > 0 then (if x8 > 0 then (some (wrap64 (x7 + 1))) else (some x7)) else (some x7)) else (if x2 = 3 then (if (wrap64 (2 * x8)) > x1 then (some (wrap64 (x7 + 1))) else (if (wrap64 (2 * x8)) = x1 then (if x0 > 0 then (some (wrap64 (x7 + 1))) else (some x7)) else (some x7))) else (if x2 = 4 then (if (wrap64 (2 * x8)) > x1 then (some (wrap64 (x7 + 1))) else (if (wrap64 (2 * x8)) = x1 then (if (Int.tmod x7 2) = 0 then (some x7) else (some (wrap64 (x7 + 1)))) else (some x7))) else (some x7))))
def accountingref07_Round.f (k : Nat) (a0 : Int) (a1 : Int) (a2 : Int) : Option (Int) := if a1 = 0 then (none) else (if (Int.tmod a0 a1) < 0 then (accountingref07_Round.j0 k a0 a1 a2 (wrap64 ((wrap64 (Int.tdiv a0 a1)) - 1)) (wrap64 ((Int.tmod a0 a1) + a1))) else (accountingref07_Round.j0 k a0 a1 a2 (wrap64 (Int.tdiv a0 a1)) (Int.tmod a0 a1)))
theorem accountingref07_Round.mono_l : ∀ k, (∀ y0 y1 y2 y3 y4, LeO (accountingref07_Round.j0 k y0 y1 y2 y3 y4) (accountingref07_Round.j0 (k + 1) y0 y1 y2 y3 y4))
 | 0 => fun _ _ _ _ _ r h => by simp [accountingref07_Round.j0] at h
 | k + 1 => by
  have ih0 := accountingref07_Round.mono_l k
  ·intro y0 y1 y2 y3 y4
   unfold accountingref07_Round.j0
   repeat' first
   | (with_reducible exact ih0 _ _ _ _ _)
   | (with_reducible exact LeO.refl _)
   | (with_reducible exact LeO.none _)
   | (with_reducible refine LeO.ite ?_ ?_)
   | (with_reducible refine LeO.bind ?_ (fun _ => ?_))
   | exact ih0 _ _ _ _ _
   | exact LeO.none _
   | refine LeO.ite ?_ ?_
   | refine LeO.bind ?_ (fun _ => ?_)
theorem accountingref07_Round.mono : ∀ a0 a1 a2 k, LeO (accountingref07_Round.f k a0 a1 a2) (accountingref07_Round.f (k + 1) a0 a1 a2) := by
 intro a0 a1 a2 k
 have ih0 := accountingref07_Round.mono_l k
 unfold accountingref07_Round.f
 repeat' first
   | (with_reducible exact ih0 _ _ _ _ _)
   | (with_reducible exact LeO.refl _)
   | (with_reducible exact LeO.none _)
   | (with_reducible refine LeO.ite ?_ ?_)
   | (with_reducible refine LeO.bind ?_ (fun _ => ?_))
   | exact ih0 _ _ _ _ _
   | exact LeO.none _
   | refine LeO.ite ?_ ?_
   | refine LeO.bind ?_ (fun _ => ?_)
set_option maxHeartbeats 8000000 in
set_option maxRecDepth 100000 in
theorem accountingref07_Round.calls (k : Nat) (a0 : Int) (a1 : Int) (a2 : Int) (r : Int) (w : World) (h : accountingref07_Round.f k a0 a1 a2 = some r) :
  Calls Tryd.prog 28 #[.int .i64 a0, .int .i64 a1, .int .i64 a2] w fun e w' => e = .returned (.int .i64 r) ∧ Drawn0 w w' := by
 have H : (if a1 = 0 then (none) else (if (Int.tmod a0 a1) < 0 then (accountingref07_Round.j0 k a0 a1 a2 (wrap64 ((wrap64 (Int.tdiv a0 a1)) - 1)) (wrap64 ((Int.tmod a0 a1) + a1))) else (accountingref07_Round.j0 k a0 a1 a2 (wrap64 (Int.tdiv a0 a1)) (Int.tmod a0 a1)))) = some r := h
 clear h
 by_cases c4 : a1 = 0
 ·rw [if_pos c4] at H
  exact absurd H (by simp)
 ·rw [if_neg c4] at H
  have c4b0 : (a1 == 0) = false := beq_eq_false_iff_ne.mpr c4
  have c4b1 : (a1 != 0) = true := bne_iff_ne.mpr c4
  have HC5 := Aside0.mk H
  clear H
  go_enter Tryd.func28, Tryd.ntmps28
  go_upto_if 17 with (fail)
  repeat (go_quiet (fail); go_upto_if 17 with (fail))
  go_cut [7, 8] (fun v7 v8 wc => ∃ (kq : Nat) (x7_4 : Int) (x8_4 : Int), v7 = .int .i64 x7_4 ∧ v8 = .int .i64 x8_4 ∧ Aside0 (accountingref07_Round.j0 kq a0 a1 a2 x7_4 x8_4 = some r) ∧ Aside0 (kq ≤ k) ∧ Drawn0 w wc)
  case first =>
   have H := HC5.out
   clear HC5
   by_cases c6 : (Int.tmod a0 a1) < 0
   ·rw [if_pos c6] at H
    have c6b0 : decide ((Int.tmod a0 a1) < 0) = true := decide_eq_true c6
    clear c6
    (first | rw [c6b0] | (simp only [i64_w, i32_w]; rw [c6b0]) | skip)
    have H' := Aside0.mk H
    clear H
    go_wp2
    repeat (go_quiet (fail); try go_wp2)
    go_meet
    case rel => exact ⟨_, (wrap64 ((wrap64 (Int.tdiv a0 a1)) - 1)), (wrap64 ((Int.tmod a0 a1) + a1)), zq1, zq1, H', ⟨by first | omega | exact Nat.le_refl _⟩, zq2⟩
   ·rw [if_neg c6] at H
    have c6b0 : decide ((Int.tmod a0 a1) < 0) = false := decide_eq_false c6
    clear c6
    (first | rw [c6b0] | (simp only [i64_w, i32_w]; rw [c6b0]) | skip)
    have H' := Aside0.mk H
    clear H
    go_wp2
    repeat (go_quiet (fail); try go_wp2)
    go_meet
    case rel => exact ⟨_, (wrap64 (Int.tdiv a0 a1)), (Int.tmod a0 a1), zq1, zq1, H', ⟨by first | omega | exact Nat.le_refl _⟩, zq2⟩
  case rest =>
   clear HC5
   try clear c2
   try clear p2
   try clear c4
   try clear c4b0
   try clear c4b1
   try clear c6
   try clear c6b0
   try clear p6
   obtain ⟨kq, x7_4, x8_4, rfl, rfl, HA, HJ4, ⟨mc4, rfl⟩⟩ := hcut
   cases kq with
   | zero => exact absurd HA.out (by simp [accountingref07_Round.j0])
   | succ kj4 =>
    have H := HA.out
    clear HA
    simp only [accountingref07_Round.j0] at H
    by_cases c7 : a2 = 1
    ·rw [if_pos c7] at H
     have c7b0 : (a2 == 1) = true := beq_iff_eq.mpr c7
     have c7b1 : (a2 != 1) = false := bne_eq_false_iff_eq.mpr c7
     clear c7
     by_cases c8 : a0 < 0
     ·rw [if_pos c8] at H
      have c8b0 : decide (a0 < 0) = true := decide_eq_true c8
      clear c8
      by_cases c9 : x8_4 > 0
      ·rw [if_pos c9] at H
       have c9b0 : decide (0 < x8_4) = true := decide_eq_true c9
       clear c9
       obtain rfl := Option.some.inj H
       go_wp2
       repeat (go_quiet (fail); try go_wp2)
       go_ret
       exact ⟨zq1, zq2⟩
      ·rw [if_neg c9] at H
       have c9b0 : decide (0 < x8_4) = false := decide_eq_false c9
       clear c9
       obtain rfl := Option.some.inj H
       go_wp2
       repeat (go_quiet (fail); try go_wp2)
       go_ret
       exact ⟨zq1, zq2⟩
     ·rw [if_neg c8] at H
      have c8b0 : decide (a0 < 0) = false := decide_eq_false c8
      clear c8
      obtain rfl := Option.some.inj H
      go_wp2
      repeat (go_quiet (fail); try go_wp2)
      go_ret
      exact ⟨zq1, zq2⟩
    ·rw [if_neg c7] at H
     have c7b0 : (a2 == 1) = false := beq_eq_false_iff_ne.mpr c7
     have c7b1 : (a2 != 1) = true := bne_iff_ne.mpr c7
     by_cases c10 : a2 = 2
     ·rw [if_pos c10] at H
      have c10b0 : (a2 == 2) = true := beq_iff_eq.mpr c10
      have c10b1 : (a2 != 2) = false := bne_eq_false_iff_eq.mpr c10
      clear c10
      by_cases c11 : a0 > 0
      ·rw [if_pos c11] at H
       have c11b0 : decide (0 < a0) = true := decide_eq_true c11
       clear c11
       by_cases c12 : x8_4 > 0
       ·rw [if_pos c12] at H
        have c12b0 : decide (0 < x8_4) = true := decide_eq_true c12
        clear c12
        obtain rfl := Option.some.inj H
        go_wp2
        repeat (go_quiet (fail); try go_wp2)
        go_ret
        exact ⟨zq1, zq2⟩
       ·rw [if_neg c12] at H
        have c12b0 : decide (0 < x8_4) = false := decide_eq_false c12
        clear c12
        obtain rfl := Option.some.inj H
        go_wp2
        repeat (go_quiet (fail); try go_wp2)
        go_ret
        exact ⟨zq1, zq2⟩
      ·rw [if_neg c11] at H
       have c11b0 : decide (0 < a0) = false := decide_eq_false c11
       clear c11
       obtain rfl := Option.some.inj H
       go_wp2
       repeat (go_quiet (fail); try go_wp2)
       go_ret
       exact ⟨zq1, zq2⟩
     ·rw [if_neg c10] at H
      have c10b0 : (a2 == 2) = false := beq_eq_false_iff_ne.mpr c10
      have c10b1 : (a2 != 2) = true := bne_iff_ne.mpr c10
      by_cases c13 : a2 = 3
      ·rw [if_pos c13] at H
       have c13b0 : (a2 == 3) = true := beq_iff_eq.mpr c13
       have c13b1 : (a2 != 3) = false := bne_eq_false_iff_eq.mpr c13
       clear c13
       by_cases c14 : (wrap64 (2 * x8_4)) > a1
       ·rw [if_pos c14] at H
        have c14b0 : decide (a1 < (wrap64 (2 * x8_4))) = true := decide_eq_true c14
        clear c14
        obtain rfl := Option.some.inj H
        go_wp2
        repeat (go_quiet (fail); try go_wp2)
        go_ret
        exact ⟨zq1, zq2⟩
       ·rw [if_neg c14] at H
        have c14b0 : decide (a1 < (wrap64 (2 * x8_4))) = false := decide_eq_false c14
        clear c14
        by_cases c15 : (wrap64 (2 * x8_4)) = a1
        ·rw [if_pos c15] at H
         have c15b0 : ((wrap64 (2 * x8_4)) == a1) = true := beq_iff_eq.mpr c15
         have c15b1 : ((wrap64 (2 * x8_4)) != a1) = false := bne_eq_false_iff_eq.mpr c15
         clear c15
         by_cases c16 : a0 > 0
         ·rw [if_pos c16] at H
          have c16b0 : decide (0 < a0) = true := decide_eq_true c16
          clear c16
          obtain rfl := Option.some.inj H
          go_wp2
          repeat (go_quiet (fail); try go_wp2)
          go_ret
          exact ⟨zq1, zq2⟩
         ·rw [if_neg c16] at H
          have c16b0 : decide (0 < a0) = false := decide_eq_false c16
          clear c16
          obtain rfl := Option.some.inj H
          go_wp2
          repeat (go_quiet (fail); try go_wp2)
          go_ret
          exact ⟨zq1, zq2⟩
        ·rw [if_neg c15] at H
         have c15b0 : ((wrap64 (2 * x8_4)) == a1) = false := beq_eq_false_iff_ne.mpr c15
         have c15b1 : ((wrap64 (2 * x8_4)) != a1) = true := bne_iff_ne.mpr c15
         obtain rfl := Option.some.inj H
         go_wp2
         repeat (go_quiet (fail); try go_wp2)
         go_ret
         exact ⟨zq1, zq2⟩
      ·rw [if_neg c13] at H
       have c13b0 : (a2 == 3) = false := beq_eq_false_iff_ne.mpr c13
       have c13b1 : (a2 != 3) = true := bne_iff_ne.mpr c13
       by_cases c17 : a2 = 4
       ·rw [if_pos c17] at H
        have c17b0 : (a2 == 4) = true := beq_iff_eq.mpr c17
        have c17b1 : (a2 != 4) = false := bne_eq_false_iff_eq.mpr c17
        clear c17
        by_cases c18 : (wrap64 (2 * x8_4)) > a1
        ·rw [if_pos c18] at H
         have c18b0 : decide (a1 < (wrap64 (2 * x8_4))) = true := decide_eq_true c18
         clear c18
         obtain rfl := Option.some.inj H
         go_wp2
         repeat (go_quiet (fail); try go_wp2)
         go_ret
         exact ⟨zq1, zq2⟩
        ·rw [if_neg c18] at H
         have c18b0 : decide (a1 < (wrap64 (2 * x8_4))) = false := decide_eq_false c18
         clear c18
         by_cases c19 : (wrap64 (2 * x8_4)) = a1
         ·rw [if_pos c19] at H
          have c19b0 : ((wrap64 (2 * x8_4)) == a1) = true := beq_iff_eq.mpr c19
          have c19b1 : ((wrap64 (2 * x8_4)) != a1) = false := bne_eq_false_iff_eq.mpr c19
          clear c19
          by_cases c20 : (Int.tmod x7_4 2) = 0
          ·rw [if_pos c20] at H
           have c20b0 : ((Int.tmod x7_4 2) == 0) = true := beq_iff_eq.mpr c20
           have c20b1 : ((Int.tmod x7_4 2) != 0) = false := bne_eq_false_iff_eq.mpr c20
           clear c20
           obtain rfl := Option.some.inj H
           go_wp2
           repeat (go_quiet (fail); try go_wp2)
           go_ret
           exact ⟨zq1, zq2⟩
          ·rw [if_neg c20] at H
           have c20b0 : ((Int.tmod x7_4 2) == 0) = false := beq_eq_false_iff_ne.mpr c20
           have c20b1 : ((Int.tmod x7_4 2) != 0) = true := bne_iff_ne.mpr c20
           obtain rfl := Option.some.inj H
           go_wp2
           repeat (go_quiet (fail); try go_wp2)
           go_ret
           exact ⟨zq1, zq2⟩
         ·rw [if_neg c19] at H
          have c19b0 : ((wrap64 (2 * x8_4)) == a1) = false := beq_eq_false_iff_ne.mpr c19
          have c19b1 : ((wrap64 (2 * x8_4)) != a1) = true := bne_iff_ne.mpr c19
          obtain rfl := Option.some.inj H
          go_wp2
          repeat (go_quiet (fail); try go_wp2)
          go_ret
          exact ⟨zq1, zq2⟩
       ·rw [if_neg c17] at H
        have c17b0 : (a2 == 4) = false := beq_eq_false_iff_ne.mpr c17
        have c17b1 : (a2 != 4) = true := bne_iff_ne.mpr c17
        obtain rfl := Option.some.inj H
        go_wp2
        repeat (go_quiet (fail); try go_wp2)
        go_ret
        exact ⟨zq1, zq2⟩

/-! ### accountingref01_size: function 42 -/
def accountingref01_size.f (a0 : Int) : Option (Int) := if a0 < 0 then (some (IntKind.u64.wrap ((IntKind.u64.wrap (18446744073709551615 - (IntKind.u64.wrap (a0)))) + 1))) else (some (IntKind.u64.wrap (a0)))
set_option maxHeartbeats 8000000 in
set_option maxRecDepth 100000 in
theorem accountingref01_size.calls (a0 : Int) (r : Int) (w : World) (h : accountingref01_size.f a0 = some r) :
  Calls Tryd.prog 42 #[.int .i64 a0] w fun e w' => e = .returned (.int .u64 r) ∧ Drawn0 w w' := by
 have H : (if a0 < 0 then (some (IntKind.u64.wrap ((IntKind.u64.wrap (18446744073709551615 - (IntKind.u64.wrap (a0)))) + 1))) else (some (IntKind.u64.wrap (a0)))) = some r := h
 clear h
 by_cases c2 : a0 < 0
 ·rw [if_pos c2] at H
  have c2b0 : decide (a0 < 0) = true := decide_eq_true c2
  clear c2
  obtain rfl := Option.some.inj H
  go_enter Tryd.func42, Tryd.ntmps42
  go_wp2
  go_ret
  exact ⟨zq1, zq2⟩
 ·rw [if_neg c2] at H
  have c2b0 : decide (a0 < 0) = false := decide_eq_false c2
  clear c2
  obtain rfl := Option.some.inj H
  go_enter Tryd.func42, Tryd.ntmps42
  go_wp2
  go_ret
  exact ⟨zq1, zq2⟩

end Go.Proofs.YthmpapnhomngnaaDoor.A
