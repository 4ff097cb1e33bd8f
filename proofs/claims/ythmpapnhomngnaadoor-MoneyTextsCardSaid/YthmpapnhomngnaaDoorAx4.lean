-- By gen.py, a program of this session's, over the print's forms: not the print's own text.
import Derived.Test.YthmpapnhomngnaaDoorAx0
import Derived.Test.YthmpapnhomngnaaDoorAx1
import Derived.Test.YthmpapnhomngnaaDoorAx2
import Derived.Test.YthmpapnhomngnaaDoorAx3
namespace Go.Proofs.YthmpapnhomngnaaDoor.A
open Go.RowKit Go.Proofs.YthmpapnhomngnaaDoor.B Go.Proofs.YthmpapnhomngnaaDoorW.PrintWords Go.Proofs.YthmpapnhomngnaaDoorW.PrintLast Go.Proofs.YthmpapnhomngnaaDoorW.PrintMore
attribute [local go_sem] max2_int min2_int max_two min_two max_three min_three max_four min_four   -- for this text's walks alone
set_option linter.unusedVariables false
set_option linter.unusedSimpArgs false

/-! ### accountingref07_Scale: function 11 -/
mutual
def accountingref07_Scale.j0 : Nat → Int → Int → Int → Int → Bool → Option (Int × Int)
  | 0, _, _, _, _, _ => none
  | k + 1, x0, x1, x2, x3, x17 => if x17 = true then (some (0, 10)) else (if x1 < 0 then (accountingref07_Scale.j1 k x0 x1 x2 x3 true) else (if x1 > 4 then (accountingref07_Scale.j1 k x0 x1 x2 x3 true) else (if x2 < 0 then (accountingref07_Scale.j1 k x0 x1 x2 x3 true) else (accountingref07_Scale.j1 k x0 x1 x2 x3 (decide (x2 > 4))))))
def accountingref07_Scale.j1 : Nat → Int → Int → Int → Int → Bool → Option (Int × Int)
  | 0, _, _, _, _, _ => none
  | k + 1, x0, x1, x2, x3, x31 => if x31 = true then (some (0, 2)) else ((accountingref07_large.f x0).bind fun t103 => (if t103 = true then (some (0, 4)) else (if x1 ≥ x2 then ((accountingref07_Power.f k (wrap64 (x1 - x2))).bind fun t104 => ((accountingref07_Round.f k x0 t104 x3).bind fun t105 => (some (t105, 0)))) else ((accountingref07_Power.f k (wrap64 (x2 - x1))).bind fun t106 => ((accountingref01_Mul.f k x0 t106).bind fun bt107 => (if bt107.2 = true then ((accountingref07_large.f bt107.1).bind fun t109 => (if t109 = true then (some (0, 4)) else (some (bt107.1, 0)))) else (some (0, 4))))))))
end
def accountingref07_Scale.f (k : Nat) (a0 : Int) (a1 : Int) (a2 : Int) (a3 : Int) : Option (Int × Int) := if a3 < 1 then (accountingref07_Scale.j0 k a0 a1 a2 a3 true) else (accountingref07_Scale.j0 k a0 a1 a2 a3 (decide (a3 > 5)))
theorem accountingref07_Scale.mono_l : ∀ k, (∀ y0 y1 y2 y3 y4, LeO (accountingref07_Scale.j0 k y0 y1 y2 y3 y4) (accountingref07_Scale.j0 (k + 1) y0 y1 y2 y3 y4)) ∧ (∀ y0 y1 y2 y3 y4, LeO (accountingref07_Scale.j1 k y0 y1 y2 y3 y4) (accountingref07_Scale.j1 (k + 1) y0 y1 y2 y3 y4))
  | 0 => ⟨fun _ _ _ _ _ r h => by simp [accountingref07_Scale.j0] at h, fun _ _ _ _ _ r h => by simp [accountingref07_Scale.j1] at h⟩
  | k + 1 => by
    obtain ⟨ih0, ih1⟩ := accountingref07_Scale.mono_l k
    refine ⟨?_, ?_⟩
    · intro y0 y1 y2 y3 y4
      unfold accountingref07_Scale.j0
      repeat' first
      | (with_reducible exact ih0 _ _ _ _ _)
      | (with_reducible exact ih1 _ _ _ _ _)
      | (with_reducible exact accountingref01_Mul.mono _ _ _)
      | (with_reducible exact accountingref07_Power.mono _ _)
      | (with_reducible exact accountingref07_Round.mono _ _ _ _)
      | (with_reducible exact LeO.refl _)
      | (with_reducible exact LeO.none _)
      | (with_reducible refine LeO.ite ?_ ?_)
      | (with_reducible refine LeO.bind ?_ (fun _ => ?_))
      | exact ih0 _ _ _ _ _
      | exact ih1 _ _ _ _ _
      | exact accountingref01_Mul.mono _ _ _
      | exact accountingref07_Power.mono _ _
      | exact accountingref07_Round.mono _ _ _ _
      | exact LeO.none _
      | refine LeO.ite ?_ ?_
      | refine LeO.bind ?_ (fun _ => ?_)
    · intro y0 y1 y2 y3 y4
      unfold accountingref07_Scale.j1
      repeat' first
      | (with_reducible exact ih0 _ _ _ _ _)
      | (with_reducible exact ih1 _ _ _ _ _)
      | (with_reducible exact accountingref01_Mul.mono _ _ _)
      | (with_reducible exact accountingref07_Power.mono _ _)
      | (with_reducible exact accountingref07_Round.mono _ _ _ _)
      | (with_reducible exact LeO.refl _)
      | (with_reducible exact LeO.none _)
      | (with_reducible refine LeO.ite ?_ ?_)
      | (with_reducible refine LeO.bind ?_ (fun _ => ?_))
      | exact ih0 _ _ _ _ _
      | exact ih1 _ _ _ _ _
      | exact accountingref01_Mul.mono _ _ _
      | exact accountingref07_Power.mono _ _
      | exact accountingref07_Round.mono _ _ _ _
      | exact LeO.none _
      | refine LeO.ite ?_ ?_
      | refine LeO.bind ?_ (fun _ => ?_)
theorem accountingref07_Scale.mono : ∀ a0 a1 a2 a3 k, LeO (accountingref07_Scale.f k a0 a1 a2 a3) (accountingref07_Scale.f (k + 1) a0 a1 a2 a3) := by
  intro a0 a1 a2 a3 k
  obtain ⟨ih0, ih1⟩ := accountingref07_Scale.mono_l k
  unfold accountingref07_Scale.f
  repeat' first
      | (with_reducible exact ih0 _ _ _ _ _)
      | (with_reducible exact ih1 _ _ _ _ _)
      | (with_reducible exact accountingref01_Mul.mono _ _ _)
      | (with_reducible exact accountingref07_Power.mono _ _)
      | (with_reducible exact accountingref07_Round.mono _ _ _ _)
      | (with_reducible exact LeO.refl _)
      | (with_reducible exact LeO.none _)
      | (with_reducible refine LeO.ite ?_ ?_)
      | (with_reducible refine LeO.bind ?_ (fun _ => ?_))
      | exact ih0 _ _ _ _ _
      | exact ih1 _ _ _ _ _
      | exact accountingref01_Mul.mono _ _ _
      | exact accountingref07_Power.mono _ _
      | exact accountingref07_Round.mono _ _ _ _
      | exact LeO.none _
      | refine LeO.ite ?_ ?_
      | refine LeO.bind ?_ (fun _ => ?_)
set_option maxHeartbeats 8000000 in
set_option maxRecDepth 100000 in
theorem accountingref07_Scale.calls (k : Nat) (a0 : Int) (a1 : Int) (a2 : Int) (a3 : Int) (r1 : Int) (r2 : Int) (w : World) (h : accountingref07_Scale.f k a0 a1 a2 a3 = some (r1, r2)) :
    Calls Tryd.prog 11 #[.int .i64 a0, .int .i64 a1, .int .i64 a2, .int .i64 a3] w fun e w' => e = .returned (.tuple #[.int .i64 r1, .int .i64 r2]) ∧ Drawn0 w w' := by
  have H : (if a3 < 1 then (accountingref07_Scale.j0 k a0 a1 a2 a3 true) else (accountingref07_Scale.j0 k a0 a1 a2 a3 (decide (a3 > 5)))) = some (r1, r2) := h
  clear h
  have HC5 := Aside0.mk H
  clear H
  go_enter Tryd.func11, Tryd.ntmps11
  go_upto_region 1 with (fail)
  go_cut [17] (fun v17 wc => ∃ (kq : Nat) (x17_4 : Bool), v17 = .bool x17_4 ∧ Aside0 (accountingref07_Scale.j0 kq a0 a1 a2 a3 x17_4 = some (r1, r2)) ∧ Aside0 (kq ≤ k) ∧ Drawn0 w wc)
  case first =>
    have H := HC5.out
    clear HC5
    by_cases c6 : a3 < 1
    · rw [if_pos c6] at H
      have c6b0 : decide (a3 < 1) = true := decide_eq_true c6
      clear c6
      (first | rw [c6b0] | (simp only [i64_w, i32_w]; rw [c6b0]) | skip)
      have H' := Aside0.mk H
      clear H
      go_wp2
      go_meet
      case rel => exact ⟨_, (true), (by first | rfl | (simp; done) | (simp [*]; done) | (simp; generalize ByteArray.toList _ = l_; cases l_ <;> rfl)), H', ⟨by first | omega | exact Nat.le_refl _⟩, by repeat (first | exact Drawn0.refl _ | apply Drawn0.step)⟩
    · rw [if_neg c6] at H
      have c6b0 : decide (a3 < 1) = false := decide_eq_false c6
      clear c6
      (first | rw [c6b0] | (simp only [i64_w, i32_w]; rw [c6b0]) | skip)
      have H' := Aside0.mk H
      clear H
      go_wp2
      go_meet
      case rel => exact ⟨_, (decide (a3 > 5)), (by first | rfl | (simp; done) | (simp [*]; done) | (simp; generalize ByteArray.toList _ = l_; cases l_ <;> rfl)), H', ⟨by first | omega | exact Nat.le_refl _⟩, by repeat (first | exact Drawn0.refl _ | apply Drawn0.step)⟩
  case rest =>
    clear HC5
    try clear c1
    try clear p2
    try clear c6
    try clear c6b0
    obtain ⟨kq, x17_4, rfl, HA, HJ4, ⟨mc4, rfl⟩⟩ := hcut
    cases kq with
    | zero => exact absurd HA.out (by simp [accountingref07_Scale.j0])
    | succ kj4 =>
      have H := HA.out
      clear HA
      simp only [accountingref07_Scale.j0] at H
      by_cases c7 : x17_4 = true
      · subst c7
        have H1 : (some (0, 10)) = some (r1, r2) := by rw [if_pos rfl] at H; exact H
        clear H
        have H := H1
        clear H1
        simp only [Option.some.injEq, Prod.mk.injEq] at H
        obtain ⟨rfl, rfl⟩ := H
        go_wp2
        go_ret2
        exact ⟨by first | rfl | (simp; done) | (simp [*]; done) | (simp; generalize ByteArray.toList _ = l_; cases l_ <;> rfl), by repeat (first | exact Drawn0.refl _ | apply Drawn0.step)⟩
      · replace c7 := Bool.eq_false_iff.mpr c7
        subst c7
        have H1 : (if a1 < 0 then (accountingref07_Scale.j1 kj4 a0 a1 a2 a3 true) else (if a1 > 4 then (accountingref07_Scale.j1 kj4 a0 a1 a2 a3 true) else (if a2 < 0 then (accountingref07_Scale.j1 kj4 a0 a1 a2 a3 true) else (accountingref07_Scale.j1 kj4 a0 a1 a2 a3 (decide (a2 > 4)))))) = some (r1, r2) := by rw [if_neg (show ¬ (false = true) by decide)] at H; exact H
        clear H
        have H := H1
        clear H1
        have HC8 := Aside0.mk H
        clear H
        go_upto_region 3 with (fail)
        go_cut [31] (fun v31 wc => ∃ (kq : Nat) (x31_7 : Bool), v31 = .bool x31_7 ∧ Aside0 (accountingref07_Scale.j1 kq a0 a1 a2 a3 x31_7 = some (r1, r2)) ∧ Aside0 (kq ≤ kj4) ∧ Drawn0 w wc)
        case first =>
          have H := HC8.out
          clear HC8
          by_cases c9 : a1 < 0
          · rw [if_pos c9] at H
            have c9b0 : decide (a1 < 0) = true := decide_eq_true c9
            clear c9
            (first | rw [c9b0] | (simp only [i64_w, i32_w]; rw [c9b0]) | skip)
            have H' := Aside0.mk H
            clear H
            go_wp2
            go_meet
            case rel => exact ⟨_, (true), (by first | rfl | (simp; done) | (simp [*]; done) | (simp; generalize ByteArray.toList _ = l_; cases l_ <;> rfl)), H', ⟨by have := HJ4.out; first | omega | exact Nat.le_refl _⟩, by repeat (first | exact Drawn0.refl _ | apply Drawn0.step)⟩
          · rw [if_neg c9] at H
            have c9b0 : decide (a1 < 0) = false := decide_eq_false c9
            clear c9
            (first | rw [c9b0] | (simp only [i64_w, i32_w]; rw [c9b0]) | skip)
            by_cases c10 : a1 > 4
            · rw [if_pos c10] at H
              have c10b0 : decide (4 < a1) = true := decide_eq_true c10
              clear c10
              have H' := Aside0.mk H
              clear H
              go_wp2
              go_meet
              case rel => exact ⟨_, (true), (by first | rfl | (simp; done) | (simp [*]; done) | (simp; generalize ByteArray.toList _ = l_; cases l_ <;> rfl)), H', ⟨by have := HJ4.out; first | omega | exact Nat.le_refl _⟩, by repeat (first | exact Drawn0.refl _ | apply Drawn0.step)⟩
            · rw [if_neg c10] at H
              have c10b0 : decide (4 < a1) = false := decide_eq_false c10
              clear c10
              by_cases c11 : a2 < 0
              · rw [if_pos c11] at H
                have c11b0 : decide (a2 < 0) = true := decide_eq_true c11
                clear c11
                have H' := Aside0.mk H
                clear H
                go_wp2
                go_meet
                case rel => exact ⟨_, (true), (by first | rfl | (simp; done) | (simp [*]; done) | (simp; generalize ByteArray.toList _ = l_; cases l_ <;> rfl)), H', ⟨by have := HJ4.out; first | omega | exact Nat.le_refl _⟩, by repeat (first | exact Drawn0.refl _ | apply Drawn0.step)⟩
              · rw [if_neg c11] at H
                have c11b0 : decide (a2 < 0) = false := decide_eq_false c11
                clear c11
                have H' := Aside0.mk H
                clear H
                go_wp2
                go_meet
                case rel => exact ⟨_, (decide (a2 > 4)), (by first | rfl | (simp; done) | (simp [*]; done) | (simp; generalize ByteArray.toList _ = l_; cases l_ <;> rfl)), H', ⟨by have := HJ4.out; first | omega | exact Nat.le_refl _⟩, by repeat (first | exact Drawn0.refl _ | apply Drawn0.step)⟩
        case rest =>
          clear HC8
          try clear c1
          try clear p2
          try clear c4
          try clear c6
          try clear c6b0
          try clear c7
          try clear c9
          try clear c9b0
          try clear c10
          try clear c10b0
          try clear c11
          try clear c11b0
          try clear p2
          obtain ⟨kq, x31_7, rfl, HA, HJ7, ⟨mc7, rfl⟩⟩ := hcut
          cases kq with
          | zero => exact absurd HA.out (by simp [accountingref07_Scale.j1])
          | succ kj7 =>
            have H := HA.out
            clear HA
            simp only [accountingref07_Scale.j1] at H
            by_cases c12 : x31_7 = true
            · subst c12
              have H1 : (some (0, 2)) = some (r1, r2) := by rw [if_pos rfl] at H; exact H
              clear H
              have H := H1
              clear H1
              simp only [Option.some.injEq, Prod.mk.injEq] at H
              obtain ⟨rfl, rfl⟩ := H
              go_wp2
              go_ret2
              exact ⟨by first | rfl | (simp; done) | (simp [*]; done) | (simp; generalize ByteArray.toList _ = l_; cases l_ <;> rfl), by repeat (first | exact Drawn0.refl _ | apply Drawn0.step)⟩
            · replace c12 := Bool.eq_false_iff.mpr c12
              subst c12
              have H1 : ((accountingref07_large.f a0).bind fun t103 => (if t103 = true then (some (0, 4)) else (if a1 ≥ a2 then ((accountingref07_Power.f kj7 (wrap64 (a1 - a2))).bind fun t104 => ((accountingref07_Round.f kj7 a0 t104 a3).bind fun t105 => (some (t105, 0)))) else ((accountingref07_Power.f kj7 (wrap64 (a2 - a1))).bind fun t106 => ((accountingref01_Mul.f kj7 a0 t106).bind fun bt107 => (if bt107.2 = true then ((accountingref07_large.f bt107.1).bind fun t109 => (if t109 = true then (some (0, 4)) else (some (bt107.1, 0)))) else (some (0, 4)))))))) = some (r1, r2) := by rw [if_neg (show ¬ (false = true) by decide)] at H; exact H
              clear H
              have H := H1
              clear H1
              replace H := Option.bind_eq_some_iff.mp H
              obtain ⟨t103, A130, H⟩ := H
              replace H : (if t103 = true then (some (0, 4)) else (if a1 ≥ a2 then ((accountingref07_Power.f kj7 (wrap64 (a1 - a2))).bind fun t104 => ((accountingref07_Round.f kj7 a0 t104 a3).bind fun t105 => (some (t105, 0)))) else ((accountingref07_Power.f kj7 (wrap64 (a2 - a1))).bind fun t106 => ((accountingref01_Mul.f kj7 a0 t106).bind fun bt107 => (if bt107.2 = true then ((accountingref07_large.f bt107.1).bind fun t109 => (if t109 = true then (some (0, 4)) else (some (bt107.1, 0)))) else (some (0, 4))))))) = some (r1, r2) := H
              have A13 := Aside0.mk A130
              clear A130
              by_cases c14 : t103 = true
              · subst c14
                have H1 : (some (0, 4)) = some (r1, r2) := by rw [if_pos rfl] at H; exact H
                clear H
                have H := H1
                clear H1
                simp only [Option.some.injEq, Prod.mk.injEq] at H
                obtain ⟨rfl, rfl⟩ := H
                go_wp2_with (first | ((with_reducible refine gate_callee (f := 27) rfl ?_); refine goesL_ (some 33) rfl rfl Tryd.func27 (by kernel_rfl) rfl #[.int .i64 a0] rfl (by (try simp only [List.map_toArray, List.map_cons, List.map_nil]); first | done | rfl | (simp only [List.length_drop, List.length_take]; rfl)) ?_; (with_reducible refine (accountingref07_large.calls a0 true _ A13.out).mono ?_); rintro e w' ⟨rfl, ⟨nd, rfl⟩⟩; refine ⟨_, rfl, ?_⟩))
                go_ret2
                exact ⟨by first | rfl | (simp; done) | (simp [*]; done) | (simp; generalize ByteArray.toList _ = l_; cases l_ <;> rfl), by repeat (first | exact Drawn0.refl _ | apply Drawn0.step)⟩
              · replace c14 := Bool.eq_false_iff.mpr c14
                subst c14
                have H1 : (if a1 ≥ a2 then ((accountingref07_Power.f kj7 (wrap64 (a1 - a2))).bind fun t104 => ((accountingref07_Round.f kj7 a0 t104 a3).bind fun t105 => (some (t105, 0)))) else ((accountingref07_Power.f kj7 (wrap64 (a2 - a1))).bind fun t106 => ((accountingref01_Mul.f kj7 a0 t106).bind fun bt107 => (if bt107.2 = true then ((accountingref07_large.f bt107.1).bind fun t109 => (if t109 = true then (some (0, 4)) else (some (bt107.1, 0)))) else (some (0, 4)))))) = some (r1, r2) := by rw [if_neg (show ¬ (false = true) by decide)] at H; exact H
                clear H
                have H := H1
                clear H1
                by_cases c15 : a1 ≥ a2
                · rw [if_pos c15] at H
                  have c15b0 : decide (a2 ≤ a1) = true := decide_eq_true c15
                  clear c15
                  replace H := Option.bind_eq_some_iff.mp H
                  obtain ⟨t104, A160, H⟩ := H
                  replace H : ((accountingref07_Round.f kj7 a0 t104 a3).bind fun t105 => (some (t105, 0))) = some (r1, r2) := H
                  have A16 := Aside0.mk A160
                  clear A160
                  replace H := Option.bind_eq_some_iff.mp H
                  obtain ⟨t105, A170, H⟩ := H
                  replace H : (some (t105, 0)) = some (r1, r2) := H
                  have A17 := Aside0.mk A170
                  clear A170
                  simp only [Option.some.injEq, Prod.mk.injEq] at H
                  obtain ⟨rfl, rfl⟩ := H
                  go_wp2_with (first | ((with_reducible refine gate_callee (f := 27) rfl ?_); refine goesL_ (some 33) rfl rfl Tryd.func27 (by kernel_rfl) rfl #[.int .i64 a0] rfl (by (try simp only [List.map_toArray, List.map_cons, List.map_nil]); first | done | rfl | (simp only [List.length_drop, List.length_take]; rfl)) ?_; (with_reducible refine (accountingref07_large.calls a0 false _ A13.out).mono ?_); rintro e w' ⟨rfl, ⟨nd, rfl⟩⟩; refine ⟨_, rfl, ?_⟩) | ((with_reducible refine gate_callee (f := 13) rfl ?_); refine goesL_ (some 41) rfl rfl Tryd.func13 (by kernel_rfl) rfl #[.int .i64 (wrap64 (a1 - a2))] rfl (by (try simp only [List.map_toArray, List.map_cons, List.map_nil]); first | done | rfl | (simp only [List.length_drop, List.length_take]; rfl)) ?_; (with_reducible refine (accountingref07_Power.calls kj7 (wrap64 (a1 - a2)) t104 _ A16.out).mono ?_); rintro e w' ⟨rfl, ⟨nd, rfl⟩⟩; refine ⟨_, rfl, ?_⟩) | ((with_reducible refine gate_callee (f := 28) rfl ?_); refine goesL_ (some 43) rfl rfl Tryd.func28 (by kernel_rfl) rfl #[.int .i64 a0, .int .i64 t104, .int .i64 a3] rfl (by (try simp only [List.map_toArray, List.map_cons, List.map_nil]); first | done | rfl | (simp only [List.length_drop, List.length_take]; rfl)) ?_; (with_reducible refine (accountingref07_Round.calls kj7 a0 t104 a3 t105 _ A17.out).mono ?_); rintro e w' ⟨rfl, ⟨nd, rfl⟩⟩; refine ⟨_, rfl, ?_⟩))
                  go_ret2
                  exact ⟨by first | rfl | (simp; done) | (simp [*]; done) | (simp; generalize ByteArray.toList _ = l_; cases l_ <;> rfl), by repeat (first | exact Drawn0.refl _ | apply Drawn0.step)⟩
                · rw [if_neg c15] at H
                  have c15b0 : decide (a2 ≤ a1) = false := decide_eq_false c15
                  clear c15
                  replace H := Option.bind_eq_some_iff.mp H
                  obtain ⟨t106, A180, H⟩ := H
                  replace H : ((accountingref01_Mul.f kj7 a0 t106).bind fun bt107 => (if bt107.2 = true then ((accountingref07_large.f bt107.1).bind fun t109 => (if t109 = true then (some (0, 4)) else (some (bt107.1, 0)))) else (some (0, 4)))) = some (r1, r2) := H
                  have A18 := Aside0.mk A180
                  clear A180
                  replace H := Option.bind_eq_some_iff.mp H
                  obtain ⟨⟨t107, t108⟩, A190, H⟩ := H
                  replace H : (if t108 = true then ((accountingref07_large.f t107).bind fun t109 => (if t109 = true then (some (0, 4)) else (some (t107, 0)))) else (some (0, 4))) = some (r1, r2) := H
                  have A19 := Aside0.mk A190
                  clear A190
                  by_cases c20 : t108 = true
                  · subst c20
                    have H1 : ((accountingref07_large.f t107).bind fun t109 => (if t109 = true then (some (0, 4)) else (some (t107, 0)))) = some (r1, r2) := by rw [if_pos rfl] at H; exact H
                    clear H
                    have H := H1
                    clear H1
                    replace H := Option.bind_eq_some_iff.mp H
                    obtain ⟨t109, A210, H⟩ := H
                    replace H : (if t109 = true then (some (0, 4)) else (some (t107, 0))) = some (r1, r2) := H
                    have A21 := Aside0.mk A210
                    clear A210
                    by_cases c22 : t109 = true
                    · subst c22
                      have H1 : (some (0, 4)) = some (r1, r2) := by rw [if_pos rfl] at H; exact H
                      clear H
                      have H := H1
                      clear H1
                      simp only [Option.some.injEq, Prod.mk.injEq] at H
                      obtain ⟨rfl, rfl⟩ := H
                      go_wp2_with (first | ((with_reducible refine gate_callee (f := 27) rfl ?_); refine goesL_ (some 33) rfl rfl Tryd.func27 (by kernel_rfl) rfl #[.int .i64 a0] rfl (by (try simp only [List.map_toArray, List.map_cons, List.map_nil]); first | done | rfl | (simp only [List.length_drop, List.length_take]; rfl)) ?_; (with_reducible refine (accountingref07_large.calls a0 false _ A13.out).mono ?_); rintro e w' ⟨rfl, ⟨nd, rfl⟩⟩; refine ⟨_, rfl, ?_⟩) | ((with_reducible refine gate_callee (f := 13) rfl ?_); refine goesL_ (some 49) rfl rfl Tryd.func13 (by kernel_rfl) rfl #[.int .i64 (wrap64 (a2 - a1))] rfl (by (try simp only [List.map_toArray, List.map_cons, List.map_nil]); first | done | rfl | (simp only [List.length_drop, List.length_take]; rfl)) ?_; (with_reducible refine (accountingref07_Power.calls kj7 (wrap64 (a2 - a1)) t106 _ A18.out).mono ?_); rintro e w' ⟨rfl, ⟨nd, rfl⟩⟩; refine ⟨_, rfl, ?_⟩) | ((with_reducible refine gate_callee (f := 29) rfl ?_); refine goesL_ (some 50) rfl rfl Tryd.func29 (by kernel_rfl) rfl #[.int .i64 a0, .int .i64 t106] rfl (by (try simp only [List.map_toArray, List.map_cons, List.map_nil]); first | done | rfl | (simp only [List.length_drop, List.length_take]; rfl)) ?_; (with_reducible refine (accountingref01_Mul.calls kj7 a0 t106 t107 true _ A19.out).mono ?_); rintro e w' ⟨rfl, ⟨nd, rfl⟩⟩; refine ⟨_, rfl, ?_⟩) | (go_at_call 27; (with_reducible refine (accountingref07_large.calls t107 true _ A21.out).mono ?_); rintro e w' ⟨rfl, ⟨nd, rfl⟩⟩))
                      go_ret2
                      exact ⟨by first | rfl | (simp; done) | (simp [*]; done) | (simp; generalize ByteArray.toList _ = l_; cases l_ <;> rfl), by repeat (first | exact Drawn0.refl _ | apply Drawn0.step)⟩
                    · replace c22 := Bool.eq_false_iff.mpr c22
                      subst c22
                      have H1 : (some (t107, 0)) = some (r1, r2) := by rw [if_neg (show ¬ (false = true) by decide)] at H; exact H
                      clear H
                      have H := H1
                      clear H1
                      simp only [Option.some.injEq, Prod.mk.injEq] at H
                      obtain ⟨rfl, rfl⟩ := H
                      go_wp2_with (first | ((with_reducible refine gate_callee (f := 27) rfl ?_); refine goesL_ (some 33) rfl rfl Tryd.func27 (by kernel_rfl) rfl #[.int .i64 a0] rfl (by (try simp only [List.map_toArray, List.map_cons, List.map_nil]); first | done | rfl | (simp only [List.length_drop, List.length_take]; rfl)) ?_; (with_reducible refine (accountingref07_large.calls a0 false _ A13.out).mono ?_); rintro e w' ⟨rfl, ⟨nd, rfl⟩⟩; refine ⟨_, rfl, ?_⟩) | ((with_reducible refine gate_callee (f := 13) rfl ?_); refine goesL_ (some 49) rfl rfl Tryd.func13 (by kernel_rfl) rfl #[.int .i64 (wrap64 (a2 - a1))] rfl (by (try simp only [List.map_toArray, List.map_cons, List.map_nil]); first | done | rfl | (simp only [List.length_drop, List.length_take]; rfl)) ?_; (with_reducible refine (accountingref07_Power.calls kj7 (wrap64 (a2 - a1)) t106 _ A18.out).mono ?_); rintro e w' ⟨rfl, ⟨nd, rfl⟩⟩; refine ⟨_, rfl, ?_⟩) | ((with_reducible refine gate_callee (f := 29) rfl ?_); refine goesL_ (some 50) rfl rfl Tryd.func29 (by kernel_rfl) rfl #[.int .i64 a0, .int .i64 t106] rfl (by (try simp only [List.map_toArray, List.map_cons, List.map_nil]); first | done | rfl | (simp only [List.length_drop, List.length_take]; rfl)) ?_; (with_reducible refine (accountingref01_Mul.calls kj7 a0 t106 t107 true _ A19.out).mono ?_); rintro e w' ⟨rfl, ⟨nd, rfl⟩⟩; refine ⟨_, rfl, ?_⟩) | (go_at_call 27; (with_reducible refine (accountingref07_large.calls t107 false _ A21.out).mono ?_); rintro e w' ⟨rfl, ⟨nd, rfl⟩⟩))
                      go_ret2
                      exact ⟨by first | rfl | (simp; done) | (simp [*]; done) | (simp; generalize ByteArray.toList _ = l_; cases l_ <;> rfl), by repeat (first | exact Drawn0.refl _ | apply Drawn0.step)⟩
                  · replace c20 := Bool.eq_false_iff.mpr c20
                    subst c20
                    have H1 : (some (0, 4)) = some (r1, r2) := by rw [if_neg (show ¬ (false = true) by decide)] at H; exact H
                    clear H
                    have H := H1
                    clear H1
                    simp only [Option.some.injEq, Prod.mk.injEq] at H
                    obtain ⟨rfl, rfl⟩ := H
                    go_wp2_with (first | ((with_reducible refine gate_callee (f := 27) rfl ?_); refine goesL_ (some 33) rfl rfl Tryd.func27 (by kernel_rfl) rfl #[.int .i64 a0] rfl (by (try simp only [List.map_toArray, List.map_cons, List.map_nil]); first | done | rfl | (simp only [List.length_drop, List.length_take]; rfl)) ?_; (with_reducible refine (accountingref07_large.calls a0 false _ A13.out).mono ?_); rintro e w' ⟨rfl, ⟨nd, rfl⟩⟩; refine ⟨_, rfl, ?_⟩) | ((with_reducible refine gate_callee (f := 13) rfl ?_); refine goesL_ (some 49) rfl rfl Tryd.func13 (by kernel_rfl) rfl #[.int .i64 (wrap64 (a2 - a1))] rfl (by (try simp only [List.map_toArray, List.map_cons, List.map_nil]); first | done | rfl | (simp only [List.length_drop, List.length_take]; rfl)) ?_; (with_reducible refine (accountingref07_Power.calls kj7 (wrap64 (a2 - a1)) t106 _ A18.out).mono ?_); rintro e w' ⟨rfl, ⟨nd, rfl⟩⟩; refine ⟨_, rfl, ?_⟩) | ((with_reducible refine gate_callee (f := 29) rfl ?_); refine goesL_ (some 50) rfl rfl Tryd.func29 (by kernel_rfl) rfl #[.int .i64 a0, .int .i64 t106] rfl (by (try simp only [List.map_toArray, List.map_cons, List.map_nil]); first | done | rfl | (simp only [List.length_drop, List.length_take]; rfl)) ?_; (with_reducible refine (accountingref01_Mul.calls kj7 a0 t106 t107 false _ A19.out).mono ?_); rintro e w' ⟨rfl, ⟨nd, rfl⟩⟩; refine ⟨_, rfl, ?_⟩))
                    go_ret2
                    exact ⟨by first | rfl | (simp; done) | (simp [*]; done) | (simp; generalize ByteArray.toList _ = l_; cases l_ <;> rfl), by repeat (first | exact Drawn0.refl _ | apply Drawn0.step)⟩

/-! ### num_size: function 43 (by hand) -/
def num_size.f (a0 : Int) : Option (Int) := if I64 a0 then some (a0.natAbs : Int) else none
theorem num_size.same (a0 : Int) (hb : I64 a0) (w : World) :
    Calls Tryd.prog 43 #[.int .i64 a0] w fun e w' => e = .returned (.int .u64 (a0.natAbs : Int)) ∧ w = w' := by
  obtain ⟨h0, h1⟩ := hb
  by_cases h : a0 < 0
  · go_enter Tryd.func43, Tryd.ntmps43
    go_wp2
    go_ret
    exact ⟨ret_int (by rw [wu64, wu64]; omega), rfl⟩
  · go_enter Tryd.func43, Tryd.ntmps43
    go_wp2
    go_ret
    exact ⟨ret_int (by omega), rfl⟩
theorem num_size.calls (a0 : Int) (r : Int) (w : World) (h : num_size.f a0 = some r) :
    Calls Tryd.prog 43 #[.int .i64 a0] w fun e w' => e = .returned (.int .u64 r) ∧ Drawn0 w w' := by
  unfold num_size.f at h
  split at h <;> simp only [Option.some.injEq, reduceCtorEq] at h
  rename_i hb
  subst h
  refine (num_size.same a0 hb w).mono ?_
  rintro e w' ⟨rfl, rfl⟩
  exact ⟨rfl, Drawn0.refl _⟩


/-! ### num_Text: function 30 (by hand) -/
theorem sl20 (W : World) (b m : Nat) (z : Int) (hz : z = (m : Int)) (h : m < 20) :
    (Instr.sliceAt 66 (.pointer (some ⟨b, 0, none⟩)) (some (.int .i64 z)) none none).run Tryd.prog W = .ok (.slice (some ⟨b, m, none⟩) (20 - m) (20 - m)) W := by
  subst hz
  have e1 : Tryd.prog.arrayLen 66 = 20 := by kernel_rfl
  have e2 : Tryd.prog.elem 66 = 5 := by kernel_rfl
  rw [run_sliceAt_array_l W 66 ⟨b, 0, none⟩ (by rw [e1, e2]; exact Tryd.underlying66) .i64 (m : Int) (by omega) (by rw [e1]; omega), e1, e2]
  have e3 : (Go.sizeOf 5).run Tryd.prog W = .ok 1 W := by kernel_rfl
  rw [e3]
  simp only [Result.andThen, slicedAt, Int.toNat_natCast, if_neg (show ¬ 20 = m by omega), Nat.mul_one, add_plain']
set_option maxHeartbeats 800000 in
set_option maxRecDepth 100000 in
theorem num_Text.itoa_calls (n : Int) (h0 : -9223372036854775808 ≤ n) (h1 : n < 9223372036854775808) (w : World) : Calls Tryd.prog 30 #[.int .i64 n] w fun e w' => e = .returned (.string ⟨(Lib.itoa n).toArray⟩) ∧ Below w.heap.size w w' := by
  have HP := Lib.hid (@itoa_pos n)
  have HM := Lib.hid (@itoa_neg' n)
  obtain ⟨u, hu⟩ : ∃ u : Nat, u = n.natAbs := ⟨_, rfl⟩
  rw [← hu] at HP HM
  have hu1 : u ≤ 9223372036854775808 := by omega
  have HU := Lib.hid hu
  clear hu
  go_enter Tryd.func30, Tryd.ntmps30
  go_wp2_with fail
  refine (num_size.same n ⟨h0, by omega⟩ _).mono ?_
  rintro e w' ⟨rfl, rfl⟩
  rw [← HU.out]
  go_wp2_with fail
  go_loopw [4, 5, 8] (fun at_ left i wr => ∃ m k : Nat, m + k = 19 ∧ at_ = .int .i64 ((m : Int) + 1) ∧ left = .int .u64 ((u / 10 ^ k : Nat) : Int) ∧ i = .int .i64 (k : Int) ∧ wr = w.alloc (.cells (trow u (m + 1)) 66) ∧ (k = 0 ∨ u / 10 ^ k ≠ 0)) (fun _ _ i _ => (19 - (RowKit.intOf i).toNat))
  case atStart => exact ⟨19, 0, rfl, rfl, by simp, rfl, by rw [trow_start]; rfl, .inl rfl⟩
  case round =>
    obtain ⟨m, k, hmk, rfl, rfl, rfl, rfl, hz⟩ := hrel
    have HZ := Lib.hid hz
    have hv19 : k = 19 → u / 10 ^ k = 0 := by intro e; rw [e]; exact Nat.div_eq_of_lt (by omega)
    have hk : k < 19 := by
      rcases Nat.lt_or_ge k 19 with h | h
      · exact h
      · have := hv19 (by omega); omega
    have hk18 : k = 18 → u / 10 ^ k < 10 := by intro e; rw [e]; omega
    clear hz hv19
    have HS := Lib.hid (trow_set u m k _ hmk rfl)
    have HY := Lib.hid (trow_digits u m k hmk)
    obtain ⟨v, hv⟩ : ∃ v, v = u / 10 ^ k := ⟨_, rfl⟩
    have hvle : v ≤ u := by rw [hv]; exact Nat.div_le_self _ _
    have hvq : u / 10 ^ (k + 1) = v / 10 := by rw [hv, Nat.pow_succ, Nat.div_div_eq_div_mul]
    rw [← hv] at HZ HS HY hk18 ⊢
    have HV := Lib.hid hv
    clear hv
    have hX := trow_at u (m + 1) m (by omega)
    obtain ⟨X, HX⟩ : ∃ X, X = trow u (m + 1) := ⟨_, rfl⟩
    obtain ⟨Y, HYY⟩ : ∃ Y, Y = trow u m := ⟨_, rfl⟩
    have HYA := Lib.hid (fun i h => trow_at u m i h)
    rw [← HX] at hX HS ⊢
    rw [← HYY] at HS HY HYA
    rw [if_neg (by omega)] at hX
    have HXX := Lib.hid HX
    clear HX
    have HYY' := Lib.hid HYY
    clear HYY
    have hset : X.setIfInBounds m (Value.int IntKind.u8 (48 + (v : Int) % 10)) = Y := by rw [← HS.out]; congr 2
    by_cases hv0 : v / 10 = 0
    · obtain ⟨hl, hd⟩ := HY.out (by rw [hvq]; exact hv0) HZ.out
      clear hk18
      have hb0 : ((v : Int) / 10 == 0) = true := by rw [beq_iff_eq]; omega
      by_cases hn : n < 0
      · obtain ⟨j, rfl⟩ : ∃ j, m = j + 1 := ⟨m - 1, by omega⟩
        have hY := HYA.out j (by omega)
        rw [if_neg (by omega)] at hY
        obtain ⟨Z, HZZ⟩ : ∃ Z, Z = Y.setIfInBounds j (.int .u8 45) := ⟨_, rfl⟩
        have hset2 : Y.setIfInBounds j (.int .u8 45) = Z := HZZ.symm
        have hsl := fun W b => sl20 W b j j rfl (by omega)
        have hcv := fun cap => conv_row (P := Tryd.prog) w 66 67 9 5 Tryd.underlying67 Tryd.underlying5 Tryd.underlying9 Z j (20 - j) cap (45 :: Lib.decDigits u) (by simp only [List.length_cons]; omega) (fun i hi => by
          subst HZZ
          rcases i with _ | i
          · rw [Nat.add_zero, Array.getElem?_setIfInBounds, if_pos rfl, if_pos (by rw [HYY'.out, trow_size]; omega)]; rfl
          · rw [Array.getElem?_setIfInBounds, if_neg (by omega), show j + (i + 1) = j + 1 + i by omega, hd i (by simpa using hi)]; rfl)
        clear hl hd hv0 HZZ hvq
        go_wp2_with fail
        go_ret
        refine ⟨by rw [HM.out hn]; rfl, ?_⟩
        exact (Below.refl _ _).alloc (Nat.le_refl _) _
      · have hsl := fun W b => sl20 W b m m rfl (by omega)
        have hcv := fun cap => conv_row (P := Tryd.prog) w 66 67 9 5 Tryd.underlying67 Tryd.underlying5 Tryd.underlying9 Y m (20 - m) cap (Lib.decDigits u) hl hd
        clear hl hd hv0 hvq
        go_wp2_with fail
        go_ret
        refine ⟨by rw [HP.out (by omega)]; rfl, ?_⟩
        exact (Below.refl _ _).alloc (Nat.le_refl _) _
    · have hb0 : ((v : Int) / 10 == 0) = false := by rw [beq_eq_false_iff_ne]; omega
      clear hk18
      clear HY HYA
      have HQ := Lib.hid hvq
      clear hvq
      have HV0 := Lib.hid hv0
      clear hv0
      go_wp2_with fail
      go_roundw
      case rel =>
        obtain ⟨j, rfl⟩ : ∃ j, m = j + 1 := ⟨m - 1, by omega⟩
        exact ⟨j, k + 1, by omega, by go_num, by rw [HQ.out]; go_num, by go_num, by rw [HYY'.out], .inr (by rw [HQ.out]; exact HV0.out)⟩
      case measure => simp [RowKit.intOf]; omega
def num_Text.f (a0 : Int) : Option (ByteArray) := if I64 a0 then some ⟨(Lib.itoa a0).toArray⟩ else none
theorem num_Text.calls (a0 : Int) (r : ByteArray) (w : World) (h : num_Text.f a0 = some r) :
    Calls Tryd.prog 30 #[.int .i64 a0] w fun e w' => e = .returned (.string r) ∧ Below w.heap.size w w' := by
  unfold num_Text.f at h
  split at h <;> simp only [Option.some.injEq, reduceCtorEq] at h
  rename_i hb
  subst h
  exact num_Text.itoa_calls a0 hb.1 (by have := hb.2; omega) w


/-! ### money_Text: function 14 (by hand) -/
set_option maxHeartbeats 6400000 in
theorem text_any (a d : Int) (w : World) (hG : Gl w) : Calls Tryd.prog 14 #[.int .i64 a, .int .i64 d] w fun e w' => e = .returned (.tuple #[.string (textS a d).1, .int .i64 (textS a d).2]) ∧ Below w.heap.size w w' := by
  have HG := Aside0.mk hG
  clear hG
  generalize hP : (fun e w' => e = Ending.returned (.tuple #[.string (textS a d).1, .int .i64 (textS a d).2]) ∧ Below w.heap.size w w') = Post
  have HP := Aside0.mk hP
  clear hP
  have hf := fits_any d
  change ∀ w, Calls _ _ _ _ fun e w' => e = .returned (.bool (fitsB d)) ∧ _ at hf
  have Hf := Aside0.mk hf
  have E0 : Aside0 (textS a d = _) := ⟨by rw [textS]⟩
  clear hf
  cases hbf : fitsB d
  · rw [hbf] at Hf E0
    go_enter Tryd.func14, Tryd.ntmps14
    go_wp2_with fail
    refine (Hf.out _).mono ?_
    rintro e w' ⟨rfl, rfl⟩
    go_wp2_with fail
    rw [← HP.out]
    exact ⟨by rw [E0.out]; rfl, Below.refl _ _⟩
  obtain ⟨d0, d4⟩ := (fitsB_iff d).mp hbf
  rw [hbf] at E0 Hf
  clear hbf
  have hfar := far_any a
  change ∀ w, Calls _ _ _ _ fun e w' => e = .returned (.bool (farB a)) ∧ _ at hfar
  have HFar := Aside0.mk hfar
  clear hfar
  cases hfa : farB a
  rotate_left
  · rw [hfa] at E0 HFar
    go_enter Tryd.func14, Tryd.ntmps14
    go_wp2_with fail
    refine (Hf.out _).mono ?_
    rintro e w' ⟨rfl, rfl⟩
    go_wp2_with fail
    refine (HFar.out _).mono ?_
    rintro e w' ⟨rfl, rfl⟩
    go_wp2_with fail
    rw [← HP.out]
    exact ⟨by rw [E0.out]; rfl, Below.refl _ _⟩
  rw [hfa] at E0 HFar
  have hnf : ¬ (1000000000000000 < a ∨ a < -1000000000000000) := fun h => by rw [(farB_iff a).mpr h] at hfa; cases hfa
  clear hfa
  have G1 := HG.out.pow d d0 d4
  have hd5 : d < 5 := by omega
  obtain ⟨x, hx⟩ : ∃ x : Nat, x = a.natAbs := ⟨_, rfl⟩
  obtain ⟨p, hp⟩ : ∃ p : Nat, p = 10 ^ d.toNat := ⟨_, rfl⟩
  obtain ⟨p1, p2⟩ := pow_le4 d.toNat (by omega)
  rw [← hp] at p1 p2
  have hpp : pow10 d.toNat = (p : Int) := by rw [hp]; rfl
  rw [hpp] at G1
  have hxb : x ≤ 1000000000000000 := by omega
  obtain ⟨q, hq⟩ : ∃ q : Nat, q = x / p := ⟨_, rfl⟩
  obtain ⟨r, hr⟩ : ∃ r : Nat, r = p + x % p := ⟨_, rfl⟩
  have hqb : q ≤ 1000000000000000 := by rw [hq]; exact Nat.le_trans (Nat.div_le_self _ _) hxb
  have hrb : r ≤ 20000 := by have := Nat.mod_lt x p1; omega
  have hqI : I64 (q : Int) := by unfold I64; omega
  have hrI : I64 (r : Int) := by unfold I64; omega
  have HTq := Aside0.mk (fun W => num_Text.calls (q : Int) (itB q) W (by unfold num_Text.f; rw [if_pos hqI]; rfl))
  have HTr := Aside0.mk (fun W => num_Text.calls (r : Int) (itB r) W (by unfold num_Text.f; rw [if_pos hrI]; rfl))
  have hp0 : ((p : Int) == 0) = false := by rw [beq_eq_false_iff_ne]; omega
  have hdiv : Int.tdiv (x : Int) (p : Int) = (q : Int) := by rw [hq]; exact Int.ofNat_tdiv x p
  have hmod : (p : Int) + Int.tmod (x : Int) (p : Int) = (r : Int) := by rw [hr, Int.natCast_add]; congr 1
  have ET : textB (if a < 0 then ⟨#[45]⟩ else ⟨#[]⟩) a.natAbs d = if d = 0 then (if a < 0 then ⟨#[45]⟩ else ⟨#[]⟩) ++ itB q else (if a < 0 then ⟨#[45]⟩ else ⟨#[]⟩) ++ itB q ++ ⟨#[46]⟩ ++ (itB r).extract 1 (itB r).size := by rw [textB, ← hp, ← hx, ← hq, ← hr]
  rw [ET] at E0
  have sq := itB_size q hqI
  have sr := itB_size r hrI
  have sr1 := itB_pos r
  clear hqI hrI ET
  generalize itB q = Bq at *
  generalize itB r = Br at *
  have hdw : wrap64 ((x : Int) / (p : Int)) = (q : Int) := by
    rw [← Int.natCast_ediv, ← hq]; unfold wrap64; omega
  have hmw : IntKind.i64.wrap ((p : Int) + (x : Int) % (p : Int)) = (r : Int) := by
    rw [← Int.natCast_emod, ← Int.natCast_add, ← hr]; exact IntWalk.i64_in _ (by omega)
  have HPP := Aside0.mk hpp
  clear hdiv hmod
  by_cases ha : a < 0
  · have hw : IntKind.i64.wrap (-a) = (x : Int) := by rw [IntWalk.i64_in _ (by omega)]; omega
    rw [if_pos ha] at E0
    clear hnf hx hq hr hpp hp
    by_cases hd0 : d = 0
    · have HD := Aside0.mk hd0
      rw [if_pos hd0] at E0
      clear hd0
      go_enter Tryd.func14, Tryd.ntmps14
      go_wp2_with fail
      refine (Hf.out _).mono ?_
      rintro e w' ⟨rfl, rfl⟩
      go_wp2_with fail
      refine (HFar.out _).mono ?_
      rintro e w' ⟨rfl, rfl⟩
      go_wp2_with fail
      rw [hdw]
      refine (HTq.out _).mono ?_
      rintro e w1 ⟨rfl, hb⟩
      have HB := Aside0.mk hb
      have hd0 := HD.out
      clear hb G1
      go_wp2_with fail
      rw [← HP.out]
      exact ⟨by rw [E0.out]; (try rfl), HB.out⟩
    · have hd0b : (d == 0) = false := by simpa using hd0
      rw [if_neg hd0] at E0
      go_enter Tryd.func14, Tryd.ntmps14
      go_wp2_with fail
      refine (Hf.out _).mono ?_
      rintro e w' ⟨rfl, rfl⟩
      go_wp2_with fail
      refine (HFar.out _).mono ?_
      rintro e w' ⟨rfl, rfl⟩
      go_wp2_with fail
      rw [hdw]
      refine (HTq.out _).mono ?_
      rintro e w1 ⟨rfl, hb⟩
      have HB := Aside0.mk hb
      have G2 := (gl_below HG.out hb).pow d d0 d4
      rw [HPP.out] at G2
      clear hb
      go_wp2_with fail
      clear hd0b
      have HX := Aside0.mk sr1
      go_region_with (first | (go_at_call 30; refine (HTr.out _).mono ?_; rintro e_ w2 ⟨rfl, hb2⟩))
      all_goals
        have HB2 := Aside0.mk (show Below w.heap.size w w2 from HB.out.trans ((Below.trans (by first | exact below_drew1 (Below.refl _ _) | exact pw_below_drewN (Below.refl _ _) _) hb2).mono HB.out.size))
        clear hb2 G2
        go_wp2_with fail
        rw [← HP.out]
        exact ⟨by rw [E0.out]; (try rfl), by repeat (first | exact HB2.out | apply pw_below_drewN | apply below_drew1)⟩
  · obtain rfl : a = (x : Int) := by omega
    rw [if_neg ha] at E0
    clear hnf hx hq hr hpp hp
    by_cases hd0 : d = 0
    · have HD := Aside0.mk hd0
      rw [if_pos hd0] at E0
      clear hd0
      go_enter Tryd.func14, Tryd.ntmps14
      go_wp2_with fail
      refine (Hf.out _).mono ?_
      rintro e w' ⟨rfl, rfl⟩
      go_wp2_with fail
      refine (HFar.out _).mono ?_
      rintro e w' ⟨rfl, rfl⟩
      go_wp2_with fail
      rw [hdw]
      refine (HTq.out _).mono ?_
      rintro e w1 ⟨rfl, hb⟩
      have HB := Aside0.mk hb
      have hd0 := HD.out
      clear hb G1
      go_wp2_with fail
      rw [← HP.out]
      exact ⟨by rw [E0.out]; (try rfl), HB.out⟩
    · have hd0b : (d == 0) = false := by simpa using hd0
      rw [if_neg hd0] at E0
      go_enter Tryd.func14, Tryd.ntmps14
      go_wp2_with fail
      refine (Hf.out _).mono ?_
      rintro e w' ⟨rfl, rfl⟩
      go_wp2_with fail
      refine (HFar.out _).mono ?_
      rintro e w' ⟨rfl, rfl⟩
      go_wp2_with fail
      rw [hdw]
      refine (HTq.out _).mono ?_
      rintro e w1 ⟨rfl, hb⟩
      have HB := Aside0.mk hb
      have G2 := (gl_below HG.out hb).pow d d0 d4
      rw [HPP.out] at G2
      clear hb
      go_wp2_with fail
      clear hd0b
      have HX := Aside0.mk sr1
      go_region_with (first | (go_at_call 30; refine (HTr.out _).mono ?_; rintro e_ w2 ⟨rfl, hb2⟩))
      all_goals
        have HB2 := Aside0.mk (show Below w.heap.size w w2 from HB.out.trans ((Below.trans (by first | exact below_drew1 (Below.refl _ _) | exact pw_below_drewN (Below.refl _ _) _) hb2).mono HB.out.size))
        clear hb2 G2
        go_wp2_with fail
        rw [← HP.out]
        exact ⟨by rw [E0.out]; (try rfl), by repeat (first | exact HB2.out | apply pw_below_drewN | apply below_drew1)⟩
def money_Text.f (a0 : Int) (a1 : Int) : Option (ByteArray × Int) := some (textS a0 a1)
theorem money_Text.calls (a0 : Int) (a1 : Int) (r1 : ByteArray) (r2 : Int) (w : World) (h : money_Text.f a0 a1 = some (r1, r2)) (hG : Gl w) :
    Calls Tryd.prog 14 #[.int .i64 a0, .int .i64 a1] w fun e w' => e = .returned (.tuple #[.string r1, .int .i64 r2]) ∧ Below w.heap.size w w' := by
  have h' := Option.some.inj h
  have := text_any a0 a1 w hG
  rw [h'] at this
  exact this

/-! ### money_digit: function 44 -/
def money_digit.f (a0 : Int) : Option (Bool) := if a0 ≥ 48 then (some (decide (a0 ≤ 57))) else (some false)
set_option maxHeartbeats 8000000 in
set_option maxRecDepth 100000 in
theorem money_digit.calls (a0 : Int) (r : Bool) (w : World) (h : money_digit.f a0 = some r) :
    Calls Tryd.prog 44 #[.int .i32 a0] w fun e w' => e = .returned (.bool r) ∧ Drawn0 w w' := by
  have H : (if a0 ≥ 48 then (some (decide (a0 ≤ 57))) else (some false)) = some r := h
  clear h
  by_cases c2 : a0 ≥ 48
  · rw [if_pos c2] at H
    have c2b0 : decide (48 ≤ a0) = true := decide_eq_true c2
    clear c2
    obtain rfl := Option.some.inj H
    go_enter Tryd.func44, Tryd.ntmps44
    go_wp2
    go_ret
    exact ⟨by first | rfl | (simp; done) | (simp [*]; done) | (simp; generalize ByteArray.toList _ = l_; cases l_ <;> rfl), by repeat (first | exact Drawn0.refl _ | apply Drawn0.step)⟩
  · rw [if_neg c2] at H
    have c2b0 : decide (48 ≤ a0) = false := decide_eq_false c2
    clear c2
    obtain rfl := Option.some.inj H
    go_enter Tryd.func44, Tryd.ntmps44
    go_wp2
    go_ret
    exact ⟨by first | rfl | (simp; done) | (simp [*]; done) | (simp; generalize ByteArray.toList _ = l_; cases l_ <;> rfl), by repeat (first | exact Drawn0.refl _ | apply Drawn0.step)⟩

end Go.Proofs.YthmpapnhomngnaaDoor.A
