-- By gen.py, a program of this session's, over the print's forms: not the print's own text.
import Derived.Test.YthmpapnhomngnaaDoorAx0
import Derived.Test.YthmpapnhomngnaaDoorAx12
import Derived.Test.YthmpapnhomngnaaDoorAx13
namespace Go.Proofs.YthmpapnhomngnaaDoor.A
open Go.RowKit Go.Proofs.YthmpapnhomngnaaDoor.B Go.Proofs.YthmpapnhomngnaaDoorW.PrintWords Go.Proofs.YthmpapnhomngnaaDoorW.PrintLast Go.Proofs.YthmpapnhomngnaaDoorW.PrintMore
attribute [local go_sem] max2_int min2_int max_two min_two max_three min_three max_four min_four   -- for this text's walks alone
set_option linter.unusedVariables false
set_option linter.unusedSimpArgs false

/-! ### accountingref07_Parse: function 17 -/
mutual
def accountingref07_Parse.j0 : Nat → ByteArray → Int → Bool → Option (Int × Int)
  | 0, _, _, _ => none
  | k + 1, x0, x1, x18 => if x18 = true then (some (0, 2)) else (if x0.toList = ([] : List UInt8) then (accountingref07_Parse.j1 k x1 x0 (⟨#[]⟩ : ByteArray) (⟨#[]⟩ : ByteArray) false) else (if 0 < (x0.size : Int) then (accountingref07_Parse.j1 k x1 x0 (⟨#[]⟩ : ByteArray) (⟨#[]⟩ : ByteArray) ((bt x0 0) == 45)) else (none)))
def accountingref07_Parse.j1 : Nat → Int → ByteArray → ByteArray → ByteArray → Bool → Option (Int × Int)
  | 0, _, _, _, _, _ => none
  | k + 1, x1, x6, x7, x8, x26 => if x26 = true then (if 1 ≤ (x6.size : Int) then (accountingref07_Parse.j2 k x1 (x6.extract 1 x6.size) x7 (⟨#[45]⟩ : ByteArray)) else (none)) else (accountingref07_Parse.j2 k x1 x6 x7 x8)
def accountingref07_Parse.j2 : Nat → Int → ByteArray → ByteArray → ByteArray → Option (Int × Int)
  | 0, _, _, _, _ => none
  | k + 1, x1, x6, x7, x8 => if x1 > 0 then (if (wrap64 ((wrap64 ((x6.size : Int) - x1)) - 1)) < 1 then (some (0, 5)) else (if 0 ≤ (wrap64 ((wrap64 ((x6.size : Int) - x1)) - 1)) then (if (wrap64 ((wrap64 ((x6.size : Int) - x1)) - 1)) < (x6.size : Int) then (if (bt x6 (wrap64 ((wrap64 ((x6.size : Int) - x1)) - 1))) = 46 then (if (wrap64 ((wrap64 ((x6.size : Int) - x1)) - 1)) ≤ (x6.size : Int) then (if 0 ≤ (wrap64 ((wrap64 ((wrap64 ((x6.size : Int) - x1)) - 1)) + 1)) then (if (wrap64 ((wrap64 ((wrap64 ((x6.size : Int) - x1)) - 1)) + 1)) ≤ (x6.size : Int) then (accountingref07_Parse.j3 k x1 (x6.extract 0 ((wrap64 ((wrap64 ((x6.size : Int) - x1)) - 1)) : Int).toNat) (x6.extract ((wrap64 ((wrap64 ((wrap64 ((x6.size : Int) - x1)) - 1)) + 1)) : Int).toNat x6.size) x8) else (none)) else (none)) else (none)) else (some (0, 5))) else (none)) else (none))) else (accountingref07_Parse.j3 k x1 x6 x7 x8)
def accountingref07_Parse.j3 : Nat → Int → ByteArray → ByteArray → ByteArray → Option (Int × Int)
  | 0, _, _, _, _ => none
  | k + 1, x1, x6, x7, x8 => (accountingref01_Digits.f k x6).bind fun t176 => (if t176 = true then (if (x6.size : Int) > 1 then (if 0 < (x6.size : Int) then (if (bt x6 0) = 48 then (accountingref07_Parse.j4 k x6 x7 x8 true) else (if x1 > 0 then ((accountingref01_Digits.f k x7).bind fun t177 => (accountingref07_Parse.j4 k x6 x7 x8 (!t177))) else (accountingref07_Parse.j4 k x6 x7 x8 false))) else (none)) else (if x1 > 0 then ((accountingref01_Digits.f k x7).bind fun t178 => (accountingref07_Parse.j4 k x6 x7 x8 (!t178))) else (accountingref07_Parse.j4 k x6 x7 x8 false))) else (accountingref07_Parse.j4 k x6 x7 x8 true))
def accountingref07_Parse.j4 : Nat → ByteArray → ByteArray → ByteArray → Bool → Option (Int × Int)
  | 0, _, _, _, _ => none
  | k + 1, x6, x7, x8, x72 => if x72 = true then (some (0, 5)) else (if x6.size + x7.size ≤ 9223372036854775807 then (accountingref07_Parse.l0 k x8 (x6 ++ x7)) else (none))
def accountingref07_Parse.j6 : Nat → ByteArray → ByteArray → Option (Int × Int)
  | 0, _, _ => none
  | k + 1, x8, x10 => if x8.toList = ([45] : List UInt8) then (accountingref07_Parse.j7 k x8 x10 (x10.toList == ([48] : List UInt8))) else (accountingref07_Parse.j7 k x8 x10 false)
def accountingref07_Parse.j7 : Nat → ByteArray → ByteArray → Bool → Option (Int × Int)
  | 0, _, _, _ => none
  | k + 1, x8, x10, x91 => if x91 = true then (some (0, 5)) else (if x8.size + x10.size ≤ 9223372036854775807 then ((accountingref01_Parse.f k (x8 ++ x10) (-1000000000000000) 1000000000000000).bind fun bt179 => (if bt179.2 = 0 then (some (bt179.1, 0)) else (some (0, 4)))) else (none))
def accountingref07_Parse.l0 : Nat → ByteArray → ByteArray → Option (Int × Int)
  | 0, _, _ => none
  | k + 1, x8, x10 => if (x10.size : Int) > 1 then (if 0 < (x10.size : Int) then (if (bt x10 0) = 48 then (if 1 ≤ (x10.size : Int) then (accountingref07_Parse.l0 k x8 (x10.extract 1 x10.size)) else (none)) else (accountingref07_Parse.j6 k x8 x10)) else (none)) else (accountingref07_Parse.j6 k x8 x10)
end
def accountingref07_Parse.f (k : Nat) (a0 : ByteArray) (a1 : Int) : Option (Int × Int) := if a1 < 0 then (accountingref07_Parse.j0 k a0 a1 true) else (accountingref07_Parse.j0 k a0 a1 (decide (a1 > 4)))
theorem accountingref07_Parse.mono_l : ∀ k, (∀ y0 y1 y2, LeO (accountingref07_Parse.j0 k y0 y1 y2) (accountingref07_Parse.j0 (k + 1) y0 y1 y2)) ∧ (∀ y0 y1 y2 y3 y4, LeO (accountingref07_Parse.j1 k y0 y1 y2 y3 y4) (accountingref07_Parse.j1 (k + 1) y0 y1 y2 y3 y4)) ∧ (∀ y0 y1 y2 y3, LeO (accountingref07_Parse.j2 k y0 y1 y2 y3) (accountingref07_Parse.j2 (k + 1) y0 y1 y2 y3)) ∧ (∀ y0 y1 y2 y3, LeO (accountingref07_Parse.j3 k y0 y1 y2 y3) (accountingref07_Parse.j3 (k + 1) y0 y1 y2 y3)) ∧ (∀ y0 y1 y2 y3, LeO (accountingref07_Parse.j4 k y0 y1 y2 y3) (accountingref07_Parse.j4 (k + 1) y0 y1 y2 y3)) ∧ (∀ y0 y1, LeO (accountingref07_Parse.j6 k y0 y1) (accountingref07_Parse.j6 (k + 1) y0 y1)) ∧ (∀ y0 y1 y2, LeO (accountingref07_Parse.j7 k y0 y1 y2) (accountingref07_Parse.j7 (k + 1) y0 y1 y2)) ∧ (∀ y0 y1, LeO (accountingref07_Parse.l0 k y0 y1) (accountingref07_Parse.l0 (k + 1) y0 y1))
  | 0 => ⟨fun _ _ _ r h => by simp [accountingref07_Parse.j0] at h, fun _ _ _ _ _ r h => by simp [accountingref07_Parse.j1] at h, fun _ _ _ _ r h => by simp [accountingref07_Parse.j2] at h, fun _ _ _ _ r h => by simp [accountingref07_Parse.j3] at h, fun _ _ _ _ r h => by simp [accountingref07_Parse.j4] at h, fun _ _ r h => by simp [accountingref07_Parse.j6] at h, fun _ _ _ r h => by simp [accountingref07_Parse.j7] at h, fun _ _ r h => by simp [accountingref07_Parse.l0] at h⟩
  | k + 1 => by
    obtain ⟨ih0, ih1, ih2, ih3, ih4, ih5, ih6, ih7⟩ := accountingref07_Parse.mono_l k
    refine ⟨?_, ?_, ?_, ?_, ?_, ?_, ?_, ?_⟩
    · intro y0 y1 y2
      unfold accountingref07_Parse.j0
      repeat' first
      | (with_reducible exact ih0 _ _ _)
      | (with_reducible exact ih1 _ _ _ _ _)
      | (with_reducible exact ih2 _ _ _ _)
      | (with_reducible exact ih3 _ _ _ _)
      | (with_reducible exact ih4 _ _ _ _)
      | (with_reducible exact ih5 _ _)
      | (with_reducible exact ih6 _ _ _)
      | (with_reducible exact ih7 _ _)
      | (with_reducible exact accountingref01_Digits.mono _ _)
      | (with_reducible exact accountingref01_Parse.mono _ _ _ _)
      | (with_reducible exact LeO.refl _)
      | (with_reducible exact LeO.none _)
      | (with_reducible refine LeO.ite ?_ ?_)
      | (with_reducible refine LeO.bind ?_ (fun _ => ?_))
      | exact ih0 _ _ _
      | exact ih1 _ _ _ _ _
      | exact ih2 _ _ _ _
      | exact ih3 _ _ _ _
      | exact ih4 _ _ _ _
      | exact ih5 _ _
      | exact ih6 _ _ _
      | exact ih7 _ _
      | exact accountingref01_Digits.mono _ _
      | exact accountingref01_Parse.mono _ _ _ _
      | exact LeO.none _
      | refine LeO.ite ?_ ?_
      | refine LeO.bind ?_ (fun _ => ?_)
    · intro y0 y1 y2 y3 y4
      unfold accountingref07_Parse.j1
      repeat' first
      | (with_reducible exact ih0 _ _ _)
      | (with_reducible exact ih1 _ _ _ _ _)
      | (with_reducible exact ih2 _ _ _ _)
      | (with_reducible exact ih3 _ _ _ _)
      | (with_reducible exact ih4 _ _ _ _)
      | (with_reducible exact ih5 _ _)
      | (with_reducible exact ih6 _ _ _)
      | (with_reducible exact ih7 _ _)
      | (with_reducible exact accountingref01_Digits.mono _ _)
      | (with_reducible exact accountingref01_Parse.mono _ _ _ _)
      | (with_reducible exact LeO.refl _)
      | (with_reducible exact LeO.none _)
      | (with_reducible refine LeO.ite ?_ ?_)
      | (with_reducible refine LeO.bind ?_ (fun _ => ?_))
      | exact ih0 _ _ _
      | exact ih1 _ _ _ _ _
      | exact ih2 _ _ _ _
      | exact ih3 _ _ _ _
      | exact ih4 _ _ _ _
      | exact ih5 _ _
      | exact ih6 _ _ _
      | exact ih7 _ _
      | exact accountingref01_Digits.mono _ _
      | exact accountingref01_Parse.mono _ _ _ _
      | exact LeO.none _
      | refine LeO.ite ?_ ?_
      | refine LeO.bind ?_ (fun _ => ?_)
    · intro y0 y1 y2 y3
      unfold accountingref07_Parse.j2
      repeat' first
      | (with_reducible exact ih0 _ _ _)
      | (with_reducible exact ih1 _ _ _ _ _)
      | (with_reducible exact ih2 _ _ _ _)
      | (with_reducible exact ih3 _ _ _ _)
      | (with_reducible exact ih4 _ _ _ _)
      | (with_reducible exact ih5 _ _)
      | (with_reducible exact ih6 _ _ _)
      | (with_reducible exact ih7 _ _)
      | (with_reducible exact accountingref01_Digits.mono _ _)
      | (with_reducible exact accountingref01_Parse.mono _ _ _ _)
      | (with_reducible exact LeO.refl _)
      | (with_reducible exact LeO.none _)
      | (with_reducible refine LeO.ite ?_ ?_)
      | (with_reducible refine LeO.bind ?_ (fun _ => ?_))
      | exact ih0 _ _ _
      | exact ih1 _ _ _ _ _
      | exact ih2 _ _ _ _
      | exact ih3 _ _ _ _
      | exact ih4 _ _ _ _
      | exact ih5 _ _
      | exact ih6 _ _ _
      | exact ih7 _ _
      | exact accountingref01_Digits.mono _ _
      | exact accountingref01_Parse.mono _ _ _ _
      | exact LeO.none _
      | refine LeO.ite ?_ ?_
      | refine LeO.bind ?_ (fun _ => ?_)
    · intro y0 y1 y2 y3
      unfold accountingref07_Parse.j3
      repeat' first
      | (with_reducible exact ih0 _ _ _)
      | (with_reducible exact ih1 _ _ _ _ _)
      | (with_reducible exact ih2 _ _ _ _)
      | (with_reducible exact ih3 _ _ _ _)
      | (with_reducible exact ih4 _ _ _ _)
      | (with_reducible exact ih5 _ _)
      | (with_reducible exact ih6 _ _ _)
      | (with_reducible exact ih7 _ _)
      | (with_reducible exact accountingref01_Digits.mono _ _)
      | (with_reducible exact accountingref01_Parse.mono _ _ _ _)
      | (with_reducible exact LeO.refl _)
      | (with_reducible exact LeO.none _)
      | (with_reducible refine LeO.ite ?_ ?_)
      | (with_reducible refine LeO.bind ?_ (fun _ => ?_))
      | exact ih0 _ _ _
      | exact ih1 _ _ _ _ _
      | exact ih2 _ _ _ _
      | exact ih3 _ _ _ _
      | exact ih4 _ _ _ _
      | exact ih5 _ _
      | exact ih6 _ _ _
      | exact ih7 _ _
      | exact accountingref01_Digits.mono _ _
      | exact accountingref01_Parse.mono _ _ _ _
      | exact LeO.none _
      | refine LeO.ite ?_ ?_
      | refine LeO.bind ?_ (fun _ => ?_)
    · intro y0 y1 y2 y3
      unfold accountingref07_Parse.j4
      repeat' first
      | (with_reducible exact ih0 _ _ _)
      | (with_reducible exact ih1 _ _ _ _ _)
      | (with_reducible exact ih2 _ _ _ _)
      | (with_reducible exact ih3 _ _ _ _)
      | (with_reducible exact ih4 _ _ _ _)
      | (with_reducible exact ih5 _ _)
      | (with_reducible exact ih6 _ _ _)
      | (with_reducible exact ih7 _ _)
      | (with_reducible exact accountingref01_Digits.mono _ _)
      | (with_reducible exact accountingref01_Parse.mono _ _ _ _)
      | (with_reducible exact LeO.refl _)
      | (with_reducible exact LeO.none _)
      | (with_reducible refine LeO.ite ?_ ?_)
      | (with_reducible refine LeO.bind ?_ (fun _ => ?_))
      | exact ih0 _ _ _
      | exact ih1 _ _ _ _ _
      | exact ih2 _ _ _ _
      | exact ih3 _ _ _ _
      | exact ih4 _ _ _ _
      | exact ih5 _ _
      | exact ih6 _ _ _
      | exact ih7 _ _
      | exact accountingref01_Digits.mono _ _
      | exact accountingref01_Parse.mono _ _ _ _
      | exact LeO.none _
      | refine LeO.ite ?_ ?_
      | refine LeO.bind ?_ (fun _ => ?_)
    · intro y0 y1
      unfold accountingref07_Parse.j6
      repeat' first
      | (with_reducible exact ih0 _ _ _)
      | (with_reducible exact ih1 _ _ _ _ _)
      | (with_reducible exact ih2 _ _ _ _)
      | (with_reducible exact ih3 _ _ _ _)
      | (with_reducible exact ih4 _ _ _ _)
      | (with_reducible exact ih5 _ _)
      | (with_reducible exact ih6 _ _ _)
      | (with_reducible exact ih7 _ _)
      | (with_reducible exact accountingref01_Digits.mono _ _)
      | (with_reducible exact accountingref01_Parse.mono _ _ _ _)
      | (with_reducible exact LeO.refl _)
      | (with_reducible exact LeO.none _)
      | (with_reducible refine LeO.ite ?_ ?_)
      | (with_reducible refine LeO.bind ?_ (fun _ => ?_))
      | exact ih0 _ _ _
      | exact ih1 _ _ _ _ _
      | exact ih2 _ _ _ _
      | exact ih3 _ _ _ _
      | exact ih4 _ _ _ _
      | exact ih5 _ _
      | exact ih6 _ _ _
      | exact ih7 _ _
      | exact accountingref01_Digits.mono _ _
      | exact accountingref01_Parse.mono _ _ _ _
      | exact LeO.none _
      | refine LeO.ite ?_ ?_
      | refine LeO.bind ?_ (fun _ => ?_)
    · intro y0 y1 y2
      unfold accountingref07_Parse.j7
      repeat' first
      | (with_reducible exact ih0 _ _ _)
      | (with_reducible exact ih1 _ _ _ _ _)
      | (with_reducible exact ih2 _ _ _ _)
      | (with_reducible exact ih3 _ _ _ _)
      | (with_reducible exact ih4 _ _ _ _)
      | (with_reducible exact ih5 _ _)
      | (with_reducible exact ih6 _ _ _)
      | (with_reducible exact ih7 _ _)
      | (with_reducible exact accountingref01_Digits.mono _ _)
      | (with_reducible exact accountingref01_Parse.mono _ _ _ _)
      | (with_reducible exact LeO.refl _)
      | (with_reducible exact LeO.none _)
      | (with_reducible refine LeO.ite ?_ ?_)
      | (with_reducible refine LeO.bind ?_ (fun _ => ?_))
      | exact ih0 _ _ _
      | exact ih1 _ _ _ _ _
      | exact ih2 _ _ _ _
      | exact ih3 _ _ _ _
      | exact ih4 _ _ _ _
      | exact ih5 _ _
      | exact ih6 _ _ _
      | exact ih7 _ _
      | exact accountingref01_Digits.mono _ _
      | exact accountingref01_Parse.mono _ _ _ _
      | exact LeO.none _
      | refine LeO.ite ?_ ?_
      | refine LeO.bind ?_ (fun _ => ?_)
    · intro y0 y1
      unfold accountingref07_Parse.l0
      repeat' first
      | (with_reducible exact ih0 _ _ _)
      | (with_reducible exact ih1 _ _ _ _ _)
      | (with_reducible exact ih2 _ _ _ _)
      | (with_reducible exact ih3 _ _ _ _)
      | (with_reducible exact ih4 _ _ _ _)
      | (with_reducible exact ih5 _ _)
      | (with_reducible exact ih6 _ _ _)
      | (with_reducible exact ih7 _ _)
      | (with_reducible exact accountingref01_Digits.mono _ _)
      | (with_reducible exact accountingref01_Parse.mono _ _ _ _)
      | (with_reducible exact LeO.refl _)
      | (with_reducible exact LeO.none _)
      | (with_reducible refine LeO.ite ?_ ?_)
      | (with_reducible refine LeO.bind ?_ (fun _ => ?_))
      | exact ih0 _ _ _
      | exact ih1 _ _ _ _ _
      | exact ih2 _ _ _ _
      | exact ih3 _ _ _ _
      | exact ih4 _ _ _ _
      | exact ih5 _ _
      | exact ih6 _ _ _
      | exact ih7 _ _
      | exact accountingref01_Digits.mono _ _
      | exact accountingref01_Parse.mono _ _ _ _
      | exact LeO.none _
      | refine LeO.ite ?_ ?_
      | refine LeO.bind ?_ (fun _ => ?_)
theorem accountingref07_Parse.mono : ∀ a0 a1 k, LeO (accountingref07_Parse.f k a0 a1) (accountingref07_Parse.f (k + 1) a0 a1) := by
  intro a0 a1 k
  obtain ⟨ih0, ih1, ih2, ih3, ih4, ih5, ih6, ih7⟩ := accountingref07_Parse.mono_l k
  unfold accountingref07_Parse.f
  repeat' first
      | (with_reducible exact ih0 _ _ _)
      | (with_reducible exact ih1 _ _ _ _ _)
      | (with_reducible exact ih2 _ _ _ _)
      | (with_reducible exact ih3 _ _ _ _)
      | (with_reducible exact ih4 _ _ _ _)
      | (with_reducible exact ih5 _ _)
      | (with_reducible exact ih6 _ _ _)
      | (with_reducible exact ih7 _ _)
      | (with_reducible exact accountingref01_Digits.mono _ _)
      | (with_reducible exact accountingref01_Parse.mono _ _ _ _)
      | (with_reducible exact LeO.refl _)
      | (with_reducible exact LeO.none _)
      | (with_reducible refine LeO.ite ?_ ?_)
      | (with_reducible refine LeO.bind ?_ (fun _ => ?_))
      | exact ih0 _ _ _
      | exact ih1 _ _ _ _ _
      | exact ih2 _ _ _ _
      | exact ih3 _ _ _ _
      | exact ih4 _ _ _ _
      | exact ih5 _ _
      | exact ih6 _ _ _
      | exact ih7 _ _
      | exact accountingref01_Digits.mono _ _
      | exact accountingref01_Parse.mono _ _ _ _
      | exact LeO.none _
      | refine LeO.ite ?_ ?_
      | refine LeO.bind ?_ (fun _ => ?_)
set_option maxHeartbeats 8000000 in
set_option maxRecDepth 100000 in
theorem accountingref07_Parse.calls (k : Nat) (a0 : ByteArray) (a1 : Int) (r1 : Int) (r2 : Int) (w : World) (h : accountingref07_Parse.f k a0 a1 = some (r1, r2)) :
    Calls Tryd.prog 17 #[.string a0, .int .i64 a1] w fun e w' => e = .returned (.tuple #[.int .i64 r1, .int .i64 r2]) ∧ Drawn0 w w' := by
  have H : (if a1 < 0 then (accountingref07_Parse.j0 k a0 a1 true) else (accountingref07_Parse.j0 k a0 a1 (decide (a1 > 4)))) = some (r1, r2) := h
  clear h
  have HC3 := Aside0.mk H
  clear H
  go_enter Tryd.func17, Tryd.ntmps17
  go_upto_region 1 with (fail)
  repeat (go_quiet (fail); go_upto_region 1 with (fail))
  go_cut [18] (fun v18 wc => ∃ (kq : Nat) (x18_2 : Bool), v18 = .bool x18_2 ∧ Aside0 (accountingref07_Parse.j0 kq a0 a1 x18_2 = some (r1, r2)) ∧ Aside0 (kq ≤ k) ∧ Drawn0 w wc)
  case first =>
    have H := HC3.out
    clear HC3
    by_cases c4 : a1 < 0
    · rw [if_pos c4] at H
      have c4b0 : decide (a1 < 0) = true := decide_eq_true c4
      clear c4
      (first | rw [c4b0] | (simp only [i64_w, i32_w]; rw [c4b0]) | skip)
      have H' := Aside0.mk H
      clear H
      go_wp2
      repeat (go_quiet (fail); try go_wp2)
      go_meet
      case rel => exact ⟨_, (true), (by first | rfl | (simp; done) | (simp [*]; done) | (simp; generalize ByteArray.toList _ = l_; cases l_ <;> rfl)), H', ⟨by first | omega | exact Nat.le_refl _⟩, by repeat (first | exact Drawn0.refl _ | apply Drawn0.step)⟩
    · rw [if_neg c4] at H
      have c4b0 : decide (a1 < 0) = false := decide_eq_false c4
      clear c4
      (first | rw [c4b0] | (simp only [i64_w, i32_w]; rw [c4b0]) | skip)
      have H' := Aside0.mk H
      clear H
      go_wp2
      repeat (go_quiet (fail); try go_wp2)
      go_meet
      case rel => exact ⟨_, (decide (a1 > 4)), (by first | rfl | (simp; done) | (simp [*]; done) | (simp; generalize ByteArray.toList _ = l_; cases l_ <;> rfl)), H', ⟨by first | omega | exact Nat.le_refl _⟩, by repeat (first | exact Drawn0.refl _ | apply Drawn0.step)⟩
  case rest =>
    clear HC3
    try clear c1
    try clear p2
    try clear c4
    try clear c4b0
    obtain ⟨kq, x18_2, rfl, HA, HJ2, ⟨mc2, rfl⟩⟩ := hcut
    cases kq with
    | zero => exact absurd HA.out (by simp [accountingref07_Parse.j0])
    | succ kj2 =>
      have H := HA.out
      clear HA
      simp only [accountingref07_Parse.j0] at H
      by_cases c5 : x18_2 = true
      · subst c5
        have H1 : (some (0, 2)) = some (r1, r2) := by rw [if_pos rfl] at H; exact H
        clear H
        have H := H1
        clear H1
        simp only [Option.some.injEq, Prod.mk.injEq] at H
        obtain ⟨rfl, rfl⟩ := H
        go_wp2
        repeat (go_quiet (fail); try go_wp2)
        go_ret2
        exact ⟨by first | rfl | (simp; done) | (simp [*]; done) | (simp; generalize ByteArray.toList _ = l_; cases l_ <;> rfl), by repeat (first | exact Drawn0.refl _ | apply Drawn0.step)⟩
      · replace c5 := Bool.eq_false_iff.mpr c5
        subst c5
        have H1 : (if a0.toList = ([] : List UInt8) then (accountingref07_Parse.j1 kj2 a1 a0 (⟨#[]⟩ : ByteArray) (⟨#[]⟩ : ByteArray) false) else (if 0 < (a0.size : Int) then (accountingref07_Parse.j1 kj2 a1 a0 (⟨#[]⟩ : ByteArray) (⟨#[]⟩ : ByteArray) ((bt a0 0) == 45)) else (none))) = some (r1, r2) := by rw [if_neg (show ¬ (false = true) by decide)] at H; exact H
        clear H
        have H := H1
        clear H1
        have HC6 := Aside0.mk H
        clear H
        go_upto_region 4 with (fail)
        repeat (go_quiet (fail); go_upto_region 4 with (fail))
        go_cut [26] (fun v26 wc => ∃ (kq : Nat) (x26_5 : Bool), v26 = .bool x26_5 ∧ Aside0 (accountingref07_Parse.j1 kq a1 a0 (⟨#[]⟩ : ByteArray) (⟨#[]⟩ : ByteArray) x26_5 = some (r1, r2)) ∧ Aside0 (kq ≤ kj2) ∧ Drawn0 w wc)
        case first =>
          have H := HC6.out
          clear HC6
          by_cases c7 : a0.toList = ([] : List UInt8)
          · rw [if_pos c7] at H
            have c7b0 : (a0.toList == ([] : List UInt8)) = true := beq_iff_eq.mpr c7
            have c7b1 : (a0.toList != ([] : List UInt8)) = false := bne_eq_false_iff_eq.mpr c7
            clear c7
            (first | rw [c7b0] | (simp only [i64_w, i32_w]; rw [c7b0]) | skip)
            have H' := Aside0.mk H
            clear H
            go_wp2
            repeat (go_quiet (fail); try go_wp2)
            go_meet
            case rel => exact ⟨_, (false), (by first | rfl | (simp; done) | (simp [*]; done) | (simp; generalize ByteArray.toList _ = l_; cases l_ <;> rfl)), H', ⟨by have := HJ2.out; first | omega | exact Nat.le_refl _⟩, by repeat (first | exact Drawn0.refl _ | apply Drawn0.step)⟩
          · rw [if_neg c7] at H
            have c7b0 : (a0.toList == ([] : List UInt8)) = false := beq_eq_false_iff_ne.mpr c7
            have c7b1 : (a0.toList != ([] : List UInt8)) = true := bne_iff_ne.mpr c7
            (first | rw [c7b0] | (simp only [i64_w, i32_w]; rw [c7b0]) | skip)
            by_cases c8 : 0 < (a0.size : Int)
            · rw [if_pos c8] at H
              have c8b0 : decide (0 < (a0.size : Int)) = true := decide_eq_true c8
              have c8b1 : decide (0 < a0.size) = true := decide_eq_true (by omega)
              clear c8
              have H' := Aside0.mk H
              clear H
              have p9 : 0 ≤ (0 : Int) := (by omega)
              have q9 : 0 < a0.size := (by have : (0 : Int) < (a0.size : Int) := of_decide_eq_true (by first | (with_reducible assumption) | assumption); omega)
              have hx9 : ∀ h : 0 < a0.size, ((a0[0]'h).toNat : Int) = bt a0 0 := bt_at a0 0
              clear p9
              have qi9 : (0 < (a0.size : Int)) = True := eq_true (of_decide_eq_true (by first | (with_reducible assumption) | assumption))
              replace q9 := eq_true q9
              go_wp2
              repeat (go_quiet (fail); try go_wp2)
              go_meet
              case rel => exact ⟨_, (((bt a0 0) == 45)), (by first | rfl | (simp; done) | (simp [*]; done) | (simp; generalize ByteArray.toList _ = l_; cases l_ <;> rfl)), H', ⟨by have := HJ2.out; first | omega | exact Nat.le_refl _⟩, by repeat (first | exact Drawn0.refl _ | apply Drawn0.step)⟩
            · rw [if_neg c8] at H
              exact absurd H (by simp)
        case rest =>
          clear HC6
          try clear c1
          try clear c2
          try clear p2
          try clear c4
          try clear c4b0
          try clear c5
          try clear c7
          try clear c7b0
          try clear c7b1
          try clear c8
          try clear c8b0
          try clear c8b1
          try clear p9
          try clear q9
          try clear hx9
          try clear qi9
          try clear p2
          try clear p9
          try clear q9
          obtain ⟨kq, x26_5, rfl, HA, HJ5, ⟨mc5, rfl⟩⟩ := hcut
          cases kq with
          | zero => exact absurd HA.out (by simp [accountingref07_Parse.j1])
          | succ kj5 =>
            have H := HA.out
            clear HA
            simp only [accountingref07_Parse.j1] at H
            have HC10 := Aside0.mk H
            clear H
            go_upto_if 26 with (fail)
            repeat (go_quiet (fail); go_upto_if 26 with (fail))
            go_cut [6, 8] (fun v6 v8 wc => ∃ (kq : Nat) (x6_9 : ByteArray) (x8_9 : ByteArray), v6 = .string x6_9 ∧ v8 = .string x8_9 ∧ Aside0 (accountingref07_Parse.j2 kq a1 x6_9 (⟨#[]⟩ : ByteArray) x8_9 = some (r1, r2)) ∧ Aside0 (kq ≤ kj5) ∧ Drawn0 w wc)
            case first =>
              have H := HC10.out
              clear HC10
              by_cases c11 : x26_5 = true
              · subst c11
                have H1 : (if 1 ≤ (a0.size : Int) then (accountingref07_Parse.j2 kj5 a1 (a0.extract 1 a0.size) (⟨#[]⟩ : ByteArray) (⟨#[45]⟩ : ByteArray)) else (none)) = some (r1, r2) := by rw [if_pos rfl] at H; exact H
                clear H
                have H := H1
                clear H1
                by_cases c12 : 1 ≤ (a0.size : Int)
                · rw [if_pos c12] at H
                  have c12b0 := eq_true c12
                  have c12b1 : decide (1 ≤ (a0.size : Int)) = true := decide_eq_true c12
                  clear c12
                  have H' := Aside0.mk H
                  clear H
                  go_wp2
                  repeat (go_quiet (fail); try go_wp2)
                  go_meet
                  case rel => exact ⟨_, (a0.extract 1 a0.size), ((⟨#[45]⟩ : ByteArray)), (by first | rfl | (simp; done) | (simp [*]; done) | (simp; generalize ByteArray.toList _ = l_; cases l_ <;> rfl)), (by first | rfl | (simp; done) | (simp [*]; done) | (simp; generalize ByteArray.toList _ = l_; cases l_ <;> rfl)), H', ⟨by have := HJ2.out; have := HJ5.out; first | omega | exact Nat.le_refl _⟩, by repeat (first | exact Drawn0.refl _ | apply Drawn0.step)⟩
                · rw [if_neg c12] at H
                  exact absurd H (by simp)
              · replace c11 := Bool.eq_false_iff.mpr c11
                subst c11
                have H1 : (accountingref07_Parse.j2 kj5 a1 a0 (⟨#[]⟩ : ByteArray) (⟨#[]⟩ : ByteArray)) = some (r1, r2) := by rw [if_neg (show ¬ (false = true) by decide)] at H; exact H
                clear H
                have H := H1
                clear H1
                have H' := Aside0.mk H
                clear H
                go_wp2
                repeat (go_quiet (fail); try go_wp2)
                go_meet
                case rel => exact ⟨_, (a0), ((⟨#[]⟩ : ByteArray)), (by first | rfl | (simp; done) | (simp [*]; done) | (simp; generalize ByteArray.toList _ = l_; cases l_ <;> rfl)), (by first | rfl | (simp; done) | (simp [*]; done) | (simp; generalize ByteArray.toList _ = l_; cases l_ <;> rfl)), H', ⟨by have := HJ2.out; have := HJ5.out; first | omega | exact Nat.le_refl _⟩, by repeat (first | exact Drawn0.refl _ | apply Drawn0.step)⟩
            case rest =>
              clear HC10
              try clear c1
              try clear c2
              try clear p2
              try clear c4
              try clear c4b0
              try clear c5
              try clear c7
              try clear c7b0
              try clear c7b1
              try clear c8
              try clear c8b0
              try clear c8b1
              try clear p9
              try clear q9
              try clear hx9
              try clear qi9
              try clear c11
              try clear c12
              try clear c12b0
              try clear c12b1
              try clear p2
              try clear p9
              try clear q9
              obtain ⟨kq, x6_9, x8_9, rfl, rfl, HA, HJ9, ⟨mc9, rfl⟩⟩ := hcut
              cases kq with
              | zero => exact absurd HA.out (by simp [accountingref07_Parse.j2])
              | succ kj9 =>
                have H := HA.out
                clear HA
                simp only [accountingref07_Parse.j2] at H
                have HC13 := Aside0.mk H
                clear H
                go_upto_if 30 with (fail)
                repeat (go_quiet (fail); go_upto_if 30 with (fail))
                go_cut [6, 7] (fun v6 v7 wc => ∃ (kq : Nat) (x6_12 : ByteArray) (x7_12 : ByteArray), v6 = .string x6_12 ∧ v7 = .string x7_12 ∧ Aside0 (accountingref07_Parse.j3 kq a1 x6_12 x7_12 x8_9 = some (r1, r2)) ∧ Aside0 (kq ≤ kj9) ∧ Drawn0 w wc)
                case first =>
                  have H := HC13.out
                  clear HC13
                  by_cases c14 : a1 > 0
                  · rw [if_pos c14] at H
                    have c14b0 : decide (0 < a1) = true := decide_eq_true c14
                    clear c14
                    (first | rw [c14b0] | (simp only [i64_w, i32_w]; rw [c14b0]) | skip)
                    by_cases c15 : (wrap64 ((wrap64 ((x6_9.size : Int) - a1)) - 1)) < 1
                    · rw [if_pos c15] at H
                      have c15b0 : decide ((wrap64 ((wrap64 ((x6_9.size : Int) - a1)) - 1)) < 1) = true := decide_eq_true c15
                      clear c15
                      simp only [Option.some.injEq, Prod.mk.injEq] at H
                      obtain ⟨rfl, rfl⟩ := H
                      go_wp2
                      repeat (go_quiet (fail); try go_wp2)
                      go_ret2
                      exact ⟨by first | rfl | (simp; done) | (simp [*]; done) | (simp; generalize ByteArray.toList _ = l_; cases l_ <;> rfl), by repeat (first | exact Drawn0.refl _ | apply Drawn0.step)⟩
                    · rw [if_neg c15] at H
                      have c15b0 : decide ((wrap64 ((wrap64 ((x6_9.size : Int) - a1)) - 1)) < 1) = false := decide_eq_false c15
                      clear c15
                      obtain ⟨ji16, hji16⟩ : ∃ j_ : Int, (wrap64 ((wrap64 ((x6_9.size : Int) - a1)) - 1)) = j_ := ⟨_, rfl⟩
                      replace H : (if 0 ≤ (ji16) then (if (ji16) < (x6_9.size : Int) then (if (bt x6_9 (ji16)) = 46 then (if (ji16) ≤ (x6_9.size : Int) then (if 0 ≤ (wrap64 ((ji16) + 1)) then (if (wrap64 ((ji16) + 1)) ≤ (x6_9.size : Int) then (accountingref07_Parse.j3 kj9 a1 (x6_9.extract 0 ((ji16) : Int).toNat) (x6_9.extract ((wrap64 ((ji16) + 1)) : Int).toNat x6_9.size) x8_9) else (none)) else (none)) else (none)) else (some (0, 5))) else (none)) else (none)) = some (r1, r2) := by first | (rw [hji16] at H; exact H) | (simp only [hji16] at H ⊢; exact H)
                      (try rw [hji16] at c15b0)
                      have hji16w : (IntKind.i64.wrap ((wrap64 ((x6_9.size : Int) - a1)) - 1)) = ji16 := (i64_w _).trans hji16
                      by_cases c17 : 0 ≤ (ji16)
                      · rw [if_pos c17] at H
                        have c17b0 : decide (0 ≤ (ji16)) = true := decide_eq_true c17
                        clear c17
                        by_cases c18 : (ji16) < (x6_9.size : Int)
                        · rw [if_pos c18] at H
                          have c18b0 : decide ((ji16) < (x6_9.size : Int)) = true := decide_eq_true c18
                          clear c18
                          by_cases c20 : (bt x6_9 (ji16)) = 46
                          · rw [if_pos c20] at H
                            have c20b0 : ((bt x6_9 (ji16)) == 46) = true := beq_iff_eq.mpr c20
                            have c20b1 : ((bt x6_9 (ji16)) != 46) = false := bne_eq_false_iff_eq.mpr c20
                            clear c20
                            have c21b0 := eq_true (of_decide_eq_true (by first | (with_reducible assumption) | assumption) : 0 ≤ (ji16))
                            by_cases c22 : (ji16) ≤ (x6_9.size : Int)
                            · rw [if_pos c22] at H
                              have c22b0 := eq_true c22
                              have c22b1 : decide ((ji16) ≤ (x6_9.size : Int)) = true := decide_eq_true c22
                              clear c22
                              obtain ⟨ji23, hji23⟩ : ∃ j_ : Int, (wrap64 ((ji16) + 1)) = j_ := ⟨_, rfl⟩
                              replace H : (if 0 ≤ (ji23) then (if (ji23) ≤ (x6_9.size : Int) then (accountingref07_Parse.j3 kj9 a1 (x6_9.extract 0 ((ji16) : Int).toNat) (x6_9.extract ((ji23) : Int).toNat x6_9.size) x8_9) else (none)) else (none)) = some (r1, r2) := by first | (rw [hji23] at H; exact H) | (simp only [hji23] at H ⊢; exact H)
                              have hji23w : (IntKind.i64.wrap ((ji16) + 1)) = ji23 := (i64_w _).trans hji23
                              by_cases c24 : 0 ≤ (ji23)
                              · rw [if_pos c24] at H
                                have c24b0 := eq_true c24
                                have c24b1 : decide (0 ≤ (ji23)) = true := decide_eq_true c24
                                clear c24
                                by_cases c25 : (ji23) ≤ (x6_9.size : Int)
                                · rw [if_pos c25] at H
                                  have c25b0 := eq_true c25
                                  have c25b1 : decide ((ji23) ≤ (x6_9.size : Int)) = true := decide_eq_true c25
                                  clear c25
                                  have H' := Aside0.mk H
                                  clear H
                                  have p19 : 0 ≤ ((ji16) : Int) := of_decide_eq_true (by first | (with_reducible assumption) | assumption)
                                  have q19 : (ji16) < (x6_9.size : Int) := of_decide_eq_true (by first | (with_reducible assumption) | assumption)
                                  have hx19 := bt_at x6_9 (ji16)
                                  replace p19 := eq_true p19
                                  replace q19 := eq_true q19
                                  go_wp2
                                  repeat (go_quiet (fail); try go_wp2)
                                  go_meet
                                  case rel => exact ⟨_, (x6_9.extract 0 ((ji16) : Int).toNat), (x6_9.extract ((ji23) : Int).toNat x6_9.size), (by first | rfl | (simp; done) | (simp only [← hji16] <;> (first | rfl | simp)) | (simp [*]; done)), (by first | rfl | (simp; done) | (simp only [← hji23] <;> (first | rfl | simp)) | (simp [*]; done)), H', ⟨by have := HJ2.out; have := HJ5.out; have := HJ9.out; first | omega | exact Nat.le_refl _⟩, by repeat (first | exact Drawn0.refl _ | apply Drawn0.step)⟩
                                · rw [if_neg c25] at H
                                  exact absurd H (by simp)
                              · rw [if_neg c24] at H
                                exact absurd H (by simp)
                            · rw [if_neg c22] at H
                              exact absurd H (by simp)
                          · rw [if_neg c20] at H
                            have c20b0 : ((bt x6_9 (ji16)) == 46) = false := beq_eq_false_iff_ne.mpr c20
                            have c20b1 : ((bt x6_9 (ji16)) != 46) = true := bne_iff_ne.mpr c20
                            simp only [Option.some.injEq, Prod.mk.injEq] at H
                            obtain ⟨rfl, rfl⟩ := H
                            have p19 : 0 ≤ ((ji16) : Int) := of_decide_eq_true (by first | (with_reducible assumption) | assumption)
                            have q19 : (ji16) < (x6_9.size : Int) := of_decide_eq_true (by first | (with_reducible assumption) | assumption)
                            have hx19 := bt_at x6_9 (ji16)
                            replace p19 := eq_true p19
                            replace q19 := eq_true q19
                            go_wp2
                            repeat (go_quiet (fail); try go_wp2)
                            go_ret2
                            exact ⟨by first | rfl | (simp; done) | (simp only [← hji16] <;> (first | rfl | simp)) | (simp [*]; done), by repeat (first | exact Drawn0.refl _ | apply Drawn0.step)⟩
                        · rw [if_neg c18] at H
                          exact absurd H (by simp)
                      · rw [if_neg c17] at H
                        exact absurd H (by simp)
                  · rw [if_neg c14] at H
                    have c14b0 : decide (0 < a1) = false := decide_eq_false c14
                    clear c14
                    (first | rw [c14b0] | (simp only [i64_w, i32_w]; rw [c14b0]) | skip)
                    have H' := Aside0.mk H
                    clear H
                    go_wp2
                    repeat (go_quiet (fail); try go_wp2)
                    go_meet
                    case rel => exact ⟨_, (x6_9), ((⟨#[]⟩ : ByteArray)), (by first | rfl | (simp; done) | (simp [*]; done) | (simp; generalize ByteArray.toList _ = l_; cases l_ <;> rfl)), (by first | rfl | (simp; done) | (simp [*]; done) | (simp; generalize ByteArray.toList _ = l_; cases l_ <;> rfl)), H', ⟨by have := HJ2.out; have := HJ5.out; have := HJ9.out; first | omega | exact Nat.le_refl _⟩, by repeat (first | exact Drawn0.refl _ | apply Drawn0.step)⟩
                case rest =>
                  clear HC13
                  try clear c1
                  try clear p1
                  try clear q1
                  try clear hx1
                  try clear c2
                  try clear p2
                  try clear c4
                  try clear c4b0
                  try clear c5
                  try clear p6
                  try clear c7
                  try clear c7b0
                  try clear c7b1
                  try clear c8
                  try clear c8b0
                  try clear c8b1
                  try clear c9
                  try clear p9
                  try clear q9
                  try clear hx9
                  try clear qi9
                  try clear c11
                  try clear c12
                  try clear c12b0
                  try clear c12b1
                  try clear c14
                  try clear c14b0
                  try clear c15
                  try clear c15b0
                  try clear c17
                  try clear c17b0
                  try clear c18
                  try clear c18b0
                  try clear p19
                  try clear q19
                  try clear hx19
                  try clear c20
                  try clear c20b0
                  try clear c20b1
                  try clear c21
                  try clear c21b0
                  try clear c22
                  try clear c22b0
                  try clear c22b1
                  try clear c24
                  try clear c24b0
                  try clear c24b1
                  try clear c25
                  try clear c25b0
                  try clear c25b1
                  try clear p19
                  try clear p2
                  try clear p9
                  try clear q19
                  try clear q9
                  obtain ⟨kq, x6_12, x7_12, rfl, rfl, HA, HJ12, ⟨mc12, rfl⟩⟩ := hcut
                  cases kq with
                  | zero => exact absurd HA.out (by simp [accountingref07_Parse.j3])
                  | succ kj12 =>
                    have H := HA.out
                    clear HA
                    simp only [accountingref07_Parse.j3] at H
                    have HC26 := Aside0.mk H
                    clear H
                    go_upto_region 11 with (fail)
                    repeat (go_quiet (fail); go_upto_region 11 with (fail))
                    go_cut [72] (fun v72 wc => ∃ (kq : Nat) (x72_25 : Bool), v72 = .bool x72_25 ∧ Aside0 (accountingref07_Parse.j4 kq x6_12 x7_12 x8_9 x72_25 = some (r1, r2)) ∧ Aside0 (kq ≤ kj12) ∧ Drawn0 w wc)
                    case first =>
                      have H := HC26.out
                      clear HC26
                      replace H := Option.bind_eq_some_iff.mp H
                      obtain ⟨t176, A270, H⟩ := H
                      replace H : (if t176 = true then (if (x6_12.size : Int) > 1 then (if 0 < (x6_12.size : Int) then (if (bt x6_12 0) = 48 then (accountingref07_Parse.j4 kj12 x6_12 x7_12 x8_9 true) else (if a1 > 0 then ((accountingref01_Digits.f kj12 x7_12).bind fun t177 => (accountingref07_Parse.j4 kj12 x6_12 x7_12 x8_9 (!t177))) else (accountingref07_Parse.j4 kj12 x6_12 x7_12 x8_9 false))) else (none)) else (if a1 > 0 then ((accountingref01_Digits.f kj12 x7_12).bind fun t178 => (accountingref07_Parse.j4 kj12 x6_12 x7_12 x8_9 (!t178))) else (accountingref07_Parse.j4 kj12 x6_12 x7_12 x8_9 false))) else (accountingref07_Parse.j4 kj12 x6_12 x7_12 x8_9 true)) = some (r1, r2) := H
                      have A27 := Aside0.mk A270
                      clear A270
                      by_cases c28 : t176 = true
                      · subst c28
                        have H1 : (if (x6_12.size : Int) > 1 then (if 0 < (x6_12.size : Int) then (if (bt x6_12 0) = 48 then (accountingref07_Parse.j4 kj12 x6_12 x7_12 x8_9 true) else (if a1 > 0 then ((accountingref01_Digits.f kj12 x7_12).bind fun t177 => (accountingref07_Parse.j4 kj12 x6_12 x7_12 x8_9 (!t177))) else (accountingref07_Parse.j4 kj12 x6_12 x7_12 x8_9 false))) else (none)) else (if a1 > 0 then ((accountingref01_Digits.f kj12 x7_12).bind fun t178 => (accountingref07_Parse.j4 kj12 x6_12 x7_12 x8_9 (!t178))) else (accountingref07_Parse.j4 kj12 x6_12 x7_12 x8_9 false))) = some (r1, r2) := by rw [if_pos rfl] at H; exact H
                        clear H
                        have H := H1
                        clear H1
                        by_cases c29 : (x6_12.size : Int) > 1
                        · rw [if_pos c29] at H
                          have c29b0 : decide (1 < (x6_12.size : Int)) = true := decide_eq_true c29
                          have c29b1 : decide (1 < x6_12.size) = true := decide_eq_true (by omega)
                          clear c29
                          (first | rw [c29b0] | (simp only [i64_w, i32_w]; rw [c29b0]) | skip)
                          by_cases c30 : 0 < (x6_12.size : Int)
                          · rw [if_pos c30] at H
                            have c30b0 : decide (0 < (x6_12.size : Int)) = true := decide_eq_true c30
                            have c30b1 : decide (0 < x6_12.size) = true := decide_eq_true (by omega)
                            clear c30
                            by_cases c32 : (bt x6_12 0) = 48
                            · rw [if_pos c32] at H
                              have c32b0 : ((bt x6_12 0) == 48) = true := beq_iff_eq.mpr c32
                              have c32b1 : ((bt x6_12 0) != 48) = false := bne_eq_false_iff_eq.mpr c32
                              clear c32
                              have H' := Aside0.mk H
                              clear H
                              go_wp2_with (first | (go_at_call 35; (with_reducible refine (accountingref01_Digits.calls kj12 x6_12 true _ A27.out).mono ?_); rintro e w' ⟨rfl, ⟨nd, rfl⟩⟩; (try first | exact ⟨rfl, _, World.drewN_drewN _ _ _⟩ | exact ⟨rfl, _, Eq.trans (World.drewN_drewN _ _ _) (congrArg (World.drewN _) (Nat.add_assoc _ _ _))⟩); have p31 : 0 ≤ (0 : Int) := (by omega); have q31 : 0 < x6_12.size := (by have : (0 : Int) < (x6_12.size : Int) := of_decide_eq_true (by first | (with_reducible assumption) | assumption); omega); have hx31 : ∀ h : 0 < x6_12.size, ((x6_12[0]'h).toNat : Int) = bt x6_12 0 := bt_at x6_12 0; clear p31; have qi31 : (0 < (x6_12.size : Int)) = True := eq_true (of_decide_eq_true (by first | (with_reducible assumption) | assumption)); replace q31 := eq_true q31))
                              repeat (go_quiet (first | (go_at_call 35; (with_reducible refine (accountingref01_Digits.calls kj12 x6_12 true _ A27.out).mono ?_); rintro e w' ⟨rfl, ⟨nd, rfl⟩⟩; (try first | exact ⟨rfl, _, World.drewN_drewN _ _ _⟩ | exact ⟨rfl, _, Eq.trans (World.drewN_drewN _ _ _) (congrArg (World.drewN _) (Nat.add_assoc _ _ _))⟩); have p31 : 0 ≤ (0 : Int) := (by omega); have q31 : 0 < x6_12.size := (by have : (0 : Int) < (x6_12.size : Int) := of_decide_eq_true (by first | (with_reducible assumption) | assumption); omega); have hx31 : ∀ h : 0 < x6_12.size, ((x6_12[0]'h).toNat : Int) = bt x6_12 0 := bt_at x6_12 0; clear p31; have qi31 : (0 < (x6_12.size : Int)) = True := eq_true (of_decide_eq_true (by first | (with_reducible assumption) | assumption)); replace q31 := eq_true q31)); try go_wp2_with (first | (go_at_call 35; (with_reducible refine (accountingref01_Digits.calls kj12 x6_12 true _ A27.out).mono ?_); rintro e w' ⟨rfl, ⟨nd, rfl⟩⟩; (try first | exact ⟨rfl, _, World.drewN_drewN _ _ _⟩ | exact ⟨rfl, _, Eq.trans (World.drewN_drewN _ _ _) (congrArg (World.drewN _) (Nat.add_assoc _ _ _))⟩); have p31 : 0 ≤ (0 : Int) := (by omega); have q31 : 0 < x6_12.size := (by have : (0 : Int) < (x6_12.size : Int) := of_decide_eq_true (by first | (with_reducible assumption) | assumption); omega); have hx31 : ∀ h : 0 < x6_12.size, ((x6_12[0]'h).toNat : Int) = bt x6_12 0 := bt_at x6_12 0; clear p31; have qi31 : (0 < (x6_12.size : Int)) = True := eq_true (of_decide_eq_true (by first | (with_reducible assumption) | assumption)); replace q31 := eq_true q31)))
                              go_meet
                              case rel => exact ⟨_, (true), (by first | rfl | (simp; done) | (simp [*]; done) | (simp; generalize ByteArray.toList _ = l_; cases l_ <;> rfl)), H', ⟨by have := HJ2.out; have := HJ5.out; have := HJ9.out; have := HJ12.out; first | omega | exact Nat.le_refl _⟩, by repeat (first | exact Drawn0.refl _ | apply Drawn0.step)⟩
                            · rw [if_neg c32] at H
                              have c32b0 : ((bt x6_12 0) == 48) = false := beq_eq_false_iff_ne.mpr c32
                              have c32b1 : ((bt x6_12 0) != 48) = true := bne_iff_ne.mpr c32
                              by_cases c33 : a1 > 0
                              · rw [if_pos c33] at H
                                have c33b0 : decide (0 < a1) = true := decide_eq_true c33
                                clear c33
                                replace H := Option.bind_eq_some_iff.mp H
                                obtain ⟨t177, A340, H⟩ := H
                                replace H : (accountingref07_Parse.j4 kj12 x6_12 x7_12 x8_9 (!t177)) = some (r1, r2) := H
                                have A34 := Aside0.mk A340
                                clear A340
                                have H' := Aside0.mk H
                                clear H
                                go_wp2_with (first | (go_at_call 35; (with_reducible refine (accountingref01_Digits.calls kj12 x6_12 true _ A27.out).mono ?_); rintro e w' ⟨rfl, ⟨nd, rfl⟩⟩; (try first | exact ⟨rfl, _, World.drewN_drewN _ _ _⟩ | exact ⟨rfl, _, Eq.trans (World.drewN_drewN _ _ _) (congrArg (World.drewN _) (Nat.add_assoc _ _ _))⟩); have p31 : 0 ≤ (0 : Int) := (by omega); have q31 : 0 < x6_12.size := (by have : (0 : Int) < (x6_12.size : Int) := of_decide_eq_true (by first | (with_reducible assumption) | assumption); omega); have hx31 : ∀ h : 0 < x6_12.size, ((x6_12[0]'h).toNat : Int) = bt x6_12 0 := bt_at x6_12 0; clear p31; have qi31 : (0 < (x6_12.size : Int)) = True := eq_true (of_decide_eq_true (by first | (with_reducible assumption) | assumption)); replace q31 := eq_true q31) | (go_at_call 35; (with_reducible refine (accountingref01_Digits.calls kj12 x7_12 t177 _ A34.out).mono ?_); rintro e w' ⟨rfl, ⟨nd, rfl⟩⟩; (try first | exact ⟨rfl, _, World.drewN_drewN _ _ _⟩ | exact ⟨rfl, _, Eq.trans (World.drewN_drewN _ _ _) (congrArg (World.drewN _) (Nat.add_assoc _ _ _))⟩)))
                                repeat (go_quiet (first | (go_at_call 35; (with_reducible refine (accountingref01_Digits.calls kj12 x6_12 true _ A27.out).mono ?_); rintro e w' ⟨rfl, ⟨nd, rfl⟩⟩; (try first | exact ⟨rfl, _, World.drewN_drewN _ _ _⟩ | exact ⟨rfl, _, Eq.trans (World.drewN_drewN _ _ _) (congrArg (World.drewN _) (Nat.add_assoc _ _ _))⟩); have p31 : 0 ≤ (0 : Int) := (by omega); have q31 : 0 < x6_12.size := (by have : (0 : Int) < (x6_12.size : Int) := of_decide_eq_true (by first | (with_reducible assumption) | assumption); omega); have hx31 : ∀ h : 0 < x6_12.size, ((x6_12[0]'h).toNat : Int) = bt x6_12 0 := bt_at x6_12 0; clear p31; have qi31 : (0 < (x6_12.size : Int)) = True := eq_true (of_decide_eq_true (by first | (with_reducible assumption) | assumption)); replace q31 := eq_true q31) | (go_at_call 35; (with_reducible refine (accountingref01_Digits.calls kj12 x7_12 t177 _ A34.out).mono ?_); rintro e w' ⟨rfl, ⟨nd, rfl⟩⟩; (try first | exact ⟨rfl, _, World.drewN_drewN _ _ _⟩ | exact ⟨rfl, _, Eq.trans (World.drewN_drewN _ _ _) (congrArg (World.drewN _) (Nat.add_assoc _ _ _))⟩))); try go_wp2_with (first | (go_at_call 35; (with_reducible refine (accountingref01_Digits.calls kj12 x6_12 true _ A27.out).mono ?_); rintro e w' ⟨rfl, ⟨nd, rfl⟩⟩; (try first | exact ⟨rfl, _, World.drewN_drewN _ _ _⟩ | exact ⟨rfl, _, Eq.trans (World.drewN_drewN _ _ _) (congrArg (World.drewN _) (Nat.add_assoc _ _ _))⟩); have p31 : 0 ≤ (0 : Int) := (by omega); have q31 : 0 < x6_12.size := (by have : (0 : Int) < (x6_12.size : Int) := of_decide_eq_true (by first | (with_reducible assumption) | assumption); omega); have hx31 : ∀ h : 0 < x6_12.size, ((x6_12[0]'h).toNat : Int) = bt x6_12 0 := bt_at x6_12 0; clear p31; have qi31 : (0 < (x6_12.size : Int)) = True := eq_true (of_decide_eq_true (by first | (with_reducible assumption) | assumption)); replace q31 := eq_true q31) | (go_at_call 35; (with_reducible refine (accountingref01_Digits.calls kj12 x7_12 t177 _ A34.out).mono ?_); rintro e w' ⟨rfl, ⟨nd, rfl⟩⟩; (try first | exact ⟨rfl, _, World.drewN_drewN _ _ _⟩ | exact ⟨rfl, _, Eq.trans (World.drewN_drewN _ _ _) (congrArg (World.drewN _) (Nat.add_assoc _ _ _))⟩))))
                                go_meet
                                case rel => exact ⟨_, (!t177), (by first | rfl | (simp; done) | (simp [*]; done) | (simp; generalize ByteArray.toList _ = l_; cases l_ <;> rfl)), H', ⟨by have := HJ2.out; have := HJ5.out; have := HJ9.out; have := HJ12.out; first | omega | exact Nat.le_refl _⟩, by repeat (first | exact Drawn0.refl _ | apply Drawn0.step)⟩
                              · rw [if_neg c33] at H
                                have c33b0 : decide (0 < a1) = false := decide_eq_false c33
                                clear c33
                                have H' := Aside0.mk H
                                clear H
                                go_wp2_with (first | (go_at_call 35; (with_reducible refine (accountingref01_Digits.calls kj12 x6_12 true _ A27.out).mono ?_); rintro e w' ⟨rfl, ⟨nd, rfl⟩⟩; (try first | exact ⟨rfl, _, World.drewN_drewN _ _ _⟩ | exact ⟨rfl, _, Eq.trans (World.drewN_drewN _ _ _) (congrArg (World.drewN _) (Nat.add_assoc _ _ _))⟩); have p31 : 0 ≤ (0 : Int) := (by omega); have q31 : 0 < x6_12.size := (by have : (0 : Int) < (x6_12.size : Int) := of_decide_eq_true (by first | (with_reducible assumption) | assumption); omega); have hx31 : ∀ h : 0 < x6_12.size, ((x6_12[0]'h).toNat : Int) = bt x6_12 0 := bt_at x6_12 0; clear p31; have qi31 : (0 < (x6_12.size : Int)) = True := eq_true (of_decide_eq_true (by first | (with_reducible assumption) | assumption)); replace q31 := eq_true q31))
                                repeat (go_quiet (first | (go_at_call 35; (with_reducible refine (accountingref01_Digits.calls kj12 x6_12 true _ A27.out).mono ?_); rintro e w' ⟨rfl, ⟨nd, rfl⟩⟩; (try first | exact ⟨rfl, _, World.drewN_drewN _ _ _⟩ | exact ⟨rfl, _, Eq.trans (World.drewN_drewN _ _ _) (congrArg (World.drewN _) (Nat.add_assoc _ _ _))⟩); have p31 : 0 ≤ (0 : Int) := (by omega); have q31 : 0 < x6_12.size := (by have : (0 : Int) < (x6_12.size : Int) := of_decide_eq_true (by first | (with_reducible assumption) | assumption); omega); have hx31 : ∀ h : 0 < x6_12.size, ((x6_12[0]'h).toNat : Int) = bt x6_12 0 := bt_at x6_12 0; clear p31; have qi31 : (0 < (x6_12.size : Int)) = True := eq_true (of_decide_eq_true (by first | (with_reducible assumption) | assumption)); replace q31 := eq_true q31)); try go_wp2_with (first | (go_at_call 35; (with_reducible refine (accountingref01_Digits.calls kj12 x6_12 true _ A27.out).mono ?_); rintro e w' ⟨rfl, ⟨nd, rfl⟩⟩; (try first | exact ⟨rfl, _, World.drewN_drewN _ _ _⟩ | exact ⟨rfl, _, Eq.trans (World.drewN_drewN _ _ _) (congrArg (World.drewN _) (Nat.add_assoc _ _ _))⟩); have p31 : 0 ≤ (0 : Int) := (by omega); have q31 : 0 < x6_12.size := (by have : (0 : Int) < (x6_12.size : Int) := of_decide_eq_true (by first | (with_reducible assumption) | assumption); omega); have hx31 : ∀ h : 0 < x6_12.size, ((x6_12[0]'h).toNat : Int) = bt x6_12 0 := bt_at x6_12 0; clear p31; have qi31 : (0 < (x6_12.size : Int)) = True := eq_true (of_decide_eq_true (by first | (with_reducible assumption) | assumption)); replace q31 := eq_true q31)))
                                go_meet
                                case rel => exact ⟨_, (false), (by first | rfl | (simp; done) | (simp [*]; done) | (simp; generalize ByteArray.toList _ = l_; cases l_ <;> rfl)), H', ⟨by have := HJ2.out; have := HJ5.out; have := HJ9.out; have := HJ12.out; first | omega | exact Nat.le_refl _⟩, by repeat (first | exact Drawn0.refl _ | apply Drawn0.step)⟩
                          · rw [if_neg c30] at H
                            exact absurd H (by simp)
                        · rw [if_neg c29] at H
                          have c29b0 : decide (1 < (x6_12.size : Int)) = false := decide_eq_false c29
                          have c29b1 : decide (1 < x6_12.size) = false := decide_eq_false (by omega)
                          clear c29
                          (first | rw [c29b0] | (simp only [i64_w, i32_w]; rw [c29b0]) | skip)
                          by_cases c35 : a1 > 0
                          · rw [if_pos c35] at H
                            have c35b0 : decide (0 < a1) = true := decide_eq_true c35
                            clear c35
                            replace H := Option.bind_eq_some_iff.mp H
                            obtain ⟨t178, A360, H⟩ := H
                            replace H : (accountingref07_Parse.j4 kj12 x6_12 x7_12 x8_9 (!t178)) = some (r1, r2) := H
                            have A36 := Aside0.mk A360
                            clear A360
                            have H' := Aside0.mk H
                            clear H
                            go_wp2_with (first | (go_at_call 35; (with_reducible refine (accountingref01_Digits.calls kj12 x6_12 true _ A27.out).mono ?_); rintro e w' ⟨rfl, ⟨nd, rfl⟩⟩; (try first | exact ⟨rfl, _, World.drewN_drewN _ _ _⟩ | exact ⟨rfl, _, Eq.trans (World.drewN_drewN _ _ _) (congrArg (World.drewN _) (Nat.add_assoc _ _ _))⟩)) | (go_at_call 35; (with_reducible refine (accountingref01_Digits.calls kj12 x7_12 t178 _ A36.out).mono ?_); rintro e w' ⟨rfl, ⟨nd, rfl⟩⟩; (try first | exact ⟨rfl, _, World.drewN_drewN _ _ _⟩ | exact ⟨rfl, _, Eq.trans (World.drewN_drewN _ _ _) (congrArg (World.drewN _) (Nat.add_assoc _ _ _))⟩)))
                            repeat (go_quiet (first | (go_at_call 35; (with_reducible refine (accountingref01_Digits.calls kj12 x6_12 true _ A27.out).mono ?_); rintro e w' ⟨rfl, ⟨nd, rfl⟩⟩; (try first | exact ⟨rfl, _, World.drewN_drewN _ _ _⟩ | exact ⟨rfl, _, Eq.trans (World.drewN_drewN _ _ _) (congrArg (World.drewN _) (Nat.add_assoc _ _ _))⟩)) | (go_at_call 35; (with_reducible refine (accountingref01_Digits.calls kj12 x7_12 t178 _ A36.out).mono ?_); rintro e w' ⟨rfl, ⟨nd, rfl⟩⟩; (try first | exact ⟨rfl, _, World.drewN_drewN _ _ _⟩ | exact ⟨rfl, _, Eq.trans (World.drewN_drewN _ _ _) (congrArg (World.drewN _) (Nat.add_assoc _ _ _))⟩))); try go_wp2_with (first | (go_at_call 35; (with_reducible refine (accountingref01_Digits.calls kj12 x6_12 true _ A27.out).mono ?_); rintro e w' ⟨rfl, ⟨nd, rfl⟩⟩; (try first | exact ⟨rfl, _, World.drewN_drewN _ _ _⟩ | exact ⟨rfl, _, Eq.trans (World.drewN_drewN _ _ _) (congrArg (World.drewN _) (Nat.add_assoc _ _ _))⟩)) | (go_at_call 35; (with_reducible refine (accountingref01_Digits.calls kj12 x7_12 t178 _ A36.out).mono ?_); rintro e w' ⟨rfl, ⟨nd, rfl⟩⟩; (try first | exact ⟨rfl, _, World.drewN_drewN _ _ _⟩ | exact ⟨rfl, _, Eq.trans (World.drewN_drewN _ _ _) (congrArg (World.drewN _) (Nat.add_assoc _ _ _))⟩))))
                            go_meet
                            case rel => exact ⟨_, (!t178), (by first | rfl | (simp; done) | (simp [*]; done) | (simp; generalize ByteArray.toList _ = l_; cases l_ <;> rfl)), H', ⟨by have := HJ2.out; have := HJ5.out; have := HJ9.out; have := HJ12.out; first | omega | exact Nat.le_refl _⟩, by repeat (first | exact Drawn0.refl _ | apply Drawn0.step)⟩
                          · rw [if_neg c35] at H
                            have c35b0 : decide (0 < a1) = false := decide_eq_false c35
                            clear c35
                            have H' := Aside0.mk H
                            clear H
                            go_wp2_with (first | (go_at_call 35; (with_reducible refine (accountingref01_Digits.calls kj12 x6_12 true _ A27.out).mono ?_); rintro e w' ⟨rfl, ⟨nd, rfl⟩⟩; (try first | exact ⟨rfl, _, World.drewN_drewN _ _ _⟩ | exact ⟨rfl, _, Eq.trans (World.drewN_drewN _ _ _) (congrArg (World.drewN _) (Nat.add_assoc _ _ _))⟩)))
                            repeat (go_quiet (first | (go_at_call 35; (with_reducible refine (accountingref01_Digits.calls kj12 x6_12 true _ A27.out).mono ?_); rintro e w' ⟨rfl, ⟨nd, rfl⟩⟩; (try first | exact ⟨rfl, _, World.drewN_drewN _ _ _⟩ | exact ⟨rfl, _, Eq.trans (World.drewN_drewN _ _ _) (congrArg (World.drewN _) (Nat.add_assoc _ _ _))⟩))); try go_wp2_with (first | (go_at_call 35; (with_reducible refine (accountingref01_Digits.calls kj12 x6_12 true _ A27.out).mono ?_); rintro e w' ⟨rfl, ⟨nd, rfl⟩⟩; (try first | exact ⟨rfl, _, World.drewN_drewN _ _ _⟩ | exact ⟨rfl, _, Eq.trans (World.drewN_drewN _ _ _) (congrArg (World.drewN _) (Nat.add_assoc _ _ _))⟩))))
                            go_meet
                            case rel => exact ⟨_, (false), (by first | rfl | (simp; done) | (simp [*]; done) | (simp; generalize ByteArray.toList _ = l_; cases l_ <;> rfl)), H', ⟨by have := HJ2.out; have := HJ5.out; have := HJ9.out; have := HJ12.out; first | omega | exact Nat.le_refl _⟩, by repeat (first | exact Drawn0.refl _ | apply Drawn0.step)⟩
                      · replace c28 := Bool.eq_false_iff.mpr c28
                        subst c28
                        have H1 : (accountingref07_Parse.j4 kj12 x6_12 x7_12 x8_9 true) = some (r1, r2) := by rw [if_neg (show ¬ (false = true) by decide)] at H; exact H
                        clear H
                        have H := H1
                        clear H1
                        have H' := Aside0.mk H
                        clear H
                        go_wp2_with (first | (go_at_call 35; (with_reducible refine (accountingref01_Digits.calls kj12 x6_12 false _ A27.out).mono ?_); rintro e w' ⟨rfl, ⟨nd, rfl⟩⟩; (try first | exact ⟨rfl, _, World.drewN_drewN _ _ _⟩ | exact ⟨rfl, _, Eq.trans (World.drewN_drewN _ _ _) (congrArg (World.drewN _) (Nat.add_assoc _ _ _))⟩)))
                        repeat (go_quiet (first | (go_at_call 35; (with_reducible refine (accountingref01_Digits.calls kj12 x6_12 false _ A27.out).mono ?_); rintro e w' ⟨rfl, ⟨nd, rfl⟩⟩; (try first | exact ⟨rfl, _, World.drewN_drewN _ _ _⟩ | exact ⟨rfl, _, Eq.trans (World.drewN_drewN _ _ _) (congrArg (World.drewN _) (Nat.add_assoc _ _ _))⟩))); try go_wp2_with (first | (go_at_call 35; (with_reducible refine (accountingref01_Digits.calls kj12 x6_12 false _ A27.out).mono ?_); rintro e w' ⟨rfl, ⟨nd, rfl⟩⟩; (try first | exact ⟨rfl, _, World.drewN_drewN _ _ _⟩ | exact ⟨rfl, _, Eq.trans (World.drewN_drewN _ _ _) (congrArg (World.drewN _) (Nat.add_assoc _ _ _))⟩))))
                        go_meet
                        case rel => exact ⟨_, (true), (by first | rfl | (simp; done) | (simp [*]; done) | (simp; generalize ByteArray.toList _ = l_; cases l_ <;> rfl)), H', ⟨by have := HJ2.out; have := HJ5.out; have := HJ9.out; have := HJ12.out; first | omega | exact Nat.le_refl _⟩, by repeat (first | exact Drawn0.refl _ | apply Drawn0.step)⟩
                    case rest =>
                      clear HC26
                      try clear c1
                      try clear p1
                      try clear q1
                      try clear hx1
                      try clear c2
                      try clear p2
                      try clear c3
                      try clear p3
                      try clear q3
                      try clear hx3
                      try clear qi3
                      try clear c4
                      try clear c4b0
                      try clear c5
                      try clear p6
                      try clear c7
                      try clear c7b0
                      try clear c7b1
                      try clear c8
                      try clear c8b0
                      try clear c8b1
                      try clear c9
                      try clear p9
                      try clear q9
                      try clear hx9
                      try clear qi9
                      try clear c11
                      try clear c12
                      try clear c12b0
                      try clear c12b1
                      try clear c14
                      try clear c14b0
                      try clear c15
                      try clear c15b0
                      try clear c17
                      try clear c17b0
                      try clear c18
                      try clear c18b0
                      try clear p19
                      try clear q19
                      try clear hx19
                      try clear c20
                      try clear c20b0
                      try clear c20b1
                      try clear c21
                      try clear c21b0
                      try clear c22
                      try clear c22b0
                      try clear c22b1
                      try clear c24
                      try clear c24b0
                      try clear c24b1
                      try clear c25
                      try clear c25b0
                      try clear c25b1
                      try clear c28
                      try clear c29
                      try clear c29b0
                      try clear c29b1
                      try clear c30
                      try clear c30b0
                      try clear c30b1
                      try clear p31
                      try clear q31
                      try clear hx31
                      try clear qi31
                      try clear c32
                      try clear c32b0
                      try clear c32b1
                      try clear c33
                      try clear c33b0
                      try clear c35
                      try clear c35b0
                      try clear p1
                      try clear p19
                      try clear p2
                      try clear p31
                      try clear p6
                      try clear p9
                      try clear q1
                      try clear q19
                      try clear q31
                      try clear q9
                      obtain ⟨kq, x72_25, rfl, HA, HJ25, ⟨mc25, rfl⟩⟩ := hcut
                      cases kq with
                      | zero => exact absurd HA.out (by simp [accountingref07_Parse.j4])
                      | succ kj25 =>
                        have H := HA.out
                        clear HA
                        simp only [accountingref07_Parse.j4] at H
                        by_cases c37 : x72_25 = true
                        · subst c37
                          have H1 : (some (0, 5)) = some (r1, r2) := by rw [if_pos rfl] at H; exact H
                          clear H
                          have H := H1
                          clear H1
                          simp only [Option.some.injEq, Prod.mk.injEq] at H
                          obtain ⟨rfl, rfl⟩ := H
                          go_wp2
                          repeat (go_quiet (fail); try go_wp2)
                          go_ret2
                          exact ⟨by first | rfl | (simp; done) | (simp [*]; done) | (simp; generalize ByteArray.toList _ = l_; cases l_ <;> rfl), by repeat (first | exact Drawn0.refl _ | apply Drawn0.step)⟩
                        · replace c37 := Bool.eq_false_iff.mpr c37
                          subst c37
                          have H1 : (if x6_12.size + x7_12.size ≤ 9223372036854775807 then (accountingref07_Parse.l0 kj25 x8_9 (x6_12 ++ x7_12)) else (none)) = some (r1, r2) := by rw [if_neg (show ¬ (false = true) by decide)] at H; exact H
                          clear H
                          have H := H1
                          clear H1
                          by_cases c38 : x6_12.size + x7_12.size ≤ 9223372036854775807
                          · rw [if_pos c38] at H
                            have c38b0 := eq_true c38
                            have c38b1 : decide (x6_12.size + x7_12.size ≤ 9223372036854775807) = true := decide_eq_true c38
                            try have c38b2 : (9223372036854775807 < x6_12.size + x7_12.size) = False := eq_false (Nat.not_lt.2 c38)
                            have HC39 := Aside0.mk H
                            clear H
                            go_upto_block 0 with (fail)
                            repeat (go_quiet (fail); go_upto_block 0 with (fail))
                            go_cut [10] (fun v10 wc => ∃ (kq : Nat) (x10_38 : ByteArray), v10 = .string x10_38 ∧ Aside0 (accountingref07_Parse.j6 kq x8_9 x10_38 = some (r1, r2)) ∧ Aside0 (kq ≤ kj25) ∧ Drawn0 w wc)
                            case first =>
                              have H := HC39.out
                              clear HC39
                              have H' := Aside0.mk H
                              clear H
                              go_wp2
                              repeat (go_quiet (fail); try go_wp2)
                              go_loopg [10] kj25 (fun kq v10 w' => ∃ (x10_6 : ByteArray), v10 = .string x10_6 ∧ Aside0 (accountingref07_Parse.l0 kq x8_9 x10_6 = some (r1, r2)) ∧ Aside0 (kq ≤ kj25) ∧ Drawn0 w w')
                              case atStart => exact ⟨(x6_12 ++ x7_12), (by first | rfl | (simp; done) | (simp [*]; done) | (simp; generalize ByteArray.toList _ = l_; cases l_ <;> rfl)), H', ⟨Nat.le_refl _⟩, by repeat (first | exact Drawn0.refl _ | apply Drawn0.step)⟩
                              case round =>
                                clear H'
                                try clear c1
                                try clear p1
                                try clear q1
                                try clear hx1
                                try clear c2
                                try clear p2
                                try clear c3
                                try clear p3
                                try clear q3
                                try clear hx3
                                try clear qi3
                                try clear c4
                                try clear c4b0
                                try clear c5
                                try clear p6
                                try clear c7
                                try clear c7b0
                                try clear c7b1
                                try clear c8
                                try clear c8b0
                                try clear c8b1
                                try clear c9
                                try clear p9
                                try clear q9
                                try clear hx9
                                try clear qi9
                                try clear c11
                                try clear c12
                                try clear c12b0
                                try clear c12b1
                                try clear c14
                                try clear c14b0
                                try clear c15
                                try clear c15b0
                                try clear c17
                                try clear c17b0
                                try clear c18
                                try clear c18b0
                                try clear p19
                                try clear q19
                                try clear hx19
                                try clear c20
                                try clear c20b0
                                try clear c20b1
                                try clear c21
                                try clear c21b0
                                try clear c22
                                try clear c22b0
                                try clear c22b1
                                try clear c24
                                try clear c24b0
                                try clear c24b1
                                try clear c25
                                try clear c25b0
                                try clear c25b1
                                try clear c28
                                try clear c29
                                try clear c29b0
                                try clear c29b1
                                try clear c30
                                try clear c30b0
                                try clear c30b1
                                try clear p31
                                try clear q31
                                try clear hx31
                                try clear qi31
                                try clear c32
                                try clear c32b0
                                try clear c32b1
                                try clear c33
                                try clear c33b0
                                try clear c35
                                try clear c35b0
                                try clear c37
                                try clear c38
                                try clear c38b0
                                try clear c38b1
                                try clear c38b2
                                try clear p1
                                try clear p19
                                try clear p2
                                try clear p3
                                try clear p31
                                try clear p6
                                try clear p9
                                try clear q1
                                try clear q19
                                try clear q3
                                try clear q31
                                try clear q9
                                obtain ⟨x10_6, rfl, HA, HK6, ⟨m6, rfl⟩⟩ := hrel
                                cases gk with
                                | zero => exact absurd HA.out (by simp [accountingref07_Parse.l0])
                                | succ k6 =>
                                  have H := HA.out
                                  clear HA
                                  simp only [accountingref07_Parse.l0] at H
                                  by_cases c40 : (x10_6.size : Int) > 1
                                  · rw [if_pos c40] at H
                                    have c40b0 : decide (1 < (x10_6.size : Int)) = true := decide_eq_true c40
                                    have c40b1 : decide (1 < x10_6.size) = true := decide_eq_true (by omega)
                                    clear c40
                                    (first | rw [c40b0] | (simp only [i64_w, i32_w]; rw [c40b0]) | skip)
                                    by_cases c41 : 0 < (x10_6.size : Int)
                                    · rw [if_pos c41] at H
                                      have c41b0 : decide (0 < (x10_6.size : Int)) = true := decide_eq_true c41
                                      have c41b1 : decide (0 < x10_6.size) = true := decide_eq_true (by omega)
                                      clear c41
                                      by_cases c43 : (bt x10_6 0) = 48
                                      · rw [if_pos c43] at H
                                        have c43b0 : ((bt x10_6 0) == 48) = true := beq_iff_eq.mpr c43
                                        have c43b1 : ((bt x10_6 0) != 48) = false := bne_eq_false_iff_eq.mpr c43
                                        clear c43
                                        by_cases c44 : 1 ≤ (x10_6.size : Int)
                                        · rw [if_pos c44] at H
                                          have c44b0 := eq_true c44
                                          have c44b1 : decide (1 ≤ (x10_6.size : Int)) = true := decide_eq_true c44
                                          clear c44
                                          have H' := Aside0.mk H
                                          clear H
                                          have p42 : 0 ≤ (0 : Int) := (by omega)
                                          have q42 : 0 < x10_6.size := (by have : (0 : Int) < (x10_6.size : Int) := of_decide_eq_true (by first | (with_reducible assumption) | assumption); omega)
                                          have hx42 : ∀ h : 0 < x10_6.size, ((x10_6[0]'h).toNat : Int) = bt x10_6 0 := bt_at x10_6 0
                                          clear p42
                                          have qi42 : (0 < (x10_6.size : Int)) = True := eq_true (of_decide_eq_true (by first | (with_reducible assumption) | assumption))
                                          replace q42 := eq_true q42
                                          go_wp2
                                          repeat (go_quiet (fail); try go_wp2)
                                          go_roundg k6
                                          case measure => have := HJ2.out; have := HJ5.out; have := HJ9.out; have := HJ12.out; have := HJ25.out; have := HK6.out; omega
                                          case rel => exact ⟨(x10_6.extract 1 x10_6.size), (by first | rfl | (simp; done) | (simp [*]; done) | (simp; generalize ByteArray.toList _ = l_; cases l_ <;> rfl)), H', ⟨by have := HJ2.out; have := HJ5.out; have := HJ9.out; have := HJ12.out; have := HJ25.out; have := HK6.out; omega⟩, by repeat (first | exact Drawn0.refl _ | apply Drawn0.step)⟩
                                        · rw [if_neg c44] at H
                                          exact absurd H (by simp)
                                      · rw [if_neg c43] at H
                                        have c43b0 : ((bt x10_6 0) == 48) = false := beq_eq_false_iff_ne.mpr c43
                                        have c43b1 : ((bt x10_6 0) != 48) = true := bne_iff_ne.mpr c43
                                        have H' := Aside0.mk H
                                        clear H
                                        have p42 : 0 ≤ (0 : Int) := (by omega)
                                        have q42 : 0 < x10_6.size := (by have : (0 : Int) < (x10_6.size : Int) := of_decide_eq_true (by first | (with_reducible assumption) | assumption); omega)
                                        have hx42 : ∀ h : 0 < x10_6.size, ((x10_6[0]'h).toNat : Int) = bt x10_6 0 := bt_at x10_6 0
                                        clear p42
                                        have qi42 : (0 < (x10_6.size : Int)) = True := eq_true (of_decide_eq_true (by first | (with_reducible assumption) | assumption))
                                        replace q42 := eq_true q42
                                        go_wp2
                                        repeat (go_quiet (fail); try go_wp2)
                                        go_meet
                                        case rel => exact ⟨_, (x10_6), (by first | rfl | (simp; done) | (simp [*]; done) | (simp; generalize ByteArray.toList _ = l_; cases l_ <;> rfl)), H', ⟨by have := HJ2.out; have := HJ5.out; have := HJ9.out; have := HJ12.out; have := HJ25.out; have := HK6.out; first | omega | exact Nat.le_refl _⟩, by repeat (first | exact Drawn0.refl _ | apply Drawn0.step)⟩
                                    · rw [if_neg c41] at H
                                      exact absurd H (by simp)
                                  · rw [if_neg c40] at H
                                    have c40b0 : decide (1 < (x10_6.size : Int)) = false := decide_eq_false c40
                                    have c40b1 : decide (1 < x10_6.size) = false := decide_eq_false (by omega)
                                    clear c40
                                    (first | rw [c40b0] | (simp only [i64_w, i32_w]; rw [c40b0]) | skip)
                                    have H' := Aside0.mk H
                                    clear H
                                    go_wp2
                                    repeat (go_quiet (fail); try go_wp2)
                                    go_meet
                                    case rel => exact ⟨_, (x10_6), (by first | rfl | (simp; done) | (simp [*]; done) | (simp; generalize ByteArray.toList _ = l_; cases l_ <;> rfl)), H', ⟨by have := HJ2.out; have := HJ5.out; have := HJ9.out; have := HJ12.out; have := HJ25.out; have := HK6.out; first | omega | exact Nat.le_refl _⟩, by repeat (first | exact Drawn0.refl _ | apply Drawn0.step)⟩
                            case rest =>
                              clear HC39
                              try clear c1
                              try clear p1
                              try clear q1
                              try clear hx1
                              try clear c2
                              try clear p2
                              try clear c3
                              try clear p3
                              try clear q3
                              try clear hx3
                              try clear qi3
                              try clear c4
                              try clear c4b0
                              try clear p4
                              try clear q4
                              try clear hx4
                              try clear qi4
                              try clear c5
                              try clear p6
                              try clear c7
                              try clear c7b0
                              try clear c7b1
                              try clear c8
                              try clear c8b0
                              try clear c8b1
                              try clear c9
                              try clear p9
                              try clear q9
                              try clear hx9
                              try clear qi9
                              try clear c11
                              try clear c12
                              try clear c12b0
                              try clear c12b1
                              try clear c14
                              try clear c14b0
                              try clear c15
                              try clear c15b0
                              try clear c17
                              try clear c17b0
                              try clear c18
                              try clear c18b0
                              try clear p19
                              try clear q19
                              try clear hx19
                              try clear c20
                              try clear c20b0
                              try clear c20b1
                              try clear c21
                              try clear c21b0
                              try clear c22
                              try clear c22b0
                              try clear c22b1
                              try clear c24
                              try clear c24b0
                              try clear c24b1
                              try clear c25
                              try clear c25b0
                              try clear c25b1
                              try clear c28
                              try clear c29
                              try clear c29b0
                              try clear c29b1
                              try clear c30
                              try clear c30b0
                              try clear c30b1
                              try clear p31
                              try clear q31
                              try clear hx31
                              try clear qi31
                              try clear c32
                              try clear c32b0
                              try clear c32b1
                              try clear c33
                              try clear c33b0
                              try clear c35
                              try clear c35b0
                              try clear c37
                              try clear c38
                              try clear c38b0
                              try clear c38b1
                              try clear c38b2
                              try clear c40
                              try clear c40b0
                              try clear c40b1
                              try clear c41
                              try clear c41b0
                              try clear c41b1
                              try clear p42
                              try clear q42
                              try clear hx42
                              try clear qi42
                              try clear c43
                              try clear c43b0
                              try clear c43b1
                              try clear c44
                              try clear c44b0
                              try clear c44b1
                              try clear p1
                              try clear p19
                              try clear p2
                              try clear p3
                              try clear p31
                              try clear p42
                              try clear p6
                              try clear p9
                              try clear q1
                              try clear q19
                              try clear q3
                              try clear q31
                              try clear q42
                              try clear q9
                              obtain ⟨kq, x10_38, rfl, HA, HJ38, ⟨mc38, rfl⟩⟩ := hcut
                              cases kq with
                              | zero => exact absurd HA.out (by simp [accountingref07_Parse.j6])
                              | succ kj38 =>
                                have H := HA.out
                                clear HA
                                simp only [accountingref07_Parse.j6] at H
                                have HC45 := Aside0.mk H
                                clear H
                                go_upto_region 16 with (fail)
                                repeat (go_quiet (fail); go_upto_region 16 with (fail))
                                go_cut [91] (fun v91 wc => ∃ (kq : Nat) (x91_44 : Bool), v91 = .bool x91_44 ∧ Aside0 (accountingref07_Parse.j7 kq x8_9 x10_38 x91_44 = some (r1, r2)) ∧ Aside0 (kq ≤ kj38) ∧ Drawn0 w wc)
                                case first =>
                                  have H := HC45.out
                                  clear HC45
                                  by_cases c46 : x8_9.toList = ([45] : List UInt8)
                                  · rw [if_pos c46] at H
                                    have c46b0 : (x8_9.toList == ([45] : List UInt8)) = true := beq_iff_eq.mpr c46
                                    have c46b1 : (x8_9.toList != ([45] : List UInt8)) = false := bne_eq_false_iff_eq.mpr c46
                                    clear c46
                                    (first | rw [c46b0] | (simp only [i64_w, i32_w]; rw [c46b0]) | skip)
                                    have H' := Aside0.mk H
                                    clear H
                                    go_wp2
                                    repeat (go_quiet (fail); try go_wp2)
                                    go_meet
                                    case rel => exact ⟨_, ((x10_38.toList == ([48] : List UInt8))), (by first | rfl | (simp; done) | (simp [*]; done) | (simp; generalize ByteArray.toList _ = l_; cases l_ <;> rfl)), H', ⟨by have := HJ2.out; have := HJ5.out; have := HJ9.out; have := HJ12.out; have := HJ25.out; have := HJ38.out; first | omega | exact Nat.le_refl _⟩, by repeat (first | exact Drawn0.refl _ | apply Drawn0.step)⟩
                                  · rw [if_neg c46] at H
                                    have c46b0 : (x8_9.toList == ([45] : List UInt8)) = false := beq_eq_false_iff_ne.mpr c46
                                    have c46b1 : (x8_9.toList != ([45] : List UInt8)) = true := bne_iff_ne.mpr c46
                                    (first | rw [c46b0] | (simp only [i64_w, i32_w]; rw [c46b0]) | skip)
                                    have H' := Aside0.mk H
                                    clear H
                                    go_wp2
                                    repeat (go_quiet (fail); try go_wp2)
                                    go_meet
                                    case rel => exact ⟨_, (false), (by first | rfl | (simp; done) | (simp [*]; done) | (simp; generalize ByteArray.toList _ = l_; cases l_ <;> rfl)), H', ⟨by have := HJ2.out; have := HJ5.out; have := HJ9.out; have := HJ12.out; have := HJ25.out; have := HJ38.out; first | omega | exact Nat.le_refl _⟩, by repeat (first | exact Drawn0.refl _ | apply Drawn0.step)⟩
                                case rest =>
                                  clear HC45
                                  try clear c1
                                  try clear p1
                                  try clear q1
                                  try clear hx1
                                  try clear c2
                                  try clear p2
                                  try clear c3
                                  try clear p3
                                  try clear q3
                                  try clear hx3
                                  try clear qi3
                                  try clear c4
                                  try clear c4b0
                                  try clear p4
                                  try clear q4
                                  try clear hx4
                                  try clear qi4
                                  try clear c5
                                  try clear p6
                                  try clear c7
                                  try clear c7b0
                                  try clear c7b1
                                  try clear c8
                                  try clear c8b0
                                  try clear c8b1
                                  try clear c9
                                  try clear p9
                                  try clear q9
                                  try clear hx9
                                  try clear qi9
                                  try clear c11
                                  try clear c12
                                  try clear c12b0
                                  try clear c12b1
                                  try clear c14
                                  try clear c14b0
                                  try clear c15
                                  try clear c15b0
                                  try clear c17
                                  try clear c17b0
                                  try clear c18
                                  try clear c18b0
                                  try clear p19
                                  try clear q19
                                  try clear hx19
                                  try clear c20
                                  try clear c20b0
                                  try clear c20b1
                                  try clear c21
                                  try clear c21b0
                                  try clear c22
                                  try clear c22b0
                                  try clear c22b1
                                  try clear c24
                                  try clear c24b0
                                  try clear c24b1
                                  try clear c25
                                  try clear c25b0
                                  try clear c25b1
                                  try clear c28
                                  try clear c29
                                  try clear c29b0
                                  try clear c29b1
                                  try clear c30
                                  try clear c30b0
                                  try clear c30b1
                                  try clear p31
                                  try clear q31
                                  try clear hx31
                                  try clear qi31
                                  try clear c32
                                  try clear c32b0
                                  try clear c32b1
                                  try clear c33
                                  try clear c33b0
                                  try clear c35
                                  try clear c35b0
                                  try clear c37
                                  try clear c38
                                  try clear c38b0
                                  try clear c38b1
                                  try clear c38b2
                                  try clear c40
                                  try clear c40b0
                                  try clear c40b1
                                  try clear c41
                                  try clear c41b0
                                  try clear c41b1
                                  try clear p42
                                  try clear q42
                                  try clear hx42
                                  try clear qi42
                                  try clear c43
                                  try clear c43b0
                                  try clear c43b1
                                  try clear c44
                                  try clear c44b0
                                  try clear c44b1
                                  try clear c46
                                  try clear c46b0
                                  try clear c46b1
                                  try clear p1
                                  try clear p19
                                  try clear p2
                                  try clear p3
                                  try clear p31
                                  try clear p4
                                  try clear p42
                                  try clear p6
                                  try clear p9
                                  try clear q1
                                  try clear q19
                                  try clear q3
                                  try clear q31
                                  try clear q4
                                  try clear q42
                                  try clear q9
                                  obtain ⟨kq, x91_44, rfl, HA, HJ44, ⟨mc44, rfl⟩⟩ := hcut
                                  cases kq with
                                  | zero => exact absurd HA.out (by simp [accountingref07_Parse.j7])
                                  | succ kj44 =>
                                    have H := HA.out
                                    clear HA
                                    simp only [accountingref07_Parse.j7] at H
                                    by_cases c47 : x91_44 = true
                                    · subst c47
                                      have H1 : (some (0, 5)) = some (r1, r2) := by rw [if_pos rfl] at H; exact H
                                      clear H
                                      have H := H1
                                      clear H1
                                      simp only [Option.some.injEq, Prod.mk.injEq] at H
                                      obtain ⟨rfl, rfl⟩ := H
                                      go_wp2
                                      repeat (go_quiet (fail); try go_wp2)
                                      go_ret2
                                      exact ⟨by first | rfl | (simp; done) | (simp [*]; done) | (simp; generalize ByteArray.toList _ = l_; cases l_ <;> rfl), by repeat (first | exact Drawn0.refl _ | apply Drawn0.step)⟩
                                    · replace c47 := Bool.eq_false_iff.mpr c47
                                      subst c47
                                      have H1 : (if x8_9.size + x10_38.size ≤ 9223372036854775807 then ((accountingref01_Parse.f kj44 (x8_9 ++ x10_38) (-1000000000000000) 1000000000000000).bind fun bt179 => (if bt179.2 = 0 then (some (bt179.1, 0)) else (some (0, 4)))) else (none)) = some (r1, r2) := by rw [if_neg (show ¬ (false = true) by decide)] at H; exact H
                                      clear H
                                      have H := H1
                                      clear H1
                                      by_cases c48 : x8_9.size + x10_38.size ≤ 9223372036854775807
                                      · rw [if_pos c48] at H
                                        have c48b0 := eq_true c48
                                        have c48b1 : decide (x8_9.size + x10_38.size ≤ 9223372036854775807) = true := decide_eq_true c48
                                        try have c48b2 : (9223372036854775807 < x8_9.size + x10_38.size) = False := eq_false (Nat.not_lt.2 c48)
                                        replace H := Option.bind_eq_some_iff.mp H
                                        obtain ⟨⟨t179, t180⟩, A490, H⟩ := H
                                        replace H : (if t180 = 0 then (some (t179, 0)) else (some (0, 4))) = some (r1, r2) := H
                                        have A49 := Aside0.mk A490
                                        clear A490
                                        by_cases c50 : t180 = 0
                                        · rw [if_pos c50] at H
                                          have c50b0 : (t180 == 0) = true := beq_iff_eq.mpr c50
                                          have c50b1 : (t180 != 0) = false := bne_eq_false_iff_eq.mpr c50
                                          clear c50
                                          simp only [Option.some.injEq, Prod.mk.injEq] at H
                                          obtain ⟨rfl, rfl⟩ := H
                                          go_wp2_with (first | (go_at_call 36; (with_reducible refine (accountingref01_Parse.calls kj44 (x8_9 ++ x10_38) (-1000000000000000) 1000000000000000 t179 t180 _ A49.out).mono ?_); rintro e w' ⟨rfl, ⟨nd, rfl⟩⟩; (try first | exact ⟨rfl, _, World.drewN_drewN _ _ _⟩ | exact ⟨rfl, _, Eq.trans (World.drewN_drewN _ _ _) (congrArg (World.drewN _) (Nat.add_assoc _ _ _))⟩)))
                                          repeat (go_quiet (first | (go_at_call 36; (with_reducible refine (accountingref01_Parse.calls kj44 (x8_9 ++ x10_38) (-1000000000000000) 1000000000000000 t179 t180 _ A49.out).mono ?_); rintro e w' ⟨rfl, ⟨nd, rfl⟩⟩; (try first | exact ⟨rfl, _, World.drewN_drewN _ _ _⟩ | exact ⟨rfl, _, Eq.trans (World.drewN_drewN _ _ _) (congrArg (World.drewN _) (Nat.add_assoc _ _ _))⟩))); try go_wp2_with (first | (go_at_call 36; (with_reducible refine (accountingref01_Parse.calls kj44 (x8_9 ++ x10_38) (-1000000000000000) 1000000000000000 t179 t180 _ A49.out).mono ?_); rintro e w' ⟨rfl, ⟨nd, rfl⟩⟩; (try first | exact ⟨rfl, _, World.drewN_drewN _ _ _⟩ | exact ⟨rfl, _, Eq.trans (World.drewN_drewN _ _ _) (congrArg (World.drewN _) (Nat.add_assoc _ _ _))⟩))))
                                          go_ret2
                                          exact ⟨by first | rfl | (simp; done) | (simp [*]; done) | (simp; generalize ByteArray.toList _ = l_; cases l_ <;> rfl), by repeat (first | exact Drawn0.refl _ | apply Drawn0.step)⟩
                                        · rw [if_neg c50] at H
                                          have c50b0 : (t180 == 0) = false := beq_eq_false_iff_ne.mpr c50
                                          have c50b1 : (t180 != 0) = true := bne_iff_ne.mpr c50
                                          simp only [Option.some.injEq, Prod.mk.injEq] at H
                                          obtain ⟨rfl, rfl⟩ := H
                                          go_wp2_with (first | (go_at_call 36; (with_reducible refine (accountingref01_Parse.calls kj44 (x8_9 ++ x10_38) (-1000000000000000) 1000000000000000 t179 t180 _ A49.out).mono ?_); rintro e w' ⟨rfl, ⟨nd, rfl⟩⟩; (try first | exact ⟨rfl, _, World.drewN_drewN _ _ _⟩ | exact ⟨rfl, _, Eq.trans (World.drewN_drewN _ _ _) (congrArg (World.drewN _) (Nat.add_assoc _ _ _))⟩)))
                                          repeat (go_quiet (first | (go_at_call 36; (with_reducible refine (accountingref01_Parse.calls kj44 (x8_9 ++ x10_38) (-1000000000000000) 1000000000000000 t179 t180 _ A49.out).mono ?_); rintro e w' ⟨rfl, ⟨nd, rfl⟩⟩; (try first | exact ⟨rfl, _, World.drewN_drewN _ _ _⟩ | exact ⟨rfl, _, Eq.trans (World.drewN_drewN _ _ _) (congrArg (World.drewN _) (Nat.add_assoc _ _ _))⟩))); try go_wp2_with (first | (go_at_call 36; (with_reducible refine (accountingref01_Parse.calls kj44 (x8_9 ++ x10_38) (-1000000000000000) 1000000000000000 t179 t180 _ A49.out).mono ?_); rintro e w' ⟨rfl, ⟨nd, rfl⟩⟩; (try first | exact ⟨rfl, _, World.drewN_drewN _ _ _⟩ | exact ⟨rfl, _, Eq.trans (World.drewN_drewN _ _ _) (congrArg (World.drewN _) (Nat.add_assoc _ _ _))⟩))))
                                          go_ret2
                                          exact ⟨by first | rfl | (simp; done) | (simp [*]; done) | (simp; generalize ByteArray.toList _ = l_; cases l_ <;> rfl), by repeat (first | exact Drawn0.refl _ | apply Drawn0.step)⟩
                                      · rw [if_neg c48] at H
                                        exact absurd H (by simp)
                          · rw [if_neg c38] at H
                            exact absurd H (by simp)

end Go.Proofs.YthmpapnhomngnaaDoor.A
