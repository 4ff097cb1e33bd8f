-- By gen.py, a program of this session's, over the print's forms: not the print's own text.
import Derived.Test.YthmpapnhomngnaaDoorAx0
import Derived.Test.YthmpapnhomngnaaDoorQ
import Derived.Test.YthmpapnhomngnaaDoorAx10
import Derived.Test.YthmpapnhomngnaaDoorAx11
namespace Go.Proofs.YthmpapnhomngnaaDoor.A
open Go.RowKit Go.Proofs.YthmpapnhomngnaaDoor.B Go.Proofs.YthmpapnhomngnaaDoorW.PrintWords Go.Proofs.YthmpapnhomngnaaDoorW.PrintLast Go.Proofs.YthmpapnhomngnaaDoorW.PrintMore
attribute [local go_sem] max2_int min2_int max_two min_two max_three min_three max_four min_four   -- for this text's walks alone
set_option linter.unusedVariables false
set_option linter.unusedSimpArgs false

/-! ### accountingref01_Parse: function 36 -/
mutual
def accountingref01_Parse.j0 : Nat → ByteArray → Int → Int → ByteArray → Bool → Option (Int × Int)
 | 0, _, _, _, _, _ => none
 | k + 1, x0, x1, x2, x8, x9 => if x9 = true then (if 1 ≤ (x0.size : Int) then (accountingref01_Parse.j1 k x1 x2 (x0.extract 1 x0.size) x9) else (none)) else (accountingref01_Parse.j1 k x1 x2 x8 x9)
def accountingref01_Parse.j1 : Nat → Int → Int → ByteArray → Bool → Option (Int × Int)
 | 0, _, _, _, _ => none
 | k + 1, x1, x2, x8, x9 => (accountingref01_Digits.f k x8).bind fun t169 => (if t169 = true then (if 0 < (x8.size : Int) then (if (bt x8 0) = 48 then (if (x8.size : Int) > 1 then (accountingref01_Parse.j2 k x1 x2 x8 x9 true) else (accountingref01_Parse.j2 k x1 x2 x8 x9 x9)) else (accountingref01_Parse.j2 k x1 x2 x8 x9 false)) else (none)) else (accountingref01_Parse.j2 k x1 x2 x8 x9 true))
def accountingref01_Parse.j2 : Nat → Int → Int → ByteArray → Bool → Bool → Option (Int × Int)
 | 0, _, _, _, _, _ => none
 | k + 1, x1, x2, x8, x9, x41 => if x41 = true then (some (0, 5)) else (accountingref01_Parse.l0 k x1 x2 x8 x9 0 0)
def accountingref01_Parse.l0 : Nat → Int → Int → ByteArray → Bool → Int → Int → Option (Int × Int)
 | 0, _, _, _, _, _, _ => none
 | k + 1, x1, x2, x8, x9, x10, x11 => if x11 < (x8.size : Int) then ((accountingref01_Mul.f k x10 10).bind fun bt170 => (if bt170.2 = true then (if 0 ≤ x11 then (if x9 = true then ((accountingref01_Add.f bt170.1 (-(((bt x8 x11) - 48) % 256))).bind fun bt172 => (if bt172.2 = true then (accountingref01_Parse.l0 k x1 x2 x8 x9 bt172.1 (wrap64 (x11 + 1))) else (some (0, 3)))) else ((accountingref01_Add.f bt170.1 (((bt x8 x11) - 48) % 256)).bind fun bt174 => (if bt174.2 = true then (accountingref01_Parse.l0 k x1 x2 x8 x9 bt174.1 (wrap64 (x11 + 1))) else (some (0, 3))))) else (none)) else (some (0, 3)))) else (if x10 < x1 then (some (0, 3)) else (if x10 > x2 then (some (0, 3)) else (some (x10, 0))))
end
def accountingref01_Parse.f (k : Nat) (a0 : ByteArray) (a1 : Int) (a2 : Int) : Option (Int × Int) := if a0.toList = ([] : List UInt8) then (accountingref01_Parse.j0 k a0 a1 a2 a0 false) else (if 0 < (a0.size : Int) then (accountingref01_Parse.j0 k a0 a1 a2 a0 ((bt a0 0) == 45)) else (none))
theorem accountingref01_Parse.mono_l : ∀ k, (∀ y0 y1 y2 y3 y4, LeO (accountingref01_Parse.j0 k y0 y1 y2 y3 y4) (accountingref01_Parse.j0 (k + 1) y0 y1 y2 y3 y4)) ∧ (∀ y0 y1 y2 y3, LeO (accountingref01_Parse.j1 k y0 y1 y2 y3) (accountingref01_Parse.j1 (k + 1) y0 y1 y2 y3)) ∧ (∀ y0 y1 y2 y3 y4, LeO (accountingref01_Parse.j2 k y0 y1 y2 y3 y4) (accountingref01_Parse.j2 (k + 1) y0 y1 y2 y3 y4)) ∧ (∀ y0 y1 y2 y3 y4 y5, LeO (accountingref01_Parse.l0 k y0 y1 y2 y3 y4 y5) (accountingref01_Parse.l0 (k + 1) y0 y1 y2 y3 y4 y5))
 | 0 => ⟨fun _ _ _ _ _ r h => by simp [accountingref01_Parse.j0] at h, fun _ _ _ _ r h => by simp [accountingref01_Parse.j1] at h, fun _ _ _ _ _ r h => by simp [accountingref01_Parse.j2] at h, fun _ _ _ _ _ _ r h => by simp [accountingref01_Parse.l0] at h⟩
 | k + 1 => by
  obtain ⟨ih0, ih1, ih2, ih3⟩ := accountingref01_Parse.mono_l k
  refine ⟨?_, ?_, ?_, ?_⟩
  ·intro y0 y1 y2 y3 y4
   unfold accountingref01_Parse.j0
   repeat' first
   | (with_reducible exact ih0 _ _ _ _ _)
   | (with_reducible exact ih1 _ _ _ _)
   | (with_reducible exact ih2 _ _ _ _ _)
   | (with_reducible exact ih3 _ _ _ _ _ _)
   | (with_reducible exact accountingref01_Digits.mono _ _)
   | (with_reducible exact accountingref01_Mul.mono _ _ _)
   | (with_reducible exact LeO.refl _)
   | (with_reducible exact LeO.none _)
   | (with_reducible refine LeO.ite ?_ ?_)
   | (with_reducible refine LeO.bind ?_ (fun _ => ?_))
   | exact ih0 _ _ _ _ _
   | exact ih1 _ _ _ _
   | exact ih2 _ _ _ _ _
   | exact ih3 _ _ _ _ _ _
   | exact accountingref01_Digits.mono _ _
   | exact accountingref01_Mul.mono _ _ _
   | exact LeO.none _
   | refine LeO.ite ?_ ?_
   | refine LeO.bind ?_ (fun _ => ?_)
  ·intro y0 y1 y2 y3
   unfold accountingref01_Parse.j1
   repeat' first
   | (with_reducible exact ih0 _ _ _ _ _)
   | (with_reducible exact ih1 _ _ _ _)
   | (with_reducible exact ih2 _ _ _ _ _)
   | (with_reducible exact ih3 _ _ _ _ _ _)
   | (with_reducible exact accountingref01_Digits.mono _ _)
   | (with_reducible exact accountingref01_Mul.mono _ _ _)
   | (with_reducible exact LeO.refl _)
   | (with_reducible exact LeO.none _)
   | (with_reducible refine LeO.ite ?_ ?_)
   | (with_reducible refine LeO.bind ?_ (fun _ => ?_))
   | exact ih0 _ _ _ _ _
   | exact ih1 _ _ _ _
   | exact ih2 _ _ _ _ _
   | exact ih3 _ _ _ _ _ _
   | exact accountingref01_Digits.mono _ _
   | exact accountingref01_Mul.mono _ _ _
   | exact LeO.none _
   | refine LeO.ite ?_ ?_
   | refine LeO.bind ?_ (fun _ => ?_)
  ·intro y0 y1 y2 y3 y4
   unfold accountingref01_Parse.j2
   repeat' first
   | (with_reducible exact ih0 _ _ _ _ _)
   | (with_reducible exact ih1 _ _ _ _)
   | (with_reducible exact ih2 _ _ _ _ _)
   | (with_reducible exact ih3 _ _ _ _ _ _)
   | (with_reducible exact accountingref01_Digits.mono _ _)
   | (with_reducible exact accountingref01_Mul.mono _ _ _)
   | (with_reducible exact LeO.refl _)
   | (with_reducible exact LeO.none _)
   | (with_reducible refine LeO.ite ?_ ?_)
   | (with_reducible refine LeO.bind ?_ (fun _ => ?_))
   | exact ih0 _ _ _ _ _
   | exact ih1 _ _ _ _
   | exact ih2 _ _ _ _ _
   | exact ih3 _ _ _ _ _ _
   | exact accountingref01_Digits.mono _ _
   | exact accountingref01_Mul.mono _ _ _
   | exact LeO.none _
   | refine LeO.ite ?_ ?_
   | refine LeO.bind ?_ (fun _ => ?_)
  ·intro y0 y1 y2 y3 y4 y5
   unfold accountingref01_Parse.l0
   repeat' first
   | (with_reducible exact ih0 _ _ _ _ _)
   | (with_reducible exact ih1 _ _ _ _)
   | (with_reducible exact ih2 _ _ _ _ _)
   | (with_reducible exact ih3 _ _ _ _ _ _)
   | (with_reducible exact accountingref01_Digits.mono _ _)
   | (with_reducible exact accountingref01_Mul.mono _ _ _)
   | (with_reducible exact LeO.refl _)
   | (with_reducible exact LeO.none _)
   | (with_reducible refine LeO.ite ?_ ?_)
   | (with_reducible refine LeO.bind ?_ (fun _ => ?_))
   | exact ih0 _ _ _ _ _
   | exact ih1 _ _ _ _
   | exact ih2 _ _ _ _ _
   | exact ih3 _ _ _ _ _ _
   | exact accountingref01_Digits.mono _ _
   | exact accountingref01_Mul.mono _ _ _
   | exact LeO.none _
   | refine LeO.ite ?_ ?_
   | refine LeO.bind ?_ (fun _ => ?_)
theorem accountingref01_Parse.mono : ∀ a0 a1 a2 k, LeO (accountingref01_Parse.f k a0 a1 a2) (accountingref01_Parse.f (k + 1) a0 a1 a2) := by
 intro a0 a1 a2 k
 obtain ⟨ih0, ih1, ih2, ih3⟩ := accountingref01_Parse.mono_l k
 unfold accountingref01_Parse.f
 repeat' first
   | (with_reducible exact ih0 _ _ _ _ _)
   | (with_reducible exact ih1 _ _ _ _)
   | (with_reducible exact ih2 _ _ _ _ _)
   | (with_reducible exact ih3 _ _ _ _ _ _)
   | (with_reducible exact accountingref01_Digits.mono _ _)
   | (with_reducible exact accountingref01_Mul.mono _ _ _)
   | (with_reducible exact LeO.refl _)
   | (with_reducible exact LeO.none _)
   | (with_reducible refine LeO.ite ?_ ?_)
   | (with_reducible refine LeO.bind ?_ (fun _ => ?_))
   | exact ih0 _ _ _ _ _
   | exact ih1 _ _ _ _
   | exact ih2 _ _ _ _ _
   | exact ih3 _ _ _ _ _ _
   | exact accountingref01_Digits.mono _ _
   | exact accountingref01_Mul.mono _ _ _
   | exact LeO.none _
   | refine LeO.ite ?_ ?_
   | refine LeO.bind ?_ (fun _ => ?_)
set_option maxHeartbeats 8000000 in
set_option maxRecDepth 100000 in
theorem accountingref01_Parse.calls (k : Nat) (a0 : ByteArray) (a1 : Int) (a2 : Int) (r1 : Int) (r2 : Int) (w : World) (h : accountingref01_Parse.f k a0 a1 a2 = some (r1, r2)) :
  Calls Tryd.prog 36 #[.string a0, .int .i64 a1, .int .i64 a2] w fun e w' => e = .returned (.tuple #[.int .i64 r1, .int .i64 r2]) ∧ Drawn0 w w' := by
 have H : (if a0.toList = ([] : List UInt8) then (accountingref01_Parse.j0 k a0 a1 a2 a0 false) else (if 0 < (a0.size : Int) then (accountingref01_Parse.j0 k a0 a1 a2 a0 ((bt a0 0) == 45)) else (none))) = some (r1, r2) := h
 clear h
 have HC4 := Aside0.mk H
 clear H
 go_enter Tryd.func36, Tryd.ntmps36
 go_upto_region 2 with (fail)
 go_cut [9] (fun v9 wc => ∃ (kq : Nat) (x9_3 : Bool), v9 = .bool x9_3 ∧ Aside0 (accountingref01_Parse.j0 kq a0 a1 a2 a0 x9_3 = some (r1, r2)) ∧ Aside0 (kq ≤ k) ∧ Drawn0 w wc)
 case first =>
  have H := HC4.out
  clear HC4
  by_cases c5 : a0.toList = ([] : List UInt8)
  ·rw [if_pos c5] at H
   have c5b0 : (a0.toList == ([] : List UInt8)) = true := beq_iff_eq.mpr c5
   have c5b1 : (a0.toList != ([] : List UInt8)) = false := bne_eq_false_iff_eq.mpr c5
   clear c5
   (first | rw [c5b0] | (simp only [i64_w, i32_w]; rw [c5b0]) | skip)
   have H' := Aside0.mk H
   clear H
   go_wp2
   go_meet
   case rel => exact ⟨_, (false), zq1, H', ⟨by first | omega | exact Nat.le_refl _⟩, zq2⟩
  ·rw [if_neg c5] at H
   have c5b0 : (a0.toList == ([] : List UInt8)) = false := beq_eq_false_iff_ne.mpr c5
   have c5b1 : (a0.toList != ([] : List UInt8)) = true := bne_iff_ne.mpr c5
   (first | rw [c5b0] | (simp only [i64_w, i32_w]; rw [c5b0]) | skip)
   by_cases c6 : 0 < (a0.size : Int)
   ·rw [if_pos c6] at H
    have c6b0 : decide (0 < (a0.size : Int)) = true := decide_eq_true c6
    have c6b1 : decide (0 < a0.size) = true := decide_eq_true (by omega)
    clear c6
    have H' := Aside0.mk H
    clear H
    have p7 : 0 ≤ (0 : Int) := (by omega)
    have q7 : 0 < a0.size := (by have : (0 : Int) < (a0.size : Int) := of_decide_eq_true zq6; omega)
    have hx7 : ∀ h : 0 < a0.size, ((a0[0]'h).toNat : Int) = bt a0 0 := bt_at a0 0
    clear p7
    have qi7 : (0 < (a0.size : Int)) = True := eq_true (of_decide_eq_true zq6)
    replace q7 := eq_true q7
    go_wp2
    go_meet
    case rel => exact ⟨_, (((bt a0 0) == 45)), zq1, H', ⟨by first | omega | exact Nat.le_refl _⟩, zq2⟩
   ·rw [if_neg c6] at H
    exact absurd H (by simp)
 case rest =>
  clear HC4
  try clear p2
  try clear c3
  try clear c5
  try clear c5b0
  try clear c5b1
  try clear c6
  try clear c6b0
  try clear c6b1
  try clear p7
  try clear q7
  try clear hx7
  try clear qi7
  try clear p7
  try clear q7
  obtain ⟨kq, x9_3, rfl, HA, HJ3, ⟨mc3, rfl⟩⟩ := hcut
  cases kq with
  | zero => exact absurd HA.out (by simp [accountingref01_Parse.j0])
  | succ kj3 =>
   have H := HA.out
   clear HA
   simp only [accountingref01_Parse.j0] at H
   have HC8 := Aside0.mk H
   clear H
   go_upto_if 23 with (fail)
   go_cut [8] (fun v8 wc => ∃ (kq : Nat) (x8_7 : ByteArray), v8 = .string x8_7 ∧ Aside0 (accountingref01_Parse.j1 kq a1 a2 x8_7 x9_3 = some (r1, r2)) ∧ Aside0 (kq ≤ kj3) ∧ Drawn0 w wc)
   case first =>
    have H := HC8.out
    clear HC8
    by_cases c9 : x9_3 = true
    ·subst c9
     have H1 : (if 1 ≤ (a0.size : Int) then (accountingref01_Parse.j1 kj3 a1 a2 (a0.extract 1 a0.size) true) else (none)) = some (r1, r2) := by rw [if_pos rfl] at H; exact H
     clear H
     have H := H1
     clear H1
     by_cases c10 : 1 ≤ (a0.size : Int)
     ·rw [if_pos c10] at H
      have c10b0 := eq_true c10
      have c10b1 : decide (1 ≤ (a0.size : Int)) = true := decide_eq_true c10
      clear c10
      have H' := Aside0.mk H
      clear H
      go_wp2
      go_meet
      case rel => exact ⟨_, (a0.extract 1 a0.size), zq1, H', ⟨by have := HJ3.out; first | omega | exact Nat.le_refl _⟩, zq2⟩
     ·rw [if_neg c10] at H
      exact absurd H (by simp)
    ·replace c9 := Bool.eq_false_iff.mpr c9
     subst c9
     have H1 : (accountingref01_Parse.j1 kj3 a1 a2 a0 false) = some (r1, r2) := by rw [if_neg (show ¬ (false = true) by decide)] at H; exact H
     clear H
     have H := H1
     clear H1
     have H' := Aside0.mk H
     clear H
     go_wp2
     go_meet
     case rel => exact ⟨_, (a0), zq1, H', ⟨by have := HJ3.out; first | omega | exact Nat.le_refl _⟩, zq2⟩
   case rest =>
    clear HC8
    try clear c1
    try clear p2
    try clear c3
    try clear c5
    try clear c5b0
    try clear c5b1
    try clear c6
    try clear c6b0
    try clear c6b1
    try clear p7
    try clear q7
    try clear hx7
    try clear qi7
    try clear c9
    try clear c10
    try clear c10b0
    try clear c10b1
    try clear p2
    try clear p7
    try clear q7
    obtain ⟨kq, x8_7, rfl, HA, HJ7, ⟨mc7, rfl⟩⟩ := hcut
    cases kq with
    | zero => exact absurd HA.out (by simp [accountingref01_Parse.j1])
    | succ kj7 =>
     have H := HA.out
     clear HA
     simp only [accountingref01_Parse.j1] at H
     have HC11 := Aside0.mk H
     clear H
     go_upto_region 5 with (fail)
     go_cut [41] (fun v41 wc => ∃ (kq : Nat) (x41_10 : Bool), v41 = .bool x41_10 ∧ Aside0 (accountingref01_Parse.j2 kq a1 a2 x8_7 x9_3 x41_10 = some (r1, r2)) ∧ Aside0 (kq ≤ kj7) ∧ Drawn0 w wc)
     case first =>
      have H := HC11.out
      clear HC11
      replace H := Option.bind_eq_some_iff.mp H
      obtain ⟨t169, A120, H⟩ := H
      replace H : (if t169 = true then (if 0 < (x8_7.size : Int) then (if (bt x8_7 0) = 48 then (if (x8_7.size : Int) > 1 then (accountingref01_Parse.j2 kj7 a1 a2 x8_7 x9_3 true) else (accountingref01_Parse.j2 kj7 a1 a2 x8_7 x9_3 x9_3)) else (accountingref01_Parse.j2 kj7 a1 a2 x8_7 x9_3 false)) else (none)) else (accountingref01_Parse.j2 kj7 a1 a2 x8_7 x9_3 true)) = some (r1, r2) := H
      have A12 := Aside0.mk A120
      clear A120
      by_cases c13 : t169 = true
      ·subst c13
       have H1 : (if 0 < (x8_7.size : Int) then (if (bt x8_7 0) = 48 then (if (x8_7.size : Int) > 1 then (accountingref01_Parse.j2 kj7 a1 a2 x8_7 x9_3 true) else (accountingref01_Parse.j2 kj7 a1 a2 x8_7 x9_3 x9_3)) else (accountingref01_Parse.j2 kj7 a1 a2 x8_7 x9_3 false)) else (none)) = some (r1, r2) := by rw [if_pos rfl] at H; exact H
       clear H
       have H := H1
       clear H1
       by_cases c14 : 0 < (x8_7.size : Int)
       ·rw [if_pos c14] at H
        have c14b0 : decide (0 < (x8_7.size : Int)) = true := decide_eq_true c14
        have c14b1 : decide (0 < x8_7.size) = true := decide_eq_true (by omega)
        clear c14
        (first | rw [c14b0] | (simp only [i64_w, i32_w]; rw [c14b0]) | skip)
        by_cases c16 : (bt x8_7 0) = 48
        ·rw [if_pos c16] at H
         have c16b0 : ((bt x8_7 0) == 48) = true := beq_iff_eq.mpr c16
         have c16b1 : ((bt x8_7 0) != 48) = false := bne_eq_false_iff_eq.mpr c16
         clear c16
         by_cases c17 : (x8_7.size : Int) > 1
         ·rw [if_pos c17] at H
          have c17b0 : decide (1 < (x8_7.size : Int)) = true := decide_eq_true c17
          have c17b1 : decide (1 < x8_7.size) = true := decide_eq_true (by omega)
          clear c17
          have H' := Aside0.mk H
          clear H
          go_wp2_with (first | ((with_reducible refine gate_callee (f := 35) rfl ?_); refine goesL_ (some 27) rfl rfl Tryd.func35 (by kernel_rfl) rfl #[.string x8_7] rfl zq3 ?_; (with_reducible refine (accountingref01_Digits.calls kj7 x8_7 true _ A12.out).mono ?_); rintro e w' ⟨rfl, ⟨nd, rfl⟩⟩; refine ⟨_, rfl, ?_⟩; have p15 : 0 ≤ (0 : Int) := (by omega); have q15 : 0 < x8_7.size := (by have : (0 : Int) < (x8_7.size : Int) := of_decide_eq_true zq6; omega); have hx15 : ∀ h : 0 < x8_7.size, ((x8_7[0]'h).toNat : Int) = bt x8_7 0 := bt_at x8_7 0; clear p15; have qi15 : (0 < (x8_7.size : Int)) = True := eq_true (of_decide_eq_true zq6); replace q15 := eq_true q15))
          go_meet
          case rel => exact ⟨_, (true), zq1, H', ⟨zq8⟩, zq2⟩
         ·rw [if_neg c17] at H
          have c17b0 : decide (1 < (x8_7.size : Int)) = false := decide_eq_false c17
          have c17b1 : decide (1 < x8_7.size) = false := decide_eq_false (by omega)
          clear c17
          have H' := Aside0.mk H
          clear H
          go_wp2_with (first | ((with_reducible refine gate_callee (f := 35) rfl ?_); refine goesL_ (some 27) rfl rfl Tryd.func35 (by kernel_rfl) rfl #[.string x8_7] rfl zq3 ?_; (with_reducible refine (accountingref01_Digits.calls kj7 x8_7 true _ A12.out).mono ?_); rintro e w' ⟨rfl, ⟨nd, rfl⟩⟩; refine ⟨_, rfl, ?_⟩; have p15 : 0 ≤ (0 : Int) := (by omega); have q15 : 0 < x8_7.size := (by have : (0 : Int) < (x8_7.size : Int) := of_decide_eq_true zq6; omega); have hx15 : ∀ h : 0 < x8_7.size, ((x8_7[0]'h).toNat : Int) = bt x8_7 0 := bt_at x8_7 0; clear p15; have qi15 : (0 < (x8_7.size : Int)) = True := eq_true (of_decide_eq_true zq6); replace q15 := eq_true q15))
          go_meet
          case rel => exact ⟨_, (x9_3), zq1, H', ⟨zq8⟩, zq2⟩
        ·rw [if_neg c16] at H
         have c16b0 : ((bt x8_7 0) == 48) = false := beq_eq_false_iff_ne.mpr c16
         have c16b1 : ((bt x8_7 0) != 48) = true := bne_iff_ne.mpr c16
         have H' := Aside0.mk H
         clear H
         go_wp2_with (first | ((with_reducible refine gate_callee (f := 35) rfl ?_); refine goesL_ (some 27) rfl rfl Tryd.func35 (by kernel_rfl) rfl #[.string x8_7] rfl zq3 ?_; (with_reducible refine (accountingref01_Digits.calls kj7 x8_7 true _ A12.out).mono ?_); rintro e w' ⟨rfl, ⟨nd, rfl⟩⟩; refine ⟨_, rfl, ?_⟩; have p15 : 0 ≤ (0 : Int) := (by omega); have q15 : 0 < x8_7.size := (by have : (0 : Int) < (x8_7.size : Int) := of_decide_eq_true zq6; omega); have hx15 : ∀ h : 0 < x8_7.size, ((x8_7[0]'h).toNat : Int) = bt x8_7 0 := bt_at x8_7 0; clear p15; have qi15 : (0 < (x8_7.size : Int)) = True := eq_true (of_decide_eq_true zq6); replace q15 := eq_true q15))
         go_meet
         case rel => exact ⟨_, (false), zq1, H', ⟨zq8⟩, zq2⟩
       ·rw [if_neg c14] at H
        exact absurd H (by simp)
      ·replace c13 := Bool.eq_false_iff.mpr c13
       subst c13
       have H1 : (accountingref01_Parse.j2 kj7 a1 a2 x8_7 x9_3 true) = some (r1, r2) := by rw [if_neg (show ¬ (false = true) by decide)] at H; exact H
       clear H
       have H := H1
       clear H1
       have H' := Aside0.mk H
       clear H
       go_wp2_with (first | ((with_reducible refine gate_callee (f := 35) rfl ?_); refine goesL_ (some 27) rfl rfl Tryd.func35 (by kernel_rfl) rfl #[.string x8_7] rfl zq3 ?_; (with_reducible refine (accountingref01_Digits.calls kj7 x8_7 false _ A12.out).mono ?_); rintro e w' ⟨rfl, ⟨nd, rfl⟩⟩; refine ⟨_, rfl, ?_⟩))
       go_meet
       case rel => exact ⟨_, (true), zq1, H', ⟨zq8⟩, zq2⟩
     case rest =>
      clear HC11
      try clear c1
      try clear p1
      try clear q1
      try clear hx1
      try clear qi1
      try clear p2
      try clear c3
      try clear c5
      try clear c5b0
      try clear c5b1
      try clear c6
      try clear c6b0
      try clear c6b1
      try clear c7
      try clear p7
      try clear q7
      try clear hx7
      try clear qi7
      try clear c9
      try clear c10
      try clear c10b0
      try clear c10b1
      try clear c13
      try clear c14
      try clear c14b0
      try clear c14b1
      try clear p15
      try clear q15
      try clear hx15
      try clear qi15
      try clear c16
      try clear c16b0
      try clear c16b1
      try clear c17
      try clear c17b0
      try clear c17b1
      try clear p15
      try clear p2
      try clear p7
      try clear q15
      try clear q7
      obtain ⟨kq, x41_10, rfl, HA, HJ10, ⟨mc10, rfl⟩⟩ := hcut
      cases kq with
      | zero => exact absurd HA.out (by simp [accountingref01_Parse.j2])
      | succ kj10 =>
       have H := HA.out
       clear HA
       simp only [accountingref01_Parse.j2] at H
       by_cases c18 : x41_10 = true
       ·subst c18
        have H1 : (some (0, 5)) = some (r1, r2) := by rw [if_pos rfl] at H; exact H
        clear H
        have H := H1
        clear H1
        simp only [Option.some.injEq, Prod.mk.injEq] at H
        obtain ⟨rfl, rfl⟩ := H
        go_wp2
        go_ret2
        exact ⟨zq1, zq2⟩
       ·replace c18 := Bool.eq_false_iff.mpr c18
        subst c18
        have H1 : (accountingref01_Parse.l0 kj10 a1 a2 x8_7 x9_3 0 0) = some (r1, r2) := by rw [if_neg (show ¬ (false = true) by decide)] at H; exact H
        clear H
        have H := H1
        clear H1
        have H' := Aside0.mk H
        clear H
        go_wp2
        go_loopg [10, 11] kj10 (fun kq v10 v11 w' => ∃ (x10_4 : Int) (x11_4 : Int), v10 = .int .i64 x10_4 ∧ v11 = .int .i64 x11_4 ∧ Aside0 (accountingref01_Parse.l0 kq a1 a2 x8_7 x9_3 x10_4 x11_4 = some (r1, r2)) ∧ Aside0 (kq ≤ kj10) ∧ Drawn0 w w')
        case atStart => exact ⟨(0), (0), zq1, zq1, H', ⟨Nat.le_refl _⟩, zq2⟩
        case round =>
         clear H'
         try clear c1
         try clear p1
         try clear q1
         try clear hx1
         try clear qi1
         try clear p2
         try clear c3
         try clear c5
         try clear c5b0
         try clear c5b1
         try clear c6
         try clear c6b0
         try clear c6b1
         try clear c7
         try clear p7
         try clear q7
         try clear hx7
         try clear qi7
         try clear c9
         try clear c10
         try clear c10b0
         try clear c10b1
         try clear c13
         try clear c14
         try clear c14b0
         try clear c14b1
         try clear p15
         try clear q15
         try clear hx15
         try clear qi15
         try clear c16
         try clear c16b0
         try clear c16b1
         try clear c17
         try clear c17b0
         try clear c17b1
         try clear c18
         try clear p1
         try clear p15
         try clear p2
         try clear p7
         try clear q1
         try clear q15
         try clear q7
         obtain ⟨x10_4, x11_4, rfl, rfl, HA, HK4, ⟨m4, rfl⟩⟩ := hrel
         cases gk with
         | zero => exact absurd HA.out (by simp [accountingref01_Parse.l0])
         | succ k4 =>
          have H := HA.out
          clear HA
          simp only [accountingref01_Parse.l0] at H
          by_cases c19 : x11_4 < (x8_7.size : Int)
          ·rw [if_pos c19] at H
           have c19b0 : decide (x11_4 < (x8_7.size : Int)) = true := decide_eq_true c19
           clear c19
           replace H := Option.bind_eq_some_iff.mp H
           obtain ⟨⟨t170, t171⟩, A200, H⟩ := H
           replace H : (if t171 = true then (if 0 ≤ x11_4 then (if x9_3 = true then ((accountingref01_Add.f t170 (-(((bt x8_7 x11_4) - 48) % 256))).bind fun bt172 => (if bt172.2 = true then (accountingref01_Parse.l0 k4 a1 a2 x8_7 x9_3 bt172.1 (wrap64 (x11_4 + 1))) else (some (0, 3)))) else ((accountingref01_Add.f t170 (((bt x8_7 x11_4) - 48) % 256)).bind fun bt174 => (if bt174.2 = true then (accountingref01_Parse.l0 k4 a1 a2 x8_7 x9_3 bt174.1 (wrap64 (x11_4 + 1))) else (some (0, 3))))) else (none)) else (some (0, 3))) = some (r1, r2) := H
           have A20 := Aside0.mk A200
           clear A200
           by_cases c21 : t171 = true
           ·subst c21
            have H1 : (if 0 ≤ x11_4 then (if x9_3 = true then ((accountingref01_Add.f t170 (-(((bt x8_7 x11_4) - 48) % 256))).bind fun bt172 => (if bt172.2 = true then (accountingref01_Parse.l0 k4 a1 a2 x8_7 x9_3 bt172.1 (wrap64 (x11_4 + 1))) else (some (0, 3)))) else ((accountingref01_Add.f t170 (((bt x8_7 x11_4) - 48) % 256)).bind fun bt174 => (if bt174.2 = true then (accountingref01_Parse.l0 k4 a1 a2 x8_7 x9_3 bt174.1 (wrap64 (x11_4 + 1))) else (some (0, 3))))) else (none)) = some (r1, r2) := by rw [if_pos rfl] at H; exact H
            clear H
            have H := H1
            clear H1
            by_cases c22 : 0 ≤ x11_4
            ·rw [if_pos c22] at H
             have c22b0 : decide (0 ≤ x11_4) = true := decide_eq_true c22
             clear c22
             by_cases c24 : x9_3 = true
             ·subst c24
              have H1 : ((accountingref01_Add.f t170 (-(((bt x8_7 x11_4) - 48) % 256))).bind fun bt172 => (if bt172.2 = true then (accountingref01_Parse.l0 k4 a1 a2 x8_7 true bt172.1 (wrap64 (x11_4 + 1))) else (some (0, 3)))) = some (r1, r2) := by rw [if_pos rfl] at H; exact H
              clear H
              have H := H1
              clear H1
              replace H := Option.bind_eq_some_iff.mp H
              obtain ⟨⟨t172, t173⟩, A250, H⟩ := H
              replace H : (if t173 = true then (accountingref01_Parse.l0 k4 a1 a2 x8_7 true t172 (wrap64 (x11_4 + 1))) else (some (0, 3))) = some (r1, r2) := H
              have A25 := Aside0.mk A250
              clear A250
              by_cases c26 : t173 = true
              ·subst c26
               have H1 : (accountingref01_Parse.l0 k4 a1 a2 x8_7 true t172 (wrap64 (x11_4 + 1))) = some (r1, r2) := by rw [if_pos rfl] at H; exact H
               clear H
               have H := H1
               clear H1
               have H' := Aside0.mk H
               clear H
               go_wp2_with (first | ((with_reducible refine gate_callee (f := 29) rfl ?_); refine goesL_ (some 50) rfl rfl Tryd.func29 (by kernel_rfl) rfl #[.int .i64 x10_4, .int .i64 10] rfl zq3 ?_; (with_reducible refine (accountingref01_Mul.calls k4 x10_4 10 t170 true _ A20.out).mono ?_); rintro e w' ⟨rfl, ⟨nd, rfl⟩⟩; refine ⟨_, rfl, ?_⟩; have p23 : 0 ≤ (x11_4 : Int) := of_decide_eq_true zq6; have q23 : x11_4 < (x8_7.size : Int) := of_decide_eq_true zq6; have hx23 := bt_at x8_7 x11_4; replace p23 := eq_true p23; replace q23 := eq_true q23) | ((with_reducible refine gate_callee (f := 49) rfl ?_); refine goesL_ (some 66) rfl rfl Tryd.func49 (by kernel_rfl) rfl #[.int .i64 t170, .int .i64 (-(((bt x8_7 x11_4) - 48) % 256))] rfl zq3 ?_; (with_reducible refine (accountingref01_Add.calls t170 (-(((bt x8_7 x11_4) - 48) % 256)) t172 true _ A25.out).mono ?_); rintro e w' ⟨rfl, ⟨nd, rfl⟩⟩; refine ⟨_, rfl, ?_⟩))
               go_roundg k4
               case measure => have := HJ3.out; have := HJ7.out; have := HJ10.out; have := HK4.out; omega
               case rel => exact ⟨(t172), (wrap64 (x11_4 + 1)), zq1, zq1, H', ⟨by have := HJ3.out; have := HJ7.out; have := HJ10.out; have := HK4.out; omega⟩, zq2⟩
              ·replace c26 := Bool.eq_false_iff.mpr c26
               subst c26
               have H1 : (some (0, 3)) = some (r1, r2) := by rw [if_neg (show ¬ (false = true) by decide)] at H; exact H
               clear H
               have H := H1
               clear H1
               simp only [Option.some.injEq, Prod.mk.injEq] at H
               obtain ⟨rfl, rfl⟩ := H
               go_wp2_with (first | ((with_reducible refine gate_callee (f := 29) rfl ?_); refine goesL_ (some 50) rfl rfl Tryd.func29 (by kernel_rfl) rfl #[.int .i64 x10_4, .int .i64 10] rfl zq3 ?_; (with_reducible refine (accountingref01_Mul.calls k4 x10_4 10 t170 true _ A20.out).mono ?_); rintro e w' ⟨rfl, ⟨nd, rfl⟩⟩; refine ⟨_, rfl, ?_⟩; have p23 : 0 ≤ (x11_4 : Int) := of_decide_eq_true zq6; have q23 : x11_4 < (x8_7.size : Int) := of_decide_eq_true zq6; have hx23 := bt_at x8_7 x11_4; replace p23 := eq_true p23; replace q23 := eq_true q23) | ((with_reducible refine gate_callee (f := 49) rfl ?_); refine goesL_ (some 66) rfl rfl Tryd.func49 (by kernel_rfl) rfl #[.int .i64 t170, .int .i64 (-(((bt x8_7 x11_4) - 48) % 256))] rfl zq3 ?_; (with_reducible refine (accountingref01_Add.calls t170 (-(((bt x8_7 x11_4) - 48) % 256)) t172 false _ A25.out).mono ?_); rintro e w' ⟨rfl, ⟨nd, rfl⟩⟩; refine ⟨_, rfl, ?_⟩))
               go_ret2
               exact ⟨zq1, zq2⟩
             ·replace c24 := Bool.eq_false_iff.mpr c24
              subst c24
              have H1 : ((accountingref01_Add.f t170 (((bt x8_7 x11_4) - 48) % 256)).bind fun bt174 => (if bt174.2 = true then (accountingref01_Parse.l0 k4 a1 a2 x8_7 false bt174.1 (wrap64 (x11_4 + 1))) else (some (0, 3)))) = some (r1, r2) := by rw [if_neg (show ¬ (false = true) by decide)] at H; exact H
              clear H
              have H := H1
              clear H1
              replace H := Option.bind_eq_some_iff.mp H
              obtain ⟨⟨t174, t175⟩, A270, H⟩ := H
              replace H : (if t175 = true then (accountingref01_Parse.l0 k4 a1 a2 x8_7 false t174 (wrap64 (x11_4 + 1))) else (some (0, 3))) = some (r1, r2) := H
              have A27 := Aside0.mk A270
              clear A270
              by_cases c28 : t175 = true
              ·subst c28
               have H1 : (accountingref01_Parse.l0 k4 a1 a2 x8_7 false t174 (wrap64 (x11_4 + 1))) = some (r1, r2) := by rw [if_pos rfl] at H; exact H
               clear H
               have H := H1
               clear H1
               have H' := Aside0.mk H
               clear H
               go_wp2_with (first | ((with_reducible refine gate_callee (f := 29) rfl ?_); refine goesL_ (some 50) rfl rfl Tryd.func29 (by kernel_rfl) rfl #[.int .i64 x10_4, .int .i64 10] rfl zq3 ?_; (with_reducible refine (accountingref01_Mul.calls k4 x10_4 10 t170 true _ A20.out).mono ?_); rintro e w' ⟨rfl, ⟨nd, rfl⟩⟩; refine ⟨_, rfl, ?_⟩; have p23 : 0 ≤ (x11_4 : Int) := of_decide_eq_true zq6; have q23 : x11_4 < (x8_7.size : Int) := of_decide_eq_true zq6; have hx23 := bt_at x8_7 x11_4; replace p23 := eq_true p23; replace q23 := eq_true q23) | ((with_reducible refine gate_callee (f := 49) rfl ?_); refine goesL_ (some 66) rfl rfl Tryd.func49 (by kernel_rfl) rfl #[.int .i64 t170, .int .i64 (((bt x8_7 x11_4) - 48) % 256)] rfl zq3 ?_; (with_reducible refine (accountingref01_Add.calls t170 (((bt x8_7 x11_4) - 48) % 256) t174 true _ A27.out).mono ?_); rintro e w' ⟨rfl, ⟨nd, rfl⟩⟩; refine ⟨_, rfl, ?_⟩))
               go_roundg k4
               case measure => have := HJ3.out; have := HJ7.out; have := HJ10.out; have := HK4.out; omega
               case rel => exact ⟨(t174), (wrap64 (x11_4 + 1)), zq1, zq1, H', ⟨by have := HJ3.out; have := HJ7.out; have := HJ10.out; have := HK4.out; omega⟩, zq2⟩
              ·replace c28 := Bool.eq_false_iff.mpr c28
               subst c28
               have H1 : (some (0, 3)) = some (r1, r2) := by rw [if_neg (show ¬ (false = true) by decide)] at H; exact H
               clear H
               have H := H1
               clear H1
               simp only [Option.some.injEq, Prod.mk.injEq] at H
               obtain ⟨rfl, rfl⟩ := H
               go_wp2_with (first | ((with_reducible refine gate_callee (f := 29) rfl ?_); refine goesL_ (some 50) rfl rfl Tryd.func29 (by kernel_rfl) rfl #[.int .i64 x10_4, .int .i64 10] rfl zq3 ?_; (with_reducible refine (accountingref01_Mul.calls k4 x10_4 10 t170 true _ A20.out).mono ?_); rintro e w' ⟨rfl, ⟨nd, rfl⟩⟩; refine ⟨_, rfl, ?_⟩; have p23 : 0 ≤ (x11_4 : Int) := of_decide_eq_true zq6; have q23 : x11_4 < (x8_7.size : Int) := of_decide_eq_true zq6; have hx23 := bt_at x8_7 x11_4; replace p23 := eq_true p23; replace q23 := eq_true q23) | ((with_reducible refine gate_callee (f := 49) rfl ?_); refine goesL_ (some 66) rfl rfl Tryd.func49 (by kernel_rfl) rfl #[.int .i64 t170, .int .i64 (((bt x8_7 x11_4) - 48) % 256)] rfl zq3 ?_; (with_reducible refine (accountingref01_Add.calls t170 (((bt x8_7 x11_4) - 48) % 256) t174 false _ A27.out).mono ?_); rintro e w' ⟨rfl, ⟨nd, rfl⟩⟩; refine ⟨_, rfl, ?_⟩))
               go_ret2
               exact ⟨zq1, zq2⟩
            ·rw [if_neg c22] at H
             exact absurd H (by simp)
           ·replace c21 := Bool.eq_false_iff.mpr c21
            subst c21
            have H1 : (some (0, 3)) = some (r1, r2) := by rw [if_neg (show ¬ (false = true) by decide)] at H; exact H
            clear H
            have H := H1
            clear H1
            simp only [Option.some.injEq, Prod.mk.injEq] at H
            obtain ⟨rfl, rfl⟩ := H
            go_wp2_with (first | ((with_reducible refine gate_callee (f := 29) rfl ?_); refine goesL_ (some 50) rfl rfl Tryd.func29 (by kernel_rfl) rfl #[.int .i64 x10_4, .int .i64 10] rfl zq3 ?_; (with_reducible refine (accountingref01_Mul.calls k4 x10_4 10 t170 false _ A20.out).mono ?_); rintro e w' ⟨rfl, ⟨nd, rfl⟩⟩; refine ⟨_, rfl, ?_⟩))
            go_ret2
            exact ⟨zq1, zq2⟩
          ·rw [if_neg c19] at H
           have c19b0 : decide (x11_4 < (x8_7.size : Int)) = false := decide_eq_false c19
           clear c19
           by_cases c29 : x10_4 < a1
           ·rw [if_pos c29] at H
            have c29b0 : decide (x10_4 < a1) = true := decide_eq_true c29
            clear c29
            simp only [Option.some.injEq, Prod.mk.injEq] at H
            obtain ⟨rfl, rfl⟩ := H
            go_wp2
            go_ret2
            exact ⟨zq1, zq2⟩
           ·rw [if_neg c29] at H
            have c29b0 : decide (x10_4 < a1) = false := decide_eq_false c29
            clear c29
            by_cases c30 : x10_4 > a2
            ·rw [if_pos c30] at H
             have c30b0 : decide (a2 < x10_4) = true := decide_eq_true c30
             clear c30
             simp only [Option.some.injEq, Prod.mk.injEq] at H
             obtain ⟨rfl, rfl⟩ := H
             go_wp2
             go_ret2
             exact ⟨zq1, zq2⟩
            ·rw [if_neg c30] at H
             have c30b0 : decide (a2 < x10_4) = false := decide_eq_false c30
             clear c30
             simp only [Option.some.injEq, Prod.mk.injEq] at H
             obtain ⟨rfl, rfl⟩ := H
             go_wp2
             go_ret2
             exact ⟨zq1, zq2⟩

end Go.Proofs.YthmpapnhomngnaaDoor.A
