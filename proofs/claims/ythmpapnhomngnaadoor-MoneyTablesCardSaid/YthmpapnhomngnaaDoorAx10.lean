-- By gen.py, a program of this session's, over the print's forms: not the print's own text.
import Derived.Test.YthmpapnhomngnaaDoorAx0
import Derived.Test.YthmpapnhomngnaaDoorQ
import Derived.Test.YthmpapnhomngnaaDoorAx9
namespace Go.Proofs.YthmpapnhomngnaaDoor.A
open Go.RowKit Go.Proofs.YthmpapnhomngnaaDoor.B Go.Proofs.YthmpapnhomngnaaDoorW.PrintWords Go.Proofs.YthmpapnhomngnaaDoorW.PrintLast Go.Proofs.YthmpapnhomngnaaDoorW.PrintMore
attribute [local go_sem] max2_int min2_int max_two min_two max_three min_three max_four min_four   -- for this text's walks alone
set_option linter.unusedVariables false
set_option linter.unusedSimpArgs false

/-! ### accountingref01_Mul: function 29 -/
mutual
def accountingref01_Mul.j0 : Nat → Int → Int → Bool → Option (Int × Bool)
 | 0, _, _, _ => none
 | k + 1, x6, x7, x8 => if x8 = true then (accountingref01_Mul.j1 k x6 x7 x8 9223372036854775808) else (accountingref01_Mul.j1 k x6 x7 x8 9223372036854775807)
def accountingref01_Mul.j1 : Nat → Int → Int → Bool → Int → Option (Int × Bool)
 | 0, _, _, _, _ => none
 | k + 1, x6, x7, x8, x9 => if x7 > 0 then (if x7 = 0 then (none) else (accountingref01_Mul.j2 k x6 x7 x8 (decide (x6 > (IntKind.u64.wrap (Int.tdiv x9 x7)))))) else (accountingref01_Mul.j2 k x6 x7 x8 false)
def accountingref01_Mul.j2 : Nat → Int → Int → Bool → Bool → Option (Int × Bool)
 | 0, _, _, _, _ => none
 | k + 1, x6, x7, x8, x37 => if x37 = true then (some (0, false)) else (if x8 = true then (some (wrap64 (-(wrap64 (IntKind.u64.wrap (x6 * x7)))), true)) else (some (wrap64 (IntKind.u64.wrap (x6 * x7)), true)))
end
def accountingref01_Mul.f (k : Nat) (a0 : Int) (a1 : Int) : Option (Int × Bool) := (accountingref01_size.f a0).bind fun t101 => ((accountingref01_size.f a1).bind fun t102 => (if a0 < 0 then (if a1 > 0 then (accountingref01_Mul.j0 k t101 t102 true) else (if a0 > 0 then (accountingref01_Mul.j0 k t101 t102 (decide (a1 < 0))) else (accountingref01_Mul.j0 k t101 t102 false))) else (if a0 > 0 then (accountingref01_Mul.j0 k t101 t102 (decide (a1 < 0))) else (accountingref01_Mul.j0 k t101 t102 false))))
theorem accountingref01_Mul.mono_l : ∀ k, (∀ y0 y1 y2, LeO (accountingref01_Mul.j0 k y0 y1 y2) (accountingref01_Mul.j0 (k + 1) y0 y1 y2)) ∧ (∀ y0 y1 y2 y3, LeO (accountingref01_Mul.j1 k y0 y1 y2 y3) (accountingref01_Mul.j1 (k + 1) y0 y1 y2 y3)) ∧ (∀ y0 y1 y2 y3, LeO (accountingref01_Mul.j2 k y0 y1 y2 y3) (accountingref01_Mul.j2 (k + 1) y0 y1 y2 y3))
 | 0 => ⟨fun _ _ _ r h => by simp [accountingref01_Mul.j0] at h, fun _ _ _ _ r h => by simp [accountingref01_Mul.j1] at h, fun _ _ _ _ r h => by simp [accountingref01_Mul.j2] at h⟩
 | k + 1 => by
  obtain ⟨ih0, ih1, ih2⟩ := accountingref01_Mul.mono_l k
  refine ⟨?_, ?_, ?_⟩
  ·intro y0 y1 y2
   unfold accountingref01_Mul.j0
   repeat' first
   | (with_reducible exact ih0 _ _ _)
   | (with_reducible exact ih1 _ _ _ _)
   | (with_reducible exact ih2 _ _ _ _)
   | (with_reducible exact LeO.refl _)
   | (with_reducible exact LeO.none _)
   | (with_reducible refine LeO.ite ?_ ?_)
   | (with_reducible refine LeO.bind ?_ (fun _ => ?_))
   | exact ih0 _ _ _
   | exact ih1 _ _ _ _
   | exact ih2 _ _ _ _
   | exact LeO.none _
   | refine LeO.ite ?_ ?_
   | refine LeO.bind ?_ (fun _ => ?_)
  ·intro y0 y1 y2 y3
   unfold accountingref01_Mul.j1
   repeat' first
   | (with_reducible exact ih0 _ _ _)
   | (with_reducible exact ih1 _ _ _ _)
   | (with_reducible exact ih2 _ _ _ _)
   | (with_reducible exact LeO.refl _)
   | (with_reducible exact LeO.none _)
   | (with_reducible refine LeO.ite ?_ ?_)
   | (with_reducible refine LeO.bind ?_ (fun _ => ?_))
   | exact ih0 _ _ _
   | exact ih1 _ _ _ _
   | exact ih2 _ _ _ _
   | exact LeO.none _
   | refine LeO.ite ?_ ?_
   | refine LeO.bind ?_ (fun _ => ?_)
  ·intro y0 y1 y2 y3
   unfold accountingref01_Mul.j2
   repeat' first
   | (with_reducible exact ih0 _ _ _)
   | (with_reducible exact ih1 _ _ _ _)
   | (with_reducible exact ih2 _ _ _ _)
   | (with_reducible exact LeO.refl _)
   | (with_reducible exact LeO.none _)
   | (with_reducible refine LeO.ite ?_ ?_)
   | (with_reducible refine LeO.bind ?_ (fun _ => ?_))
   | exact ih0 _ _ _
   | exact ih1 _ _ _ _
   | exact ih2 _ _ _ _
   | exact LeO.none _
   | refine LeO.ite ?_ ?_
   | refine LeO.bind ?_ (fun _ => ?_)
theorem accountingref01_Mul.mono : ∀ a0 a1 k, LeO (accountingref01_Mul.f k a0 a1) (accountingref01_Mul.f (k + 1) a0 a1) := by
 intro a0 a1 k
 obtain ⟨ih0, ih1, ih2⟩ := accountingref01_Mul.mono_l k
 unfold accountingref01_Mul.f
 repeat' first
   | (with_reducible exact ih0 _ _ _)
   | (with_reducible exact ih1 _ _ _ _)
   | (with_reducible exact ih2 _ _ _ _)
   | (with_reducible exact LeO.refl _)
   | (with_reducible exact LeO.none _)
   | (with_reducible refine LeO.ite ?_ ?_)
   | (with_reducible refine LeO.bind ?_ (fun _ => ?_))
   | exact ih0 _ _ _
   | exact ih1 _ _ _ _
   | exact ih2 _ _ _ _
   | exact LeO.none _
   | refine LeO.ite ?_ ?_
   | refine LeO.bind ?_ (fun _ => ?_)
set_option maxHeartbeats 8000000 in
set_option maxRecDepth 100000 in
theorem accountingref01_Mul.calls (k : Nat) (a0 : Int) (a1 : Int) (r1 : Int) (r2 : Bool) (w : World) (h : accountingref01_Mul.f k a0 a1 = some (r1, r2)) :
  Calls Tryd.prog 29 #[.int .i64 a0, .int .i64 a1] w fun e w' => e = .returned (.tuple #[.int .i64 r1, .bool r2]) ∧ Drawn0 w w' := by
 have H : ((accountingref01_size.f a0).bind fun t101 => ((accountingref01_size.f a1).bind fun t102 => (if a0 < 0 then (if a1 > 0 then (accountingref01_Mul.j0 k t101 t102 true) else (if a0 > 0 then (accountingref01_Mul.j0 k t101 t102 (decide (a1 < 0))) else (accountingref01_Mul.j0 k t101 t102 false))) else (if a0 > 0 then (accountingref01_Mul.j0 k t101 t102 (decide (a1 < 0))) else (accountingref01_Mul.j0 k t101 t102 false))))) = some (r1, r2) := h
 clear h
 replace H := Option.bind_eq_some_iff.mp H
 obtain ⟨t101, A30, H⟩ := H
 replace H : ((accountingref01_size.f a1).bind fun t102 => (if a0 < 0 then (if a1 > 0 then (accountingref01_Mul.j0 k t101 t102 true) else (if a0 > 0 then (accountingref01_Mul.j0 k t101 t102 (decide (a1 < 0))) else (accountingref01_Mul.j0 k t101 t102 false))) else (if a0 > 0 then (accountingref01_Mul.j0 k t101 t102 (decide (a1 < 0))) else (accountingref01_Mul.j0 k t101 t102 false)))) = some (r1, r2) := H
 have A3 := Aside0.mk A30
 clear A30
 replace H := Option.bind_eq_some_iff.mp H
 obtain ⟨t102, A40, H⟩ := H
 replace H : (if a0 < 0 then (if a1 > 0 then (accountingref01_Mul.j0 k t101 t102 true) else (if a0 > 0 then (accountingref01_Mul.j0 k t101 t102 (decide (a1 < 0))) else (accountingref01_Mul.j0 k t101 t102 false))) else (if a0 > 0 then (accountingref01_Mul.j0 k t101 t102 (decide (a1 < 0))) else (accountingref01_Mul.j0 k t101 t102 false))) = some (r1, r2) := H
 have A4 := Aside0.mk A40
 clear A40
 have HC5 := Aside0.mk H
 clear H
 go_enter Tryd.func29, Tryd.ntmps29
 go_upto_region 2 with (first | ((with_reducible refine gate_callee (f := 42) rfl ?_); refine goesL_ (some 11) rfl rfl Tryd.func42 (by kernel_rfl) rfl #[.int .i64 a0] rfl zq3 ?_; (with_reducible refine (accountingref01_size.calls a0 t101 _ A3.out).mono ?_); rintro e w' ⟨rfl, ⟨nd, rfl⟩⟩; refine ⟨_, rfl, ?_⟩) | ((with_reducible refine gate_callee (f := 42) rfl ?_); refine goesL_ (some 13) rfl rfl Tryd.func42 (by kernel_rfl) rfl #[.int .i64 a1] rfl zq3 ?_; (with_reducible refine (accountingref01_size.calls a1 t102 _ A4.out).mono ?_); rintro e w' ⟨rfl, ⟨nd, rfl⟩⟩; refine ⟨_, rfl, ?_⟩))
 (try simp only [Act.put, List.setIfInBounds_toArray, List.set_cons_zero, List.set_cons_succ])
 go_cut [8] (fun v8 wc => ∃ (kq : Nat) (x8_4 : Bool), v8 = .bool x8_4 ∧ Aside0 (accountingref01_Mul.j0 kq t101 t102 x8_4 = some (r1, r2)) ∧ Aside0 (kq ≤ k) ∧ Drawn0 w wc)
 case first =>
  have H := HC5.out
  clear HC5
  by_cases c6 : a0 < 0
  ·rw [if_pos c6] at H
   have c6b0 : decide (a0 < 0) = true := decide_eq_true c6
   clear c6
   (first | rw [c6b0] | (simp only [i64_w, i32_w]; rw [c6b0]) | skip)
   by_cases c7 : a1 > 0
   ·rw [if_pos c7] at H
    have c7b0 : decide (0 < a1) = true := decide_eq_true c7
    clear c7
    have H' := Aside0.mk H
    clear H
    go_wp2
    go_meet
    case rel => exact ⟨_, (true), zq1, H', ⟨by first | omega | exact Nat.le_refl _⟩, zq2⟩
   ·rw [if_neg c7] at H
    have c7b0 : decide (0 < a1) = false := decide_eq_false c7
    clear c7
    by_cases c8 : a0 > 0
    ·rw [if_pos c8] at H
     have c8b0 : decide (0 < a0) = true := decide_eq_true c8
     clear c8
     have H' := Aside0.mk H
     clear H
     go_wp2
     go_meet
     case rel => exact ⟨_, (decide (a1 < 0)), zq1, H', ⟨by first | omega | exact Nat.le_refl _⟩, zq2⟩
    ·rw [if_neg c8] at H
     have c8b0 : decide (0 < a0) = false := decide_eq_false c8
     clear c8
     have H' := Aside0.mk H
     clear H
     go_wp2
     go_meet
     case rel => exact ⟨_, (false), zq1, H', ⟨by first | omega | exact Nat.le_refl _⟩, zq2⟩
  ·rw [if_neg c6] at H
   have c6b0 : decide (a0 < 0) = false := decide_eq_false c6
   clear c6
   (first | rw [c6b0] | (simp only [i64_w, i32_w]; rw [c6b0]) | skip)
   by_cases c9 : a0 > 0
   ·rw [if_pos c9] at H
    have c9b0 : decide (0 < a0) = true := decide_eq_true c9
    clear c9
    have H' := Aside0.mk H
    clear H
    go_wp2
    go_meet
    case rel => exact ⟨_, (decide (a1 < 0)), zq1, H', ⟨by first | omega | exact Nat.le_refl _⟩, zq2⟩
   ·rw [if_neg c9] at H
    have c9b0 : decide (0 < a0) = false := decide_eq_false c9
    clear c9
    have H' := Aside0.mk H
    clear H
    go_wp2
    go_meet
    case rel => exact ⟨_, (false), zq1, H', ⟨by first | omega | exact Nat.le_refl _⟩, zq2⟩
 case rest =>
  clear HC5
  try clear c2
  try clear p2
  try clear c4
  try clear c6
  try clear c6b0
  try clear c7
  try clear c7b0
  try clear c8
  try clear c8b0
  try clear c9
  try clear c9b0
  obtain ⟨kq, x8_4, rfl, HA, HJ4, ⟨mc4, rfl⟩⟩ := hcut
  cases kq with
  | zero => exact absurd HA.out (by simp [accountingref01_Mul.j0])
  | succ kj4 =>
   have H := HA.out
   clear HA
   simp only [accountingref01_Mul.j0] at H
   have HC10 := Aside0.mk H
   clear H
   go_upto_if 28 with (fail)
   go_cut [9] (fun v9 wc => ∃ (kq : Nat) (x9_9 : Int), v9 = .int .u64 x9_9 ∧ Aside0 (accountingref01_Mul.j1 kq t101 t102 x8_4 x9_9 = some (r1, r2)) ∧ Aside0 (kq ≤ kj4) ∧ Drawn0 w wc)
   case first =>
    have H := HC10.out
    clear HC10
    by_cases c11 : x8_4 = true
    ·subst c11
     have H1 : (accountingref01_Mul.j1 kj4 t101 t102 true 9223372036854775808) = some (r1, r2) := by rw [if_pos rfl] at H; exact H
     clear H
     have H := H1
     clear H1
     have H' := Aside0.mk H
     clear H
     go_wp2
     go_meet
     case rel => exact ⟨_, (9223372036854775808), zq1, H', ⟨zq4⟩, zq2⟩
    ·replace c11 := Bool.eq_false_iff.mpr c11
     subst c11
     have H1 : (accountingref01_Mul.j1 kj4 t101 t102 false 9223372036854775807) = some (r1, r2) := by rw [if_neg (show ¬ (false = true) by decide)] at H; exact H
     clear H
     have H := H1
     clear H1
     have H' := Aside0.mk H
     clear H
     go_wp2
     go_meet
     case rel => exact ⟨_, (9223372036854775807), zq1, H', ⟨zq4⟩, zq2⟩
   case rest =>
    clear HC10
    try clear c1
    try clear c2
    try clear p2
    try clear c4
    try clear c6
    try clear c6b0
    try clear c7
    try clear c7b0
    try clear c8
    try clear c8b0
    try clear c9
    try clear c9b0
    try clear c11
    try clear p2
    obtain ⟨kq, x9_9, rfl, HA, HJ9, ⟨mc9, rfl⟩⟩ := hcut
    cases kq with
    | zero => exact absurd HA.out (by simp [accountingref01_Mul.j1])
    | succ kj9 =>
     have H := HA.out
     clear HA
     simp only [accountingref01_Mul.j1] at H
     have HC12 := Aside0.mk H
     clear H
     go_upto_region 6 with (fail)
     go_cut [37] (fun v37 wc => ∃ (kq : Nat) (x37_11 : Bool), v37 = .bool x37_11 ∧ Aside0 (accountingref01_Mul.j2 kq t101 t102 x8_4 x37_11 = some (r1, r2)) ∧ Aside0 (kq ≤ kj9) ∧ Drawn0 w wc)
     case first =>
      have H := HC12.out
      clear HC12
      by_cases c13 : t102 > 0
      ·rw [if_pos c13] at H
       have c13b0 : decide (0 < t102) = true := decide_eq_true c13
       clear c13
       (first | rw [c13b0] | (simp only [i64_w, i32_w]; rw [c13b0]) | skip)
       by_cases c14 : t102 = 0
       ·rw [if_pos c14] at H
        exact absurd H (by simp)
       ·rw [if_neg c14] at H
        have c14b0 : (t102 == 0) = false := beq_eq_false_iff_ne.mpr c14
        have c14b1 : (t102 != 0) = true := bne_iff_ne.mpr c14
        have H' := Aside0.mk H
        clear H
        go_wp2
        go_meet
        case rel => exact ⟨_, (decide (t101 > (IntKind.u64.wrap (Int.tdiv x9_9 t102)))), zq1, H', ⟨by have := HJ4.out; have := HJ9.out; first | omega | exact Nat.le_refl _⟩, zq2⟩
      ·rw [if_neg c13] at H
       have c13b0 : decide (0 < t102) = false := decide_eq_false c13
       clear c13
       (first | rw [c13b0] | (simp only [i64_w, i32_w]; rw [c13b0]) | skip)
       have H' := Aside0.mk H
       clear H
       go_wp2
       go_meet
       case rel => exact ⟨_, (false), zq1, H', ⟨by have := HJ4.out; have := HJ9.out; first | omega | exact Nat.le_refl _⟩, zq2⟩
     case rest =>
      clear HC12
      try clear c1
      try clear c2
      try clear p2
      try clear c4
      try clear c6
      try clear c6b0
      try clear c7
      try clear c7b0
      try clear c8
      try clear c8b0
      try clear c9
      try clear c9b0
      try clear c11
      try clear c13
      try clear c13b0
      try clear c14
      try clear c14b0
      try clear c14b1
      try clear p2
      obtain ⟨kq, x37_11, rfl, HA, HJ11, ⟨mc11, rfl⟩⟩ := hcut
      cases kq with
      | zero => exact absurd HA.out (by simp [accountingref01_Mul.j2])
      | succ kj11 =>
       have H := HA.out
       clear HA
       simp only [accountingref01_Mul.j2] at H
       by_cases c15 : x37_11 = true
       ·subst c15
        have H1 : (some (0, false)) = some (r1, r2) := by rw [if_pos rfl] at H; exact H
        clear H
        have H := H1
        clear H1
        simp only [Option.some.injEq, Prod.mk.injEq] at H
        obtain ⟨rfl, rfl⟩ := H
        go_wp2
        go_ret2
        exact ⟨zq1, zq2⟩
       ·replace c15 := Bool.eq_false_iff.mpr c15
        subst c15
        have H1 : (if x8_4 = true then (some (wrap64 (-(wrap64 (IntKind.u64.wrap (t101 * t102)))), true)) else (some (wrap64 (IntKind.u64.wrap (t101 * t102)), true))) = some (r1, r2) := by rw [if_neg (show ¬ (false = true) by decide)] at H; exact H
        clear H
        have H := H1
        clear H1
        by_cases c16 : x8_4 = true
        ·subst c16
         have H1 : (some (wrap64 (-(wrap64 (IntKind.u64.wrap (t101 * t102)))), true)) = some (r1, r2) := by rw [if_pos rfl] at H; exact H
         clear H
         have H := H1
         clear H1
         simp only [Option.some.injEq, Prod.mk.injEq] at H
         obtain ⟨rfl, rfl⟩ := H
         go_wp2
         go_ret2
         exact ⟨zq1, zq2⟩
        ·replace c16 := Bool.eq_false_iff.mpr c16
         subst c16
         have H1 : (some (wrap64 (IntKind.u64.wrap (t101 * t102)), true)) = some (r1, r2) := by rw [if_neg (show ¬ (false = true) by decide)] at H; exact H
         clear H
         have H := H1
         clear H1
         simp only [Option.some.injEq, Prod.mk.injEq] at H
         obtain ⟨rfl, rfl⟩ := H
         go_wp2
         go_ret2
         exact ⟨zq1, zq2⟩

/-! ### accountingref07_Scale: function 11 -/
mutual
def accountingref07_Scale.j0 : Nat → Int → Int → Int → Int → Bool → Option (Int × Int)
 | 0, _, _, _, _, _ => none
 | k + 1, x0, x1, x2, x3, x17 => if x17 = true then (some (0, 10)) else (if x1 < 0 then (accountingref07_Scale.j1 k x0 x1 x2 x3 true) else (if x1 > 4 then (accountingref07_Scale.j1 k x0 x1 x2 x3 true) else (if x2 < 0 then (accountingref07_Scale.j1 k x0 x1 x2 x3 true) else (accountingref07_Scale.j1 k x0 x1 x2 x3 (decide (x2 > 4))))))
def accountingref07_Scale.j1 : Nat → Int → Int → Int → Int → Bool → Option (Int × Int)
 | 0, _, _, _, _, _ => none
 | k + 1, x0, x1, x2, x3, x31 => if x31 = true then (some (0, 2)) else ((accountingref07_large.f x0).bind fun t103 => (if t103 = true then (some (0, 4)) else (if x1 ≥ x2 then ((accountingref07_Power.f k (wrap64 (x1 - x2))).bind fun t104 => ((accountingref07_Round.f k x0 t104 x3).bind fun t105 => (some (t105, 0)))) else ((accountingref07_Power.f k (wrap64 (x2 - x1))).bind fun t106 => ((accountingref01_Mul.f k x0 t106).bind fun bt107 => (if bt107.2 = true then ((accountingref07_large.f bt107.1).bind fun t109 => (if t109 = true then (some (0, 4)) else (some (bt107.1, 0)))) else (some (0, 4))))))))
end
def accountingref07_Scale.f (k : Nat) (a0 : Int) (a1 : Int) (a2 : Int) (a3 : Int) : Option (Int × Int) := if a3 < 1 then (accountingref07_Scale.j0 k a0 a1 a2 a3 true) else (accountingref07_Scale.j0 k a0 a1 a2 a3 (decide (a3 > 5)))
theorem accountingref07_Scale.mono_l : ∀ k, (∀ y0 y1 y2 y3 y4, LeO (accountingref07_Scale.j0 k y0 y1 y2 y3 y4) (accountingref07_Scale.j0 (k + 1) y0 y1 y2 y3 y4)) ∧ (∀ y0 y1 y2 y3 y4, LeO (accountingref07_Scale.j1 k y0 y1 y2 y3 y4) (accountingref07_Scale.j1 (k + 1) y0 y1 y2 y3 y4))
 | 0 => ⟨fun _ _ _ _ _ r h => by simp [accountingref07_Scale.j0] at h, fun _ _ _ _ _ r h => by simp [accountingref07_Scale.j1] at h⟩
 | k + 1 => by
  obtain ⟨ih0, ih1⟩ := accountingref07_Scale.mono_l k
  refine ⟨?_, ?_⟩
  ·intro y0 y1 y2 y3 y4
   unfold accountingref07_Scale.j0
   repeat' first
   | (with_reducible exact ih0 _ _ _ _ _)
   | (with_reducible exact ih1 _ _ _ _ _)
   | (with_reducible exact accountingref01_Mul.mono _ _ _)
   | (with_reducible exact accountingref07_Power.mono _ _)
   | (with_reducible exact accountingref07_Round.mono _ _ _ _)
   | (with_reducible exact LeO.refl _)
   | (with_reducible exact LeO.none _)
   | (with_reducible refine LeO.ite ?_ ?_)
   | (with_reducible refine LeO.bind ?_ (fun _ => ?_))
   | exact ih0 _ _ _ _ _
   | exact ih1 _ _ _ _ _
   | exact accountingref01_Mul.mono _ _ _
   | exact accountingref07_Power.mono _ _
   | exact accountingref07_Round.mono _ _ _ _
   | exact LeO.none _
   | refine LeO.ite ?_ ?_
   | refine LeO.bind ?_ (fun _ => ?_)
  ·intro y0 y1 y2 y3 y4
   unfold accountingref07_Scale.j1
   repeat' first
   | (with_reducible exact ih0 _ _ _ _ _)
   | (with_reducible exact ih1 _ _ _ _ _)
   | (with_reducible exact accountingref01_Mul.mono _ _ _)
   | (with_reducible exact accountingref07_Power.mono _ _)
   | (with_reducible exact accountingref07_Round.mono _ _ _ _)
   | (with_reducible exact LeO.refl _)
   | (with_reducible exact LeO.none _)
   | (with_reducible refine LeO.ite ?_ ?_)
   | (with_reducible refine LeO.bind ?_ (fun _ => ?_))
   | exact ih0 _ _ _ _ _
   | exact ih1 _ _ _ _ _
   | exact accountingref01_Mul.mono _ _ _
   | exact accountingref07_Power.mono _ _
   | exact accountingref07_Round.mono _ _ _ _
   | exact LeO.none _
   | refine LeO.ite ?_ ?_
   | refine LeO.bind ?_ (fun _ => ?_)
theorem accountingref07_Scale.mono : ∀ a0 a1 a2 a3 k, LeO (accountingref07_Scale.f k a0 a1 a2 a3) (accountingref07_Scale.f (k + 1) a0 a1 a2 a3) := by
 intro a0 a1 a2 a3 k
 obtain ⟨ih0, ih1⟩ := accountingref07_Scale.mono_l k
 unfold accountingref07_Scale.f
 repeat' first
   | (with_reducible exact ih0 _ _ _ _ _)
   | (with_reducible exact ih1 _ _ _ _ _)
   | (with_reducible exact accountingref01_Mul.mono _ _ _)
   | (with_reducible exact accountingref07_Power.mono _ _)
   | (with_reducible exact accountingref07_Round.mono _ _ _ _)
   | (with_reducible exact LeO.refl _)
   | (with_reducible exact LeO.none _)
   | (with_reducible refine LeO.ite ?_ ?_)
   | (with_reducible refine LeO.bind ?_ (fun _ => ?_))
   | exact ih0 _ _ _ _ _
   | exact ih1 _ _ _ _ _
   | exact accountingref01_Mul.mono _ _ _
   | exact accountingref07_Power.mono _ _
   | exact accountingref07_Round.mono _ _ _ _
   | exact LeO.none _
   | refine LeO.ite ?_ ?_
   | refine LeO.bind ?_ (fun _ => ?_)
set_option maxHeartbeats 8000000 in
set_option maxRecDepth 100000 in
theorem accountingref07_Scale.calls (k : Nat) (a0 : Int) (a1 : Int) (a2 : Int) (a3 : Int) (r1 : Int) (r2 : Int) (w : World) (h : accountingref07_Scale.f k a0 a1 a2 a3 = some (r1, r2)) :
  Calls Tryd.prog 11 #[.int .i64 a0, .int .i64 a1, .int .i64 a2, .int .i64 a3] w fun e w' => e = .returned (.tuple #[.int .i64 r1, .int .i64 r2]) ∧ Drawn0 w w' := by
 have H : (if a3 < 1 then (accountingref07_Scale.j0 k a0 a1 a2 a3 true) else (accountingref07_Scale.j0 k a0 a1 a2 a3 (decide (a3 > 5)))) = some (r1, r2) := h
 clear h
 have HC5 := Aside0.mk H
 clear H
 go_enter Tryd.func11, Tryd.ntmps11
 go_upto_region 1 with (fail)
 go_cut [17] (fun v17 wc => ∃ (kq : Nat) (x17_4 : Bool), v17 = .bool x17_4 ∧ Aside0 (accountingref07_Scale.j0 kq a0 a1 a2 a3 x17_4 = some (r1, r2)) ∧ Aside0 (kq ≤ k) ∧ Drawn0 w wc)
 case first =>
  have H := HC5.out
  clear HC5
  by_cases c6 : a3 < 1
  ·rw [if_pos c6] at H
   have c6b0 : decide (a3 < 1) = true := decide_eq_true c6
   clear c6
   (first | rw [c6b0] | (simp only [i64_w, i32_w]; rw [c6b0]) | skip)
   have H' := Aside0.mk H
   clear H
   go_wp2
   go_meet
   case rel => exact ⟨_, (true), zq1, H', ⟨by first | omega | exact Nat.le_refl _⟩, zq2⟩
  ·rw [if_neg c6] at H
   have c6b0 : decide (a3 < 1) = false := decide_eq_false c6
   clear c6
   (first | rw [c6b0] | (simp only [i64_w, i32_w]; rw [c6b0]) | skip)
   have H' := Aside0.mk H
   clear H
   go_wp2
   go_meet
   case rel => exact ⟨_, (decide (a3 > 5)), zq1, H', ⟨by first | omega | exact Nat.le_refl _⟩, zq2⟩
 case rest =>
  clear HC5
  try clear c1
  try clear p2
  try clear c6
  try clear c6b0
  obtain ⟨kq, x17_4, rfl, HA, HJ4, ⟨mc4, rfl⟩⟩ := hcut
  cases kq with
  | zero => exact absurd HA.out (by simp [accountingref07_Scale.j0])
  | succ kj4 =>
   have H := HA.out
   clear HA
   simp only [accountingref07_Scale.j0] at H
   by_cases c7 : x17_4 = true
   ·subst c7
    have H1 : (some (0, 10)) = some (r1, r2) := by rw [if_pos rfl] at H; exact H
    clear H
    have H := H1
    clear H1
    simp only [Option.some.injEq, Prod.mk.injEq] at H
    obtain ⟨rfl, rfl⟩ := H
    go_wp2
    go_ret2
    exact ⟨zq1, zq2⟩
   ·replace c7 := Bool.eq_false_iff.mpr c7
    subst c7
    have H1 : (if a1 < 0 then (accountingref07_Scale.j1 kj4 a0 a1 a2 a3 true) else (if a1 > 4 then (accountingref07_Scale.j1 kj4 a0 a1 a2 a3 true) else (if a2 < 0 then (accountingref07_Scale.j1 kj4 a0 a1 a2 a3 true) else (accountingref07_Scale.j1 kj4 a0 a1 a2 a3 (decide (a2 > 4)))))) = some (r1, r2) := by rw [if_neg (show ¬ (false = true) by decide)] at H; exact H
    clear H
    have H := H1
    clear H1
    have HC8 := Aside0.mk H
    clear H
    go_upto_region 3 with (fail)
    go_cut [31] (fun v31 wc => ∃ (kq : Nat) (x31_7 : Bool), v31 = .bool x31_7 ∧ Aside0 (accountingref07_Scale.j1 kq a0 a1 a2 a3 x31_7 = some (r1, r2)) ∧ Aside0 (kq ≤ kj4) ∧ Drawn0 w wc)
    case first =>
     have H := HC8.out
     clear HC8
     by_cases c9 : a1 < 0
     ·rw [if_pos c9] at H
      have c9b0 : decide (a1 < 0) = true := decide_eq_true c9
      clear c9
      (first | rw [c9b0] | (simp only [i64_w, i32_w]; rw [c9b0]) | skip)
      have H' := Aside0.mk H
      clear H
      go_wp2
      go_meet
      case rel => exact ⟨_, (true), zq1, H', ⟨zq4⟩, zq2⟩
     ·rw [if_neg c9] at H
      have c9b0 : decide (a1 < 0) = false := decide_eq_false c9
      clear c9
      (first | rw [c9b0] | (simp only [i64_w, i32_w]; rw [c9b0]) | skip)
      by_cases c10 : a1 > 4
      ·rw [if_pos c10] at H
       have c10b0 : decide (4 < a1) = true := decide_eq_true c10
       clear c10
       have H' := Aside0.mk H
       clear H
       go_wp2
       go_meet
       case rel => exact ⟨_, (true), zq1, H', ⟨zq4⟩, zq2⟩
      ·rw [if_neg c10] at H
       have c10b0 : decide (4 < a1) = false := decide_eq_false c10
       clear c10
       by_cases c11 : a2 < 0
       ·rw [if_pos c11] at H
        have c11b0 : decide (a2 < 0) = true := decide_eq_true c11
        clear c11
        have H' := Aside0.mk H
        clear H
        go_wp2
        go_meet
        case rel => exact ⟨_, (true), zq1, H', ⟨zq4⟩, zq2⟩
       ·rw [if_neg c11] at H
        have c11b0 : decide (a2 < 0) = false := decide_eq_false c11
        clear c11
        have H' := Aside0.mk H
        clear H
        go_wp2
        go_meet
        case rel => exact ⟨_, (decide (a2 > 4)), zq1, H', ⟨zq4⟩, zq2⟩
    case rest =>
     clear HC8
     try clear c1
     try clear p2
     try clear c4
     try clear c6
     try clear c6b0
     try clear c7
     try clear c9
     try clear c9b0
     try clear c10
     try clear c10b0
     try clear c11
     try clear c11b0
     try clear p2
     obtain ⟨kq, x31_7, rfl, HA, HJ7, ⟨mc7, rfl⟩⟩ := hcut
     cases kq with
     | zero => exact absurd HA.out (by simp [accountingref07_Scale.j1])
     | succ kj7 =>
      have H := HA.out
      clear HA
      simp only [accountingref07_Scale.j1] at H
      by_cases c12 : x31_7 = true
      ·subst c12
       have H1 : (some (0, 2)) = some (r1, r2) := by rw [if_pos rfl] at H; exact H
       clear H
       have H := H1
       clear H1
       simp only [Option.some.injEq, Prod.mk.injEq] at H
       obtain ⟨rfl, rfl⟩ := H
       go_wp2
       go_ret2
       exact ⟨zq1, zq2⟩
      ·replace c12 := Bool.eq_false_iff.mpr c12
       subst c12
       have H1 : ((accountingref07_large.f a0).bind fun t103 => (if t103 = true then (some (0, 4)) else (if a1 ≥ a2 then ((accountingref07_Power.f kj7 (wrap64 (a1 - a2))).bind fun t104 => ((accountingref07_Round.f kj7 a0 t104 a3).bind fun t105 => (some (t105, 0)))) else ((accountingref07_Power.f kj7 (wrap64 (a2 - a1))).bind fun t106 => ((accountingref01_Mul.f kj7 a0 t106).bind fun bt107 => (if bt107.2 = true then ((accountingref07_large.f bt107.1).bind fun t109 => (if t109 = true then (some (0, 4)) else (some (bt107.1, 0)))) else (some (0, 4)))))))) = some (r1, r2) := by rw [if_neg (show ¬ (false = true) by decide)] at H; exact H
       clear H
       have H := H1
       clear H1
       replace H := Option.bind_eq_some_iff.mp H
       obtain ⟨t103, A130, H⟩ := H
       replace H : (if t103 = true then (some (0, 4)) else (if a1 ≥ a2 then ((accountingref07_Power.f kj7 (wrap64 (a1 - a2))).bind fun t104 => ((accountingref07_Round.f kj7 a0 t104 a3).bind fun t105 => (some (t105, 0)))) else ((accountingref07_Power.f kj7 (wrap64 (a2 - a1))).bind fun t106 => ((accountingref01_Mul.f kj7 a0 t106).bind fun bt107 => (if bt107.2 = true then ((accountingref07_large.f bt107.1).bind fun t109 => (if t109 = true then (some (0, 4)) else (some (bt107.1, 0)))) else (some (0, 4))))))) = some (r1, r2) := H
       have A13 := Aside0.mk A130
       clear A130
       by_cases c14 : t103 = true
       ·subst c14
        have H1 : (some (0, 4)) = some (r1, r2) := by rw [if_pos rfl] at H; exact H
        clear H
        have H := H1
        clear H1
        simp only [Option.some.injEq, Prod.mk.injEq] at H
        obtain ⟨rfl, rfl⟩ := H
        go_wp2_with (first | ((with_reducible refine gate_callee (f := 27) rfl ?_); refine goesL_ (some 33) rfl rfl Tryd.func27 (by kernel_rfl) rfl #[.int .i64 a0] rfl zq3 ?_; (with_reducible refine (accountingref07_large.calls a0 true _ A13.out).mono ?_); rintro e w' ⟨rfl, ⟨nd, rfl⟩⟩; refine ⟨_, rfl, ?_⟩))
        go_ret2
        exact ⟨zq1, zq2⟩
       ·replace c14 := Bool.eq_false_iff.mpr c14
        subst c14
        have H1 : (if a1 ≥ a2 then ((accountingref07_Power.f kj7 (wrap64 (a1 - a2))).bind fun t104 => ((accountingref07_Round.f kj7 a0 t104 a3).bind fun t105 => (some (t105, 0)))) else ((accountingref07_Power.f kj7 (wrap64 (a2 - a1))).bind fun t106 => ((accountingref01_Mul.f kj7 a0 t106).bind fun bt107 => (if bt107.2 = true then ((accountingref07_large.f bt107.1).bind fun t109 => (if t109 = true then (some (0, 4)) else (some (bt107.1, 0)))) else (some (0, 4)))))) = some (r1, r2) := by rw [if_neg (show ¬ (false = true) by decide)] at H; exact H
        clear H
        have H := H1
        clear H1
        by_cases c15 : a1 ≥ a2
        ·rw [if_pos c15] at H
         have c15b0 : decide (a2 ≤ a1) = true := decide_eq_true c15
         clear c15
         replace H := Option.bind_eq_some_iff.mp H
         obtain ⟨t104, A160, H⟩ := H
         replace H : ((accountingref07_Round.f kj7 a0 t104 a3).bind fun t105 => (some (t105, 0))) = some (r1, r2) := H
         have A16 := Aside0.mk A160
         clear A160
         replace H := Option.bind_eq_some_iff.mp H
         obtain ⟨t105, A170, H⟩ := H
         replace H : (some (t105, 0)) = some (r1, r2) := H
         have A17 := Aside0.mk A170
         clear A170
         simp only [Option.some.injEq, Prod.mk.injEq] at H
         obtain ⟨rfl, rfl⟩ := H
         go_wp2_with (first | ((with_reducible refine gate_callee (f := 27) rfl ?_); refine goesL_ (some 33) rfl rfl Tryd.func27 (by kernel_rfl) rfl #[.int .i64 a0] rfl zq3 ?_; (with_reducible refine (accountingref07_large.calls a0 false _ A13.out).mono ?_); rintro e w' ⟨rfl, ⟨nd, rfl⟩⟩; refine ⟨_, rfl, ?_⟩) | ((with_reducible refine gate_callee (f := 13) rfl ?_); refine goesL_ (some 41) rfl rfl Tryd.func13 (by kernel_rfl) rfl #[.int .i64 (wrap64 (a1 - a2))] rfl zq3 ?_; (with_reducible refine (accountingref07_Power.calls kj7 (wrap64 (a1 - a2)) t104 _ A16.out).mono ?_); rintro e w' ⟨rfl, ⟨nd, rfl⟩⟩; refine ⟨_, rfl, ?_⟩) | ((with_reducible refine gate_callee (f := 28) rfl ?_); refine goesL_ (some 43) rfl rfl Tryd.func28 (by kernel_rfl) rfl #[.int .i64 a0, .int .i64 t104, .int .i64 a3] rfl zq3 ?_; (with_reducible refine (accountingref07_Round.calls kj7 a0 t104 a3 t105 _ A17.out).mono ?_); rintro e w' ⟨rfl, ⟨nd, rfl⟩⟩; refine ⟨_, rfl, ?_⟩))
         go_ret2
         exact ⟨zq1, zq2⟩
        ·rw [if_neg c15] at H
         have c15b0 : decide (a2 ≤ a1) = false := decide_eq_false c15
         clear c15
         replace H := Option.bind_eq_some_iff.mp H
         obtain ⟨t106, A180, H⟩ := H
         replace H : ((accountingref01_Mul.f kj7 a0 t106).bind fun bt107 => (if bt107.2 = true then ((accountingref07_large.f bt107.1).bind fun t109 => (if t109 = true then (some (0, 4)) else (some (bt107.1, 0)))) else (some (0, 4)))) = some (r1, r2) := H
         have A18 := Aside0.mk A180
         clear A180
         replace H := Option.bind_eq_some_iff.mp H
         obtain ⟨⟨t107, t108⟩, A190, H⟩ := H
         replace H : (if t108 = true then ((accountingref07_large.f t107).bind fun t109 => (if t109 = true then (some (0, 4)) else (some (t107, 0)))) else (some (0, 4))) = some (r1, r2) := H
         have A19 := Aside0.mk A190
         clear A190
         by_cases c20 : t108 = true
         ·subst c20
          have H1 : ((accountingref07_large.f t107).bind fun t109 => (if t109 = true then (some (0, 4)) else (some (t107, 0)))) = some (r1, r2) := by rw [if_pos rfl] at H; exact H
          clear H
          have H := H1
          clear H1
          replace H := Option.bind_eq_some_iff.mp H
          obtain ⟨t109, A210, H⟩ := H
          replace H : (if t109 = true then (some (0, 4)) else (some (t107, 0))) = some (r1, r2) := H
          have A21 := Aside0.mk A210
          clear A210
          by_cases c22 : t109 = true
          ·subst c22
           have H1 : (some (0, 4)) = some (r1, r2) := by rw [if_pos rfl] at H; exact H
           clear H
           have H := H1
           clear H1
           simp only [Option.some.injEq, Prod.mk.injEq] at H
           obtain ⟨rfl, rfl⟩ := H
           go_wp2_with (first | ((with_reducible refine gate_callee (f := 27) rfl ?_); refine goesL_ (some 33) rfl rfl Tryd.func27 (by kernel_rfl) rfl #[.int .i64 a0] rfl zq3 ?_; (with_reducible refine (accountingref07_large.calls a0 false _ A13.out).mono ?_); rintro e w' ⟨rfl, ⟨nd, rfl⟩⟩; refine ⟨_, rfl, ?_⟩) | ((with_reducible refine gate_callee (f := 13) rfl ?_); refine goesL_ (some 49) rfl rfl Tryd.func13 (by kernel_rfl) rfl #[.int .i64 (wrap64 (a2 - a1))] rfl zq3 ?_; (with_reducible refine (accountingref07_Power.calls kj7 (wrap64 (a2 - a1)) t106 _ A18.out).mono ?_); rintro e w' ⟨rfl, ⟨nd, rfl⟩⟩; refine ⟨_, rfl, ?_⟩) | ((with_reducible refine gate_callee (f := 29) rfl ?_); refine goesL_ (some 50) rfl rfl Tryd.func29 (by kernel_rfl) rfl #[.int .i64 a0, .int .i64 t106] rfl zq3 ?_; (with_reducible refine (accountingref01_Mul.calls kj7 a0 t106 t107 true _ A19.out).mono ?_); rintro e w' ⟨rfl, ⟨nd, rfl⟩⟩; refine ⟨_, rfl, ?_⟩) | (go_at_call 27; (with_reducible refine (accountingref07_large.calls t107 true _ A21.out).mono ?_); rintro e w' ⟨rfl, ⟨nd, rfl⟩⟩))
           go_ret2
           exact ⟨zq1, zq2⟩
          ·replace c22 := Bool.eq_false_iff.mpr c22
           subst c22
           have H1 : (some (t107, 0)) = some (r1, r2) := by rw [if_neg (show ¬ (false = true) by decide)] at H; exact H
           clear H
           have H := H1
           clear H1
           simp only [Option.some.injEq, Prod.mk.injEq] at H
           obtain ⟨rfl, rfl⟩ := H
           go_wp2_with (first | ((with_reducible refine gate_callee (f := 27) rfl ?_); refine goesL_ (some 33) rfl rfl Tryd.func27 (by kernel_rfl) rfl #[.int .i64 a0] rfl zq3 ?_; (with_reducible refine (accountingref07_large.calls a0 false _ A13.out).mono ?_); rintro e w' ⟨rfl, ⟨nd, rfl⟩⟩; refine ⟨_, rfl, ?_⟩) | ((with_reducible refine gate_callee (f := 13) rfl ?_); refine goesL_ (some 49) rfl rfl Tryd.func13 (by kernel_rfl) rfl #[.int .i64 (wrap64 (a2 - a1))] rfl zq3 ?_; (with_reducible refine (accountingref07_Power.calls kj7 (wrap64 (a2 - a1)) t106 _ A18.out).mono ?_); rintro e w' ⟨rfl, ⟨nd, rfl⟩⟩; refine ⟨_, rfl, ?_⟩) | ((with_reducible refine gate_callee (f := 29) rfl ?_); refine goesL_ (some 50) rfl rfl Tryd.func29 (by kernel_rfl) rfl #[.int .i64 a0, .int .i64 t106] rfl zq3 ?_; (with_reducible refine (accountingref01_Mul.calls kj7 a0 t106 t107 true _ A19.out).mono ?_); rintro e w' ⟨rfl, ⟨nd, rfl⟩⟩; refine ⟨_, rfl, ?_⟩) | (go_at_call 27; (with_reducible refine (accountingref07_large.calls t107 false _ A21.out).mono ?_); rintro e w' ⟨rfl, ⟨nd, rfl⟩⟩))
           go_ret2
           exact ⟨zq1, zq2⟩
         ·replace c20 := Bool.eq_false_iff.mpr c20
          subst c20
          have H1 : (some (0, 4)) = some (r1, r2) := by rw [if_neg (show ¬ (false = true) by decide)] at H; exact H
          clear H
          have H := H1
          clear H1
          simp only [Option.some.injEq, Prod.mk.injEq] at H
          obtain ⟨rfl, rfl⟩ := H
          go_wp2_with (first | ((with_reducible refine gate_callee (f := 27) rfl ?_); refine goesL_ (some 33) rfl rfl Tryd.func27 (by kernel_rfl) rfl #[.int .i64 a0] rfl zq3 ?_; (with_reducible refine (accountingref07_large.calls a0 false _ A13.out).mono ?_); rintro e w' ⟨rfl, ⟨nd, rfl⟩⟩; refine ⟨_, rfl, ?_⟩) | ((with_reducible refine gate_callee (f := 13) rfl ?_); refine goesL_ (some 49) rfl rfl Tryd.func13 (by kernel_rfl) rfl #[.int .i64 (wrap64 (a2 - a1))] rfl zq3 ?_; (with_reducible refine (accountingref07_Power.calls kj7 (wrap64 (a2 - a1)) t106 _ A18.out).mono ?_); rintro e w' ⟨rfl, ⟨nd, rfl⟩⟩; refine ⟨_, rfl, ?_⟩) | ((with_reducible refine gate_callee (f := 29) rfl ?_); refine goesL_ (some 50) rfl rfl Tryd.func29 (by kernel_rfl) rfl #[.int .i64 a0, .int .i64 t106] rfl zq3 ?_; (with_reducible refine (accountingref01_Mul.calls kj7 a0 t106 t107 false _ A19.out).mono ?_); rintro e w' ⟨rfl, ⟨nd, rfl⟩⟩; refine ⟨_, rfl, ?_⟩))
          go_ret2
          exact ⟨zq1, zq2⟩

end Go.Proofs.YthmpapnhomngnaaDoor.A
