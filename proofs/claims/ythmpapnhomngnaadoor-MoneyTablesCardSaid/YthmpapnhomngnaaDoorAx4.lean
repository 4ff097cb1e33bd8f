-- By gen.py, a program of this session's, over the print's forms: not the print's own text.
import Derived.Test.YthmpapnhomngnaaDoorAx0
import Derived.Test.YthmpapnhomngnaaDoorQ
namespace Go.Proofs.YthmpapnhomngnaaDoor.A
open Go.RowKit Go.Proofs.YthmpapnhomngnaaDoor.B Go.Proofs.YthmpapnhomngnaaDoorW.PrintWords Go.Proofs.YthmpapnhomngnaaDoorW.PrintLast Go.Proofs.YthmpapnhomngnaaDoorW.PrintMore
attribute [local go_sem] max2_int min2_int max_two min_two max_three min_three max_four min_four   -- for this text's walks alone
set_option linter.unusedVariables false
set_option linter.unusedSimpArgs false

/-! ### num_formed: function 45 -/
mutual
def num_formed.j0 : Nat → ByteArray → Bool → Option (Bool)
 | 0, _, _ => none
 | k + 1, x0, x3 => if x3 = true then (if 1 ≤ (x0.size : Int) then (num_formed.j1 k (x0.extract 1 x0.size) x3) else (none)) else (num_formed.j1 k x0 x3)
def num_formed.j1 : Nat → ByteArray → Bool → Option (Bool)
 | 0, _, _ => none
 | k + 1, x0, x3 => if x0.toList = ([] : List UInt8) then (num_formed.j2 k x0 true) else (if 0 < (x0.size : Int) then (if (bt x0 0) = 48 then (if x3 = true then (num_formed.j2 k x0 true) else (num_formed.j2 k x0 (decide ((x0.size : Int) > 1)))) else (num_formed.j2 k x0 false)) else (none))
def num_formed.j2 : Nat → ByteArray → Bool → Option (Bool)
 | 0, _, _ => none
 | k + 1, x0, x30 => if x30 = true then (some false) else (num_formed.l0 k x0 (x0.size : Int) 0)
def num_formed.l0 : Nat → ByteArray → Int → Int → Option (Bool)
 | 0, _, _, _ => none
 | k + 1, x0, x32, x33 => if x33 < x32 then (if 0 ≤ x33 then (if x33 < (x0.size : Int) then (if (bt x0 x33) < 48 then (some false) else (if (bt x0 x33) > 57 then (some false) else (num_formed.l0 k x0 x32 (wrap64 (x33 + 1))))) else (none)) else (none)) else (some true)
end
def num_formed.f (k : Nat) (a0 : ByteArray) : Option (Bool) := if (a0.size : Int) > 0 then (if 0 < (a0.size : Int) then (num_formed.j0 k a0 ((bt a0 0) == 45)) else (none)) else (num_formed.j0 k a0 false)
theorem num_formed.mono_l : ∀ k, (∀ y0 y1, LeO (num_formed.j0 k y0 y1) (num_formed.j0 (k + 1) y0 y1)) ∧ (∀ y0 y1, LeO (num_formed.j1 k y0 y1) (num_formed.j1 (k + 1) y0 y1)) ∧ (∀ y0 y1, LeO (num_formed.j2 k y0 y1) (num_formed.j2 (k + 1) y0 y1)) ∧ (∀ y0 y1 y2, LeO (num_formed.l0 k y0 y1 y2) (num_formed.l0 (k + 1) y0 y1 y2))
 | 0 => ⟨fun _ _ r h => by simp [num_formed.j0] at h, fun _ _ r h => by simp [num_formed.j1] at h, fun _ _ r h => by simp [num_formed.j2] at h, fun _ _ _ r h => by simp [num_formed.l0] at h⟩
 | k + 1 => by
  obtain ⟨ih0, ih1, ih2, ih3⟩ := num_formed.mono_l k
  refine ⟨?_, ?_, ?_, ?_⟩
  ·intro y0 y1
   unfold num_formed.j0
   repeat' first
   | (with_reducible exact ih0 _ _)
   | (with_reducible exact ih1 _ _)
   | (with_reducible exact ih2 _ _)
   | (with_reducible exact ih3 _ _ _)
   | (with_reducible exact LeO.refl _)
   | (with_reducible exact LeO.none _)
   | (with_reducible refine LeO.ite ?_ ?_)
   | (with_reducible refine LeO.bind ?_ (fun _ => ?_))
   | exact ih0 _ _
   | exact ih1 _ _
   | exact ih2 _ _
   | exact ih3 _ _ _
   | exact LeO.none _
   | refine LeO.ite ?_ ?_
   | refine LeO.bind ?_ (fun _ => ?_)
  ·intro y0 y1
   unfold num_formed.j1
   repeat' first
   | (with_reducible exact ih0 _ _)
   | (with_reducible exact ih1 _ _)
   | (with_reducible exact ih2 _ _)
   | (with_reducible exact ih3 _ _ _)
   | (with_reducible exact LeO.refl _)
   | (with_reducible exact LeO.none _)
   | (with_reducible refine LeO.ite ?_ ?_)
   | (with_reducible refine LeO.bind ?_ (fun _ => ?_))
   | exact ih0 _ _
   | exact ih1 _ _
   | exact ih2 _ _
   | exact ih3 _ _ _
   | exact LeO.none _
   | refine LeO.ite ?_ ?_
   | refine LeO.bind ?_ (fun _ => ?_)
  ·intro y0 y1
   unfold num_formed.j2
   repeat' first
   | (with_reducible exact ih0 _ _)
   | (with_reducible exact ih1 _ _)
   | (with_reducible exact ih2 _ _)
   | (with_reducible exact ih3 _ _ _)
   | (with_reducible exact LeO.refl _)
   | (with_reducible exact LeO.none _)
   | (with_reducible refine LeO.ite ?_ ?_)
   | (with_reducible refine LeO.bind ?_ (fun _ => ?_))
   | exact ih0 _ _
   | exact ih1 _ _
   | exact ih2 _ _
   | exact ih3 _ _ _
   | exact LeO.none _
   | refine LeO.ite ?_ ?_
   | refine LeO.bind ?_ (fun _ => ?_)
  ·intro y0 y1 y2
   unfold num_formed.l0
   repeat' first
   | (with_reducible exact ih0 _ _)
   | (with_reducible exact ih1 _ _)
   | (with_reducible exact ih2 _ _)
   | (with_reducible exact ih3 _ _ _)
   | (with_reducible exact LeO.refl _)
   | (with_reducible exact LeO.none _)
   | (with_reducible refine LeO.ite ?_ ?_)
   | (with_reducible refine LeO.bind ?_ (fun _ => ?_))
   | exact ih0 _ _
   | exact ih1 _ _
   | exact ih2 _ _
   | exact ih3 _ _ _
   | exact LeO.none _
   | refine LeO.ite ?_ ?_
   | refine LeO.bind ?_ (fun _ => ?_)
theorem num_formed.mono : ∀ a0 k, LeO (num_formed.f k a0) (num_formed.f (k + 1) a0) := by
 intro a0 k
 obtain ⟨ih0, ih1, ih2, ih3⟩ := num_formed.mono_l k
 unfold num_formed.f
 repeat' first
   | (with_reducible exact ih0 _ _)
   | (with_reducible exact ih1 _ _)
   | (with_reducible exact ih2 _ _)
   | (with_reducible exact ih3 _ _ _)
   | (with_reducible exact LeO.refl _)
   | (with_reducible exact LeO.none _)
   | (with_reducible refine LeO.ite ?_ ?_)
   | (with_reducible refine LeO.bind ?_ (fun _ => ?_))
   | exact ih0 _ _
   | exact ih1 _ _
   | exact ih2 _ _
   | exact ih3 _ _ _
   | exact LeO.none _
   | refine LeO.ite ?_ ?_
   | refine LeO.bind ?_ (fun _ => ?_)
set_option maxHeartbeats 8000000 in
set_option maxRecDepth 100000 in
theorem num_formed.calls (k : Nat) (a0 : ByteArray) (r : Bool) (w : World) (h : num_formed.f k a0 = some r) :
  Calls Tryd.prog 45 #[.string a0] w fun e w' => e = .returned (.bool r) ∧ Drawn0 w w' := by
 have H : (if (a0.size : Int) > 0 then (if 0 < (a0.size : Int) then (num_formed.j0 k a0 ((bt a0 0) == 45)) else (none)) else (num_formed.j0 k a0 false)) = some r := h
 clear h
 have HC2 := Aside0.mk H
 clear H
 go_enter Tryd.func45, Tryd.ntmps45
 go_upto_region 1 with (fail)
 go_cut [3] (fun v3 wc => ∃ (kq : Nat) (x3_1 : Bool), v3 = .bool x3_1 ∧ Aside0 (num_formed.j0 kq a0 x3_1 = some r) ∧ Aside0 (kq ≤ k) ∧ Drawn0 w wc)
 case first =>
  have H := HC2.out
  clear HC2
  by_cases c3 : (a0.size : Int) > 0
  ·rw [if_pos c3] at H
   have c3b0 : decide (0 < (a0.size : Int)) = true := decide_eq_true c3
   have c3b1 : decide (0 < a0.size) = true := decide_eq_true (by omega)
   clear c3
   (first | rw [c3b0] | (simp only [i64_w, i32_w]; rw [c3b0]) | skip)
   by_cases c4 : 0 < (a0.size : Int)
   ·rw [if_pos c4] at H
    have c4b0 : decide (0 < (a0.size : Int)) = true := decide_eq_true c4
    have c4b1 : decide (0 < a0.size) = true := decide_eq_true (by omega)
    clear c4
    have H' := Aside0.mk H
    clear H
    have p5 : 0 ≤ (0 : Int) := (by omega)
    have q5 : 0 < a0.size := (by have : (0 : Int) < (a0.size : Int) := of_decide_eq_true zq6; omega)
    have hx5 : ∀ h : 0 < a0.size, ((a0[0]'h).toNat : Int) = bt a0 0 := bt_at a0 0
    clear p5
    have qi5 : (0 < (a0.size : Int)) = True := eq_true (of_decide_eq_true zq6)
    replace q5 := eq_true q5
    go_wp2
    go_meet
    case rel => exact ⟨_, (((bt a0 0) == 45)), zq1, H', ⟨by first | omega | exact Nat.le_refl _⟩, zq2⟩
   ·rw [if_neg c4] at H
    exact absurd H (by simp)
  ·rw [if_neg c3] at H
   have c3b0 : decide (0 < (a0.size : Int)) = false := decide_eq_false c3
   have c3b1 : decide (0 < a0.size) = false := decide_eq_false (by omega)
   clear c3
   (first | rw [c3b0] | (simp only [i64_w, i32_w]; rw [c3b0]) | skip)
   have H' := Aside0.mk H
   clear H
   go_wp2
   go_meet
   case rel => exact ⟨_, (false), zq1, H', ⟨by first | omega | exact Nat.le_refl _⟩, zq2⟩
 case rest =>
  clear HC2
  try clear p2
  try clear c3
  try clear c3b0
  try clear c3b1
  try clear c4
  try clear c4b0
  try clear c4b1
  try clear p5
  try clear q5
  try clear hx5
  try clear qi5
  try clear p5
  try clear q5
  obtain ⟨kq, x3_1, rfl, HA, HJ1, ⟨mc1, rfl⟩⟩ := hcut
  cases kq with
  | zero => exact absurd HA.out (by simp [num_formed.j0])
  | succ kj1 =>
   have H := HA.out
   clear HA
   simp only [num_formed.j0] at H
   have HC6 := Aside0.mk H
   clear H
   go_upto_if 13 with (fail)
   go_cut [0] (fun v0 wc => ∃ (kq : Nat) (x0_5 : ByteArray), v0 = .string x0_5 ∧ Aside0 (num_formed.j1 kq x0_5 x3_1 = some r) ∧ Aside0 (kq ≤ kj1) ∧ Drawn0 w wc)
   case first =>
    have H := HC6.out
    clear HC6
    by_cases c7 : x3_1 = true
    ·subst c7
     have H1 : (if 1 ≤ (a0.size : Int) then (num_formed.j1 kj1 (a0.extract 1 a0.size) true) else (none)) = some r := by rw [if_pos rfl] at H; exact H
     clear H
     have H := H1
     clear H1
     by_cases c8 : 1 ≤ (a0.size : Int)
     ·rw [if_pos c8] at H
      have c8b0 := eq_true c8
      have c8b1 : decide (1 ≤ (a0.size : Int)) = true := decide_eq_true c8
      clear c8
      have H' := Aside0.mk H
      clear H
      go_wp2
      go_meet
      case rel => exact ⟨_, (a0.extract 1 a0.size), zq1, H', ⟨by have := HJ1.out; first | omega | exact Nat.le_refl _⟩, zq2⟩
     ·rw [if_neg c8] at H
      exact absurd H (by simp)
    ·replace c7 := Bool.eq_false_iff.mpr c7
     subst c7
     have H1 : (num_formed.j1 kj1 a0 false) = some r := by rw [if_neg (show ¬ (false = true) by decide)] at H; exact H
     clear H
     have H := H1
     clear H1
     have H' := Aside0.mk H
     clear H
     go_wp2
     go_meet
     case rel => exact ⟨_, (a0), zq1, H', ⟨by have := HJ1.out; first | omega | exact Nat.le_refl _⟩, zq2⟩
   case rest =>
    clear HC6
    try clear c1
    try clear p2
    try clear c3
    try clear c3b0
    try clear c3b1
    try clear c4
    try clear c4b0
    try clear c4b1
    try clear p5
    try clear q5
    try clear hx5
    try clear qi5
    try clear c7
    try clear c8
    try clear c8b0
    try clear c8b1
    try clear p2
    try clear p5
    try clear q5
    obtain ⟨kq, x0_5, rfl, HA, HJ5, ⟨mc5, rfl⟩⟩ := hcut
    cases kq with
    | zero => exact absurd HA.out (by simp [num_formed.j1])
    | succ kj5 =>
     have H := HA.out
     clear HA
     simp only [num_formed.j1] at H
     have HC9 := Aside0.mk H
     clear H
     go_upto_region 4 with (fail)
     go_cut [30] (fun v30 wc => ∃ (kq : Nat) (x30_8 : Bool), v30 = .bool x30_8 ∧ Aside0 (num_formed.j2 kq x0_5 x30_8 = some r) ∧ Aside0 (kq ≤ kj5) ∧ Drawn0 w wc)
     case first =>
      have H := HC9.out
      clear HC9
      by_cases c10 : x0_5.toList = ([] : List UInt8)
      ·rw [if_pos c10] at H
       have c10b0 : (x0_5.toList == ([] : List UInt8)) = true := beq_iff_eq.mpr c10
       have c10b1 : (x0_5.toList != ([] : List UInt8)) = false := bne_eq_false_iff_eq.mpr c10
       clear c10
       (first | rw [c10b0] | (simp only [i64_w, i32_w]; rw [c10b0]) | skip)
       have H' := Aside0.mk H
       clear H
       go_wp2
       go_meet
       case rel => exact ⟨_, (true), zq1, H', ⟨zq15⟩, zq2⟩
      ·rw [if_neg c10] at H
       have c10b0 : (x0_5.toList == ([] : List UInt8)) = false := beq_eq_false_iff_ne.mpr c10
       have c10b1 : (x0_5.toList != ([] : List UInt8)) = true := bne_iff_ne.mpr c10
       (first | rw [c10b0] | (simp only [i64_w, i32_w]; rw [c10b0]) | skip)
       by_cases c11 : 0 < (x0_5.size : Int)
       ·rw [if_pos c11] at H
        have c11b0 : decide (0 < (x0_5.size : Int)) = true := decide_eq_true c11
        have c11b1 : decide (0 < x0_5.size) = true := decide_eq_true (by omega)
        clear c11
        by_cases c13 : (bt x0_5 0) = 48
        ·rw [if_pos c13] at H
         have c13b0 : ((bt x0_5 0) == 48) = true := beq_iff_eq.mpr c13
         have c13b1 : ((bt x0_5 0) != 48) = false := bne_eq_false_iff_eq.mpr c13
         clear c13
         by_cases c14 : x3_1 = true
         ·subst c14
          have H1 : (num_formed.j2 kj5 x0_5 true) = some r := by rw [if_pos rfl] at H; exact H
          clear H
          have H := H1
          clear H1
          have H' := Aside0.mk H
          clear H
          have p12 : 0 ≤ (0 : Int) := (by omega)
          have q12 : 0 < x0_5.size := (by have : (0 : Int) < (x0_5.size : Int) := of_decide_eq_true zq6; omega)
          have hx12 : ∀ h : 0 < x0_5.size, ((x0_5[0]'h).toNat : Int) = bt x0_5 0 := bt_at x0_5 0
          clear p12
          have qi12 : (0 < (x0_5.size : Int)) = True := eq_true (of_decide_eq_true zq6)
          replace q12 := eq_true q12
          go_wp2
          go_meet
          case rel => exact ⟨_, (true), zq1, H', ⟨zq15⟩, zq2⟩
         ·replace c14 := Bool.eq_false_iff.mpr c14
          subst c14
          have H1 : (num_formed.j2 kj5 x0_5 (decide ((x0_5.size : Int) > 1))) = some r := by rw [if_neg (show ¬ (false = true) by decide)] at H; exact H
          clear H
          have H := H1
          clear H1
          have H' := Aside0.mk H
          clear H
          have p12 : 0 ≤ (0 : Int) := (by omega)
          have q12 : 0 < x0_5.size := (by have : (0 : Int) < (x0_5.size : Int) := of_decide_eq_true zq6; omega)
          have hx12 : ∀ h : 0 < x0_5.size, ((x0_5[0]'h).toNat : Int) = bt x0_5 0 := bt_at x0_5 0
          clear p12
          have qi12 : (0 < (x0_5.size : Int)) = True := eq_true (of_decide_eq_true zq6)
          replace q12 := eq_true q12
          go_wp2
          go_meet
          case rel => exact ⟨_, (decide ((x0_5.size : Int) > 1)), zq1, H', ⟨zq15⟩, zq2⟩
        ·rw [if_neg c13] at H
         have c13b0 : ((bt x0_5 0) == 48) = false := beq_eq_false_iff_ne.mpr c13
         have c13b1 : ((bt x0_5 0) != 48) = true := bne_iff_ne.mpr c13
         have H' := Aside0.mk H
         clear H
         have p12 : 0 ≤ (0 : Int) := (by omega)
         have q12 : 0 < x0_5.size := (by have : (0 : Int) < (x0_5.size : Int) := of_decide_eq_true zq6; omega)
         have hx12 : ∀ h : 0 < x0_5.size, ((x0_5[0]'h).toNat : Int) = bt x0_5 0 := bt_at x0_5 0
         clear p12
         have qi12 : (0 < (x0_5.size : Int)) = True := eq_true (of_decide_eq_true zq6)
         replace q12 := eq_true q12
         go_wp2
         go_meet
         case rel => exact ⟨_, (false), zq1, H', ⟨zq15⟩, zq2⟩
       ·rw [if_neg c11] at H
        exact absurd H (by simp)
     case rest =>
      clear HC9
      try clear c1
      try clear p1
      try clear q1
      try clear hx1
      try clear qi1
      try clear p2
      try clear c3
      try clear c3b0
      try clear c3b1
      try clear c4
      try clear c4b0
      try clear c4b1
      try clear c5
      try clear p5
      try clear q5
      try clear hx5
      try clear qi5
      try clear c7
      try clear c8
      try clear c8b0
      try clear c8b1
      try clear c10
      try clear c10b0
      try clear c10b1
      try clear c11
      try clear c11b0
      try clear c11b1
      try clear p12
      try clear q12
      try clear hx12
      try clear qi12
      try clear c13
      try clear c13b0
      try clear c13b1
      try clear c14
      try clear p12
      try clear p2
      try clear p5
      try clear q12
      try clear q5
      obtain ⟨kq, x30_8, rfl, HA, HJ8, ⟨mc8, rfl⟩⟩ := hcut
      cases kq with
      | zero => exact absurd HA.out (by simp [num_formed.j2])
      | succ kj8 =>
       have H := HA.out
       clear HA
       simp only [num_formed.j2] at H
       by_cases c15 : x30_8 = true
       ·subst c15
        have H1 : (some false) = some r := by rw [if_pos rfl] at H; exact H
        clear H
        have H := H1
        clear H1
        obtain rfl := Option.some.inj H
        go_wp2
        go_ret
        exact ⟨zq1, zq2⟩
       ·replace c15 := Bool.eq_false_iff.mpr c15
        subst c15
        have H1 : (num_formed.l0 kj8 x0_5 (x0_5.size : Int) 0) = some r := by rw [if_neg (show ¬ (false = true) by decide)] at H; exact H
        clear H
        have H := H1
        clear H1
        have H' := Aside0.mk H
        clear H
        go_wp2
        go_loopg [33] kj8 (fun kq v33 w' => ∃ (x33_4 : Int), v33 = .int .i64 x33_4 ∧ Aside0 (num_formed.l0 kq x0_5 (x0_5.size : Int) x33_4 = some r) ∧ Aside0 (kq ≤ kj8) ∧ Drawn0 w w')
        case atStart => exact ⟨(0), zq1, H', ⟨Nat.le_refl _⟩, zq2⟩
        case round =>
         clear H'
         try clear c1
         try clear p1
         try clear q1
         try clear hx1
         try clear qi1
         try clear p2
         try clear c3
         try clear c3b0
         try clear c3b1
         try clear c4
         try clear c4b0
         try clear c4b1
         try clear c5
         try clear p5
         try clear q5
         try clear hx5
         try clear qi5
         try clear c7
         try clear c8
         try clear c8b0
         try clear c8b1
         try clear c10
         try clear c10b0
         try clear c10b1
         try clear c11
         try clear c11b0
         try clear c11b1
         try clear p12
         try clear q12
         try clear hx12
         try clear qi12
         try clear c13
         try clear c13b0
         try clear c13b1
         try clear c14
         try clear c15
         try clear p1
         try clear p12
         try clear p2
         try clear p5
         try clear q1
         try clear q12
         try clear q5
         obtain ⟨x33_4, rfl, HA, HK4, ⟨m4, rfl⟩⟩ := hrel
         cases gk with
         | zero => exact absurd HA.out (by simp [num_formed.l0])
         | succ k4 =>
          have H := HA.out
          clear HA
          simp only [num_formed.l0] at H
          by_cases c16 : x33_4 < (x0_5.size : Int)
          ·rw [if_pos c16] at H
           have c16b0 : decide (x33_4 < (x0_5.size : Int)) = true := decide_eq_true c16
           clear c16
           by_cases c17 : 0 ≤ x33_4
           ·rw [if_pos c17] at H
            have c17b0 : decide (0 ≤ x33_4) = true := decide_eq_true c17
            clear c17
            by_cases c18 : x33_4 < (x0_5.size : Int)
            ·rw [if_pos c18] at H
             have c18b0 : decide (x33_4 < (x0_5.size : Int)) = true := decide_eq_true c18
             clear c18
             by_cases c20 : (bt x0_5 x33_4) < 48
             ·rw [if_pos c20] at H
              have c20b0 : decide ((bt x0_5 x33_4) < 48) = true := decide_eq_true c20
              clear c20
              obtain rfl := Option.some.inj H
              have p19 : 0 ≤ (x33_4 : Int) := of_decide_eq_true zq6
              have q19 : x33_4 < (x0_5.size : Int) := of_decide_eq_true zq6
              have hx19 := bt_at x0_5 x33_4
              replace p19 := eq_true p19
              replace q19 := eq_true q19
              go_wp2
              go_ret
              exact ⟨zq1, zq2⟩
             ·rw [if_neg c20] at H
              have c20b0 : decide ((bt x0_5 x33_4) < 48) = false := decide_eq_false c20
              clear c20
              by_cases c22 : (bt x0_5 x33_4) > 57
              ·rw [if_pos c22] at H
               have c22b0 : decide (57 < (bt x0_5 x33_4)) = true := decide_eq_true c22
               clear c22
               obtain rfl := Option.some.inj H
               have p19 : 0 ≤ (x33_4 : Int) := of_decide_eq_true zq6
               have q19 : x33_4 < (x0_5.size : Int) := of_decide_eq_true zq6
               have hx19 := bt_at x0_5 x33_4
               replace p19 := eq_true p19
               replace q19 := eq_true q19
               have p21 : 0 ≤ (x33_4 : Int) := of_decide_eq_true zq6
               have q21 : x33_4 < (x0_5.size : Int) := of_decide_eq_true zq6
               have hx21 := bt_at x0_5 x33_4
               replace p21 := eq_true p21
               replace q21 := eq_true q21
               go_wp2
               go_ret
               exact ⟨zq1, zq2⟩
              ·rw [if_neg c22] at H
               have c22b0 : decide (57 < (bt x0_5 x33_4)) = false := decide_eq_false c22
               clear c22
               have H' := Aside0.mk H
               clear H
               have p19 : 0 ≤ (x33_4 : Int) := of_decide_eq_true zq6
               have q19 : x33_4 < (x0_5.size : Int) := of_decide_eq_true zq6
               have hx19 := bt_at x0_5 x33_4
               replace p19 := eq_true p19
               replace q19 := eq_true q19
               have p21 : 0 ≤ (x33_4 : Int) := of_decide_eq_true zq6
               have q21 : x33_4 < (x0_5.size : Int) := of_decide_eq_true zq6
               have hx21 := bt_at x0_5 x33_4
               replace p21 := eq_true p21
               replace q21 := eq_true q21
               go_wp2
               go_roundg k4
               case measure => have := HJ1.out; have := HJ5.out; have := HJ8.out; have := HK4.out; omega
               case rel => exact ⟨(wrap64 (x33_4 + 1)), zq1, H', ⟨by have := HJ1.out; have := HJ5.out; have := HJ8.out; have := HK4.out; omega⟩, zq2⟩
            ·rw [if_neg c18] at H
             exact absurd H (by simp)
           ·rw [if_neg c17] at H
            exact absurd H (by simp)
          ·rw [if_neg c16] at H
           have c16b0 : decide (x33_4 < (x0_5.size : Int)) = false := decide_eq_false c16
           clear c16
           obtain rfl := Option.some.inj H
           go_wp2
           go_ret
           exact ⟨zq1, zq2⟩

theorem formed_l0 (s : ByteArray) (hs : s.size ≤ 140737488351232) (d : Nat) : ∀ i : Nat, i + d = s.size → Ev (fun k => num_formed.l0 k s (s.size : Int) (i : Int)) ((s.data.toList.drop i).all isDig) := by
 induction d with
 | zero =>
  intro i hi
  refine Ev.step (fun k => by rw [num_formed.l0]) ?_
  refine Ev.no (by omega) (Ev.is ?_)
  rw [List.drop_eq_nil_of_le (by rw [← size_eq']; omega)]; rfl
 | succ d ih =>
  intro i hi
  have hl : i < s.data.toList.length := by rw [← size_eq']; omega
  have hd : s.data.toList.drop i = s.data.toList[i] :: s.data.toList.drop (i + 1) := List.drop_eq_getElem_cons hl
  have hb : bt s (i : Int) = (s.data.toList[i].toNat : Int) := by rw [bt_eq, Int.toNat_natCast, List.getD_eq_getElem?_getD, List.getElem?_eq_getElem hl]; rfl
  have hc := isDig_iff s.data.toList[i]
  rw [← hb] at hc
  refine Ev.step (fun k => by rw [num_formed.l0]) ?_
  refine Ev.yes (by omega) (Ev.yes (by omega) (Ev.yes (by omega) (Ev.both (fun h => Ev.is ?_) (fun h => Ev.both (fun h2 => Ev.is ?_) (fun h2 => ?_)))))
  ·rw [hd, List.all_cons]
   have : isDig s.data.toList[i] = false := by rw [← Bool.not_eq_true, hc]; omega
   rw [this]; rfl
  ·rw [hd, List.all_cons]
   have : isDig s.data.toList[i] = false := by rw [← Bool.not_eq_true, hc]; omega
   rw [this]; rfl
  ·rw [hd, List.all_cons, hc.mpr ⟨by omega, by omega⟩, Bool.true_and, show wrap64 ((i : Int) + 1) = ((i + 1 : Nat) : Int) by unfold wrap64; omega]
   exact ih (i + 1) (by omega)
theorem formed_j2 (s : ByteArray) (hs : s.size ≤ 140737488351232) (b : Bool) : Ev (fun k => num_formed.j2 k s b) (!b && s.data.toList.all isDig) := by
 refine Ev.step (fun k => by rw [num_formed.j2]) ?_
 refine Ev.both (fun h => Ev.is (by rw [h]; rfl)) (fun h => ?_)
 have := formed_l0 s hs s.size 0 (by omega)
 rw [Bool.not_eq_true] at h
 rw [h]
 exact this
theorem formed_j1 (s : ByteArray) (hs : s.size ≤ 140737488351232) (b : Bool) : Ev (fun k => num_formed.j1 k s b) (formedM s.data.toList b) := by
 refine Ev.step (fun k => by rw [num_formed.j1]) ?_
 have hsz := size_eq' s
 have hb : bt s 0 = ((s.data.toList.getD 0 0).toNat : Int) := bt_eq s 0
 rw [ByteArray.toList_eq]
 generalize hl : s.data.toList = l at *
 cases l with
 | nil =>
  refine Ev.yes rfl ?_
  have := formed_j2 s hs true
  rw [hl] at this
  exact this
 | cons c r =>
  have e : formedM (c :: r) b = (!(c == 48 && (b || decide (1 < (c :: r).length))) && (c :: r).all isDig) := by simp [formedM]
  rw [e]
  have h48 : bt s 0 = 48 ↔ (c == 48) = true := by
   rw [hb, beq_iff_eq]
   exact byte_is c 48
  refine Ev.no (by simp) (Ev.yes (by simp only [List.length_cons] at hsz; omega) (Ev.both (fun h => ?_) (fun h => ?_)))
  ·rw [h48.mp h]
   refine Ev.both (fun hb => ?_) (fun hb => ?_)
   ·have := formed_j2 s hs true
    rw [hl] at this; rw [hb]; exact this
   ·have := formed_j2 s hs (decide ((s.size : Int) > 1))
    rw [hl] at this; rw [Bool.not_eq_true] at hb; rw [hb]
    rw [show decide ((s.size : Int) > 1) = decide (1 < (c :: r).length) by rw [hsz, decide_eq_decide, List.length_cons]; omega] at this ⊢
    exact this
  ·rw [h48] at h
   rw [Bool.not_eq_true _ |>.mp h]
   have := formed_j2 s hs false
   rw [hl] at this; exact this
theorem formed_ev (s : ByteArray) (hs : s.size ≤ 140737488351232) : Ev (fun k => num_formed.f k s) (formedL s.data.toList) := by
 unfold num_formed.f
 have hsz := size_eq' s
 have hb : bt s 0 = ((s.data.toList.getD 0 0).toNat : Int) := bt_eq s 0
 have hx := Lib.extract_to_end s 1
 have hxs : (s.extract 1 s.size).size ≤ 140737488351232 := by rw [size_eq', hx, List.length_drop]; omega
 have key : Ev (fun k => num_formed.j0 k s (negOf s.data.toList)) (formedL s.data.toList) := by
  refine Ev.step (fun k => by rw [num_formed.j0]) ?_
  refine Ev.both (fun h => ?_) (fun h => ?_)
  ·have hp : 1 ≤ s.size := by
    rw [hsz]; cases hl : s.data.toList with
    | nil => rw [hl] at h; simp [negOf] at h
    | cons c r => simp
   refine Ev.yes (by omega) ?_
   have := formed_j1 (s.extract 1 s.size) hxs (negOf s.data.toList)
   rw [hx] at this
   have e : formedL s.data.toList = formedM (s.data.toList.drop 1) (negOf s.data.toList) := by simp [formedL, formedM, magOf, h]
   rw [e]; exact this
  ·have := formed_j1 s hs (negOf s.data.toList)
   have e : formedL s.data.toList = formedM s.data.toList (negOf s.data.toList) := by simp [formedL, formedM, magOf, h]
   rw [e]; exact this
 have hn : s.size > 0 → (bt s 0 == 45) = negOf s.data.toList := by
  intro h
  rw [hb]
  cases hl : s.data.toList with
  | nil => rw [hl, List.length_nil] at hsz; omega
  | cons c r =>
   simp only [negOf, List.getD_cons_zero, List.head?_cons]
   rw [Bool.eq_iff_iff, beq_iff_eq, beq_iff_eq, Option.some_inj]
   exact byte_is c 45
 refine Ev.both (fun h => Ev.yes h ?_) (fun h => ?_)
 ·rw [hn (by omega)]; exact key
 ·have e : negOf s.data.toList = false := by
   cases hl : s.data.toList with
   | nil => rfl
   | cons c r => rw [hl] at hsz; simp at hsz; omega
  rw [e] at key; exact key
theorem formed_calls (s : ByteArray) (hs : s.size ≤ 140737488351232) (w : World) :
  Calls Tryd.prog 45 #[.string s] w fun e w' => e = .returned (.bool (formedL s.data.toList)) ∧ Drawn0 w w' := by
 obtain ⟨k, hk⟩ := (formed_ev s hs).rounds
 exact num_formed.calls k s _ w hk


/-! ### num_Add: function 46 -/
def num_Add.f (a0 : Int) (a1 : Int) : Option (Int × Bool) := if ((decide ((wrap64 (a0 + a1)) > a0)) != (decide (a1 > 0))) = true then (if a1 = 0 then (some (wrap64 (a0 + a1), true)) else (some (0, false))) else (some (wrap64 (a0 + a1), true))
set_option maxHeartbeats 8000000 in
set_option maxRecDepth 100000 in
theorem num_Add.calls (a0 : Int) (a1 : Int) (r1 : Int) (r2 : Bool) (w : World) (h : num_Add.f a0 a1 = some (r1, r2)) :
  Calls Tryd.prog 46 #[.int .i64 a0, .int .i64 a1] w fun e w' => e = .returned (.tuple #[.int .i64 r1, .bool r2]) ∧ Drawn0 w w' := by
 have H : (if ((decide ((wrap64 (a0 + a1)) > a0)) != (decide (a1 > 0))) = true then (if a1 = 0 then (some (wrap64 (a0 + a1), true)) else (some (0, false))) else (some (wrap64 (a0 + a1), true))) = some (r1, r2) := h
 clear h
 by_cases c3 : ((decide ((wrap64 (a0 + a1)) > a0)) != (decide (a1 > 0))) = true
 ·rw [if_pos c3] at H
  have c3b0 : ((decide ((wrap64 (a0 + a1)) > a0)) != (decide (a1 > 0))) = true := c3
  (try (have c3b1 : decide ((decide ((wrap64 (a0 + a1)) > a0)) = (decide (a1 > 0))) = false := by simpa using c3))
  (try (have c3b2 : ((decide ((wrap64 (a0 + a1)) > a0)) == (decide (a1 > 0))) = false := by simpa using c3))
  (try (have c3b3 : ¬ ((decide ((wrap64 (a0 + a1)) > a0)) = (decide (a1 > 0))) := by simpa using c3))
  clear c3
  by_cases c4 : a1 = 0
  ·rw [if_pos c4] at H
   have c4b0 : (a1 == 0) = true := beq_iff_eq.mpr c4
   have c4b1 : (a1 != 0) = false := bne_eq_false_iff_eq.mpr c4
   clear c4
   simp only [Option.some.injEq, Prod.mk.injEq] at H
   obtain ⟨rfl, rfl⟩ := H
   go_enter Tryd.func46, Tryd.ntmps46
   go_wp2
   go_ret2
   exact ⟨zq1, zq2⟩
  ·rw [if_neg c4] at H
   have c4b0 : (a1 == 0) = false := beq_eq_false_iff_ne.mpr c4
   have c4b1 : (a1 != 0) = true := bne_iff_ne.mpr c4
   simp only [Option.some.injEq, Prod.mk.injEq] at H
   obtain ⟨rfl, rfl⟩ := H
   go_enter Tryd.func46, Tryd.ntmps46
   go_wp2
   go_ret2
   exact ⟨zq1, zq2⟩
 ·rw [if_neg c3] at H
  have c3b0 : ((decide ((wrap64 (a0 + a1)) > a0)) != (decide (a1 > 0))) = false := by simpa using c3
  (try (have c3b1 : decide ((decide ((wrap64 (a0 + a1)) > a0)) = (decide (a1 > 0))) = true := by simpa using c3))
  (try (have c3b2 : ((decide ((wrap64 (a0 + a1)) > a0)) == (decide (a1 > 0))) = true := by simpa using c3))
  clear c3
  simp only [Option.some.injEq, Prod.mk.injEq] at H
  obtain ⟨rfl, rfl⟩ := H
  go_enter Tryd.func46, Tryd.ntmps46
  go_wp2
  go_ret2
  exact ⟨zq1, zq2⟩

theorem num_Add_eq (a b : Int) (ha : I64 a) (hb : I64 b) : num_Add.f a b = some (fit (a + b)) := by
 unfold num_Add.f
 unfold I64 at ha hb
 have hw : I64 (a + b) → wrap64 (a + b) = a + b := by unfold I64; unfold wrap64; omega
 have hlo : a + b < -9223372036854775808 → wrap64 (a + b) = a + b + 18446744073709551616 := by unfold wrap64; omega
 have hhi : 9223372036854775807 < a + b → wrap64 (a + b) = a + b - 18446744073709551616 := by unfold wrap64; omega
 by_cases h : I64 (a + b)
 ·rw [hw h, fit_yes h]
  by_cases hb0 : b = 0
  ·subst hb0; simp
  ·by_cases hb1 : b > 0
   ·rw [if_neg (by rw [decide_eq_true (show a + b > a by omega), decide_eq_true hb1]; decide)]
   ·rw [if_neg (by rw [decide_eq_false (show ¬ a + b > a by omega), decide_eq_false hb1]; decide)]
 ·rw [fit_no h]
  unfold I64 at h
  by_cases h1 : a + b < -9223372036854775808
  ·rw [hlo h1, if_pos (by rw [decide_eq_true (show a + b + 18446744073709551616 > a by omega), decide_eq_false (show ¬ b > 0 by omega)]; decide), if_neg (by omega)]
  ·rw [hhi (by omega), if_pos (by rw [decide_eq_false (show ¬ a + b - 18446744073709551616 > a by omega), decide_eq_true (show b > 0 by omega)]; decide), if_neg (by omega)]


end Go.Proofs.YthmpapnhomngnaaDoor.A
