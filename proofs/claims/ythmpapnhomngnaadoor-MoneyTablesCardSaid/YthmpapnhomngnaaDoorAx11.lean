-- By gen.py, a program of this session's, over the print's forms: not the print's own text.
import Derived.Test.YthmpapnhomngnaaDoorAx0
import Derived.Test.YthmpapnhomngnaaDoorQ
import Derived.Test.YthmpapnhomngnaaDoorAx9
import Derived.Test.YthmpapnhomngnaaDoorAx17
namespace Go.Proofs.YthmpapnhomngnaaDoor.A
open Go.RowKit Go.Proofs.YthmpapnhomngnaaDoor.B Go.Proofs.YthmpapnhomngnaaDoorW.PrintWords Go.Proofs.YthmpapnhomngnaaDoorW.PrintLast Go.Proofs.YthmpapnhomngnaaDoorW.PrintMore
attribute [local go_sem] max2_int min2_int max_two min_two max_three min_three max_four min_four   -- for this text's walks alone
set_option linter.unusedVariables false
set_option linter.unusedSimpArgs false

/-! ### accountingref07_Text: function 15 -/
mutual
def accountingref07_Text.j0 : Nat → Int → Int → Bool → Option (ByteArray × Int)
 | 0, _, _, _ => none
 | k + 1, x0, x1, x13 => if x13 = true then (some ((⟨#[]⟩ : ByteArray), 2)) else ((accountingref07_large.f x0).bind fun t160 => (if t160 = true then (some ((⟨#[]⟩ : ByteArray), 4)) else ((accountingref01_Text.f k x0).bind fun t161 => (if x0 < 0 then (if 1 ≤ (t161.size : Int) then (accountingref07_Text.j1 k x1 (t161.extract 1 t161.size) (⟨#[45]⟩ : ByteArray)) else (none)) else (accountingref07_Text.j1 k x1 t161 (⟨#[]⟩ : ByteArray))))))
def accountingref07_Text.j1 : Nat → Int → ByteArray → ByteArray → Option (ByteArray × Int)
 | 0, _, _, _ => none
 | k + 1, x1, x6, x7 => accountingref07_Text.l0 k x1 x6 x7
def accountingref07_Text.l0 : Nat → Int → ByteArray → ByteArray → Option (ByteArray × Int)
 | 0, _, _, _ => none
 | k + 1, x1, x6, x7 => if (x6.size : Int) ≤ x1 then (if 1 + x6.size ≤ 9223372036854775807 then (accountingref07_Text.l0 k x1 ((⟨#[48]⟩ : ByteArray) ++ x6) x7) else (none)) else (if x1 = 0 then (if x7.size + x6.size ≤ 9223372036854775807 then (some (x7 ++ x6, 0)) else (none)) else (if 0 ≤ (wrap64 ((x6.size : Int) - x1)) then (if (wrap64 ((x6.size : Int) - x1)) ≤ (x6.size : Int) then (if x7.size + (x6.extract 0 ((wrap64 ((x6.size : Int) - x1)) : Int).toNat).size ≤ 9223372036854775807 then (if (x7 ++ (x6.extract 0 ((wrap64 ((x6.size : Int) - x1)) : Int).toNat)).size + 1 ≤ 9223372036854775807 then (if ((x7 ++ (x6.extract 0 ((wrap64 ((x6.size : Int) - x1)) : Int).toNat)) ++ (⟨#[46]⟩ : ByteArray)).size + (x6.extract ((wrap64 ((x6.size : Int) - x1)) : Int).toNat x6.size).size ≤ 9223372036854775807 then (some (((x7 ++ (x6.extract 0 ((wrap64 ((x6.size : Int) - x1)) : Int).toNat)) ++ (⟨#[46]⟩ : ByteArray)) ++ (x6.extract ((wrap64 ((x6.size : Int) - x1)) : Int).toNat x6.size), 0)) else (none)) else (none)) else (none)) else (none)) else (none)))
end
def accountingref07_Text.f (k : Nat) (a0 : Int) (a1 : Int) : Option (ByteArray × Int) := if a1 < 0 then (accountingref07_Text.j0 k a0 a1 true) else (accountingref07_Text.j0 k a0 a1 (decide (a1 > 4)))
theorem accountingref07_Text.mono_l : ∀ k, (∀ y0 y1 y2, LeO (accountingref07_Text.j0 k y0 y1 y2) (accountingref07_Text.j0 (k + 1) y0 y1 y2)) ∧ (∀ y0 y1 y2, LeO (accountingref07_Text.j1 k y0 y1 y2) (accountingref07_Text.j1 (k + 1) y0 y1 y2)) ∧ (∀ y0 y1 y2, LeO (accountingref07_Text.l0 k y0 y1 y2) (accountingref07_Text.l0 (k + 1) y0 y1 y2))
 | 0 => ⟨fun _ _ _ r h => by simp [accountingref07_Text.j0] at h, fun _ _ _ r h => by simp [accountingref07_Text.j1] at h, fun _ _ _ r h => by simp [accountingref07_Text.l0] at h⟩
 | k + 1 => by
  obtain ⟨ih0, ih1, ih2⟩ := accountingref07_Text.mono_l k
  refine ⟨?_, ?_, ?_⟩
  ·intro y0 y1 y2
   unfold accountingref07_Text.j0
   repeat' first
   | (with_reducible exact ih0 _ _ _)
   | (with_reducible exact ih1 _ _ _)
   | (with_reducible exact ih2 _ _ _)
   | (with_reducible exact accountingref01_Text.mono _ _)
   | (with_reducible exact LeO.refl _)
   | (with_reducible exact LeO.none _)
   | (with_reducible refine LeO.ite ?_ ?_)
   | (with_reducible refine LeO.bind ?_ (fun _ => ?_))
   | exact ih0 _ _ _
   | exact ih1 _ _ _
   | exact ih2 _ _ _
   | exact accountingref01_Text.mono _ _
   | exact LeO.none _
   | refine LeO.ite ?_ ?_
   | refine LeO.bind ?_ (fun _ => ?_)
  ·intro y0 y1 y2
   unfold accountingref07_Text.j1
   repeat' first
   | (with_reducible exact ih0 _ _ _)
   | (with_reducible exact ih1 _ _ _)
   | (with_reducible exact ih2 _ _ _)
   | (with_reducible exact accountingref01_Text.mono _ _)
   | (with_reducible exact LeO.refl _)
   | (with_reducible exact LeO.none _)
   | (with_reducible refine LeO.ite ?_ ?_)
   | (with_reducible refine LeO.bind ?_ (fun _ => ?_))
   | exact ih0 _ _ _
   | exact ih1 _ _ _
   | exact ih2 _ _ _
   | exact accountingref01_Text.mono _ _
   | exact LeO.none _
   | refine LeO.ite ?_ ?_
   | refine LeO.bind ?_ (fun _ => ?_)
  ·intro y0 y1 y2
   unfold accountingref07_Text.l0
   repeat' first
   | (with_reducible exact ih0 _ _ _)
   | (with_reducible exact ih1 _ _ _)
   | (with_reducible exact ih2 _ _ _)
   | (with_reducible exact accountingref01_Text.mono _ _)
   | (with_reducible exact LeO.refl _)
   | (with_reducible exact LeO.none _)
   | (with_reducible refine LeO.ite ?_ ?_)
   | (with_reducible refine LeO.bind ?_ (fun _ => ?_))
   | exact ih0 _ _ _
   | exact ih1 _ _ _
   | exact ih2 _ _ _
   | exact accountingref01_Text.mono _ _
   | exact LeO.none _
   | refine LeO.ite ?_ ?_
   | refine LeO.bind ?_ (fun _ => ?_)
theorem accountingref07_Text.mono : ∀ a0 a1 k, LeO (accountingref07_Text.f k a0 a1) (accountingref07_Text.f (k + 1) a0 a1) := by
 intro a0 a1 k
 obtain ⟨ih0, ih1, ih2⟩ := accountingref07_Text.mono_l k
 unfold accountingref07_Text.f
 repeat' first
   | (with_reducible exact ih0 _ _ _)
   | (with_reducible exact ih1 _ _ _)
   | (with_reducible exact ih2 _ _ _)
   | (with_reducible exact accountingref01_Text.mono _ _)
   | (with_reducible exact LeO.refl _)
   | (with_reducible exact LeO.none _)
   | (with_reducible refine LeO.ite ?_ ?_)
   | (with_reducible refine LeO.bind ?_ (fun _ => ?_))
   | exact ih0 _ _ _
   | exact ih1 _ _ _
   | exact ih2 _ _ _
   | exact accountingref01_Text.mono _ _
   | exact LeO.none _
   | refine LeO.ite ?_ ?_
   | refine LeO.bind ?_ (fun _ => ?_)
set_option maxHeartbeats 8000000 in
set_option maxRecDepth 100000 in
theorem accountingref07_Text.calls (k : Nat) (a0 : Int) (a1 : Int) (r1 : ByteArray) (r2 : Int) (w : World) (h : accountingref07_Text.f k a0 a1 = some (r1, r2)) :
  Calls Tryd.prog 15 #[.int .i64 a0, .int .i64 a1] w fun e w' => e = .returned (.tuple #[.string r1, .int .i64 r2]) ∧ Drawn0 w w' := by
 have H : (if a1 < 0 then (accountingref07_Text.j0 k a0 a1 true) else (accountingref07_Text.j0 k a0 a1 (decide (a1 > 4)))) = some (r1, r2) := h
 clear h
 have HC3 := Aside0.mk H
 clear H
 go_enter Tryd.func15, Tryd.ntmps15
 go_upto_region 1 with (fail)
 repeat (go_quiet (fail); go_upto_region 1 with (fail))
 go_cut [13] (fun v13 wc => ∃ (kq : Nat) (x13_2 : Bool), v13 = .bool x13_2 ∧ Aside0 (accountingref07_Text.j0 kq a0 a1 x13_2 = some (r1, r2)) ∧ Aside0 (kq ≤ k) ∧ Drawn0 w wc)
 case first =>
  have H := HC3.out
  clear HC3
  by_cases c4 : a1 < 0
  ·rw [if_pos c4] at H
   have c4b0 : decide (a1 < 0) = true := decide_eq_true c4
   clear c4
   (first | rw [c4b0] | (simp only [i64_w, i32_w]; rw [c4b0]) | skip)
   have H' := Aside0.mk H
   clear H
   go_wp2
   repeat (go_quiet (fail); try go_wp2)
   go_meet
   case rel => exact ⟨_, (true), zq1, H', ⟨by first | omega | exact Nat.le_refl _⟩, zq2⟩
  ·rw [if_neg c4] at H
   have c4b0 : decide (a1 < 0) = false := decide_eq_false c4
   clear c4
   (first | rw [c4b0] | (simp only [i64_w, i32_w]; rw [c4b0]) | skip)
   have H' := Aside0.mk H
   clear H
   go_wp2
   repeat (go_quiet (fail); try go_wp2)
   go_meet
   case rel => exact ⟨_, (decide (a1 > 4)), zq1, H', ⟨by first | omega | exact Nat.le_refl _⟩, zq2⟩
 case rest =>
  clear HC3
  try clear c1
  try clear p2
  try clear c4
  try clear c4b0
  obtain ⟨kq, x13_2, rfl, HA, HJ2, ⟨mc2, rfl⟩⟩ := hcut
  cases kq with
  | zero => exact absurd HA.out (by simp [accountingref07_Text.j0])
  | succ kj2 =>
   have H := HA.out
   clear HA
   simp only [accountingref07_Text.j0] at H
   by_cases c5 : x13_2 = true
   ·subst c5
    have H1 : (some ((⟨#[]⟩ : ByteArray), 2)) = some (r1, r2) := by rw [if_pos rfl] at H; exact H
    clear H
    have H := H1
    clear H1
    simp only [Option.some.injEq, Prod.mk.injEq] at H
    obtain ⟨rfl, rfl⟩ := H
    go_wp2
    repeat (go_quiet (fail); try go_wp2)
    go_ret2
    exact ⟨zq1, zq2⟩
   ·replace c5 := Bool.eq_false_iff.mpr c5
    subst c5
    have H1 : ((accountingref07_large.f a0).bind fun t160 => (if t160 = true then (some ((⟨#[]⟩ : ByteArray), 4)) else ((accountingref01_Text.f kj2 a0).bind fun t161 => (if a0 < 0 then (if 1 ≤ (t161.size : Int) then (accountingref07_Text.j1 kj2 a1 (t161.extract 1 t161.size) (⟨#[45]⟩ : ByteArray)) else (none)) else (accountingref07_Text.j1 kj2 a1 t161 (⟨#[]⟩ : ByteArray)))))) = some (r1, r2) := by rw [if_neg (show ¬ (false = true) by decide)] at H; exact H
    clear H
    have H := H1
    clear H1
    replace H := Option.bind_eq_some_iff.mp H
    obtain ⟨t160, A60, H⟩ := H
    replace H : (if t160 = true then (some ((⟨#[]⟩ : ByteArray), 4)) else ((accountingref01_Text.f kj2 a0).bind fun t161 => (if a0 < 0 then (if 1 ≤ (t161.size : Int) then (accountingref07_Text.j1 kj2 a1 (t161.extract 1 t161.size) (⟨#[45]⟩ : ByteArray)) else (none)) else (accountingref07_Text.j1 kj2 a1 t161 (⟨#[]⟩ : ByteArray))))) = some (r1, r2) := H
    have A6 := Aside0.mk A60
    clear A60
    by_cases c7 : t160 = true
    ·subst c7
     have H1 : (some ((⟨#[]⟩ : ByteArray), 4)) = some (r1, r2) := by rw [if_pos rfl] at H; exact H
     clear H
     have H := H1
     clear H1
     simp only [Option.some.injEq, Prod.mk.injEq] at H
     obtain ⟨rfl, rfl⟩ := H
     go_wp2_with (first | (go_at_call 27; (with_reducible refine (accountingref07_large.calls a0 true _ A6.out).mono ?_); rintro e w' ⟨rfl, ⟨nd, rfl⟩⟩; (try first | exact ⟨rfl, _, World.drewN_drewN _ _ _⟩ | exact ⟨rfl, _, Eq.trans (World.drewN_drewN _ _ _) (congrArg (World.drewN _) (Nat.add_assoc _ _ _))⟩)))
     repeat (go_quiet (first | (go_at_call 27; (with_reducible refine (accountingref07_large.calls a0 true _ A6.out).mono ?_); rintro e w' ⟨rfl, ⟨nd, rfl⟩⟩; (try first | exact ⟨rfl, _, World.drewN_drewN _ _ _⟩ | exact ⟨rfl, _, Eq.trans (World.drewN_drewN _ _ _) (congrArg (World.drewN _) (Nat.add_assoc _ _ _))⟩))); try go_wp2_with (first | (go_at_call 27; (with_reducible refine (accountingref07_large.calls a0 true _ A6.out).mono ?_); rintro e w' ⟨rfl, ⟨nd, rfl⟩⟩; (try first | exact ⟨rfl, _, World.drewN_drewN _ _ _⟩ | exact ⟨rfl, _, Eq.trans (World.drewN_drewN _ _ _) (congrArg (World.drewN _) (Nat.add_assoc _ _ _))⟩))))
     go_ret2
     exact ⟨zq1, zq2⟩
    ·replace c7 := Bool.eq_false_iff.mpr c7
     subst c7
     have H1 : ((accountingref01_Text.f kj2 a0).bind fun t161 => (if a0 < 0 then (if 1 ≤ (t161.size : Int) then (accountingref07_Text.j1 kj2 a1 (t161.extract 1 t161.size) (⟨#[45]⟩ : ByteArray)) else (none)) else (accountingref07_Text.j1 kj2 a1 t161 (⟨#[]⟩ : ByteArray)))) = some (r1, r2) := by rw [if_neg (show ¬ (false = true) by decide)] at H; exact H
     clear H
     have H := H1
     clear H1
     replace H := Option.bind_eq_some_iff.mp H
     obtain ⟨t161, A80, H⟩ := H
     replace H : (if a0 < 0 then (if 1 ≤ (t161.size : Int) then (accountingref07_Text.j1 kj2 a1 (t161.extract 1 t161.size) (⟨#[45]⟩ : ByteArray)) else (none)) else (accountingref07_Text.j1 kj2 a1 t161 (⟨#[]⟩ : ByteArray))) = some (r1, r2) := H
     have A8 := Aside0.mk A80
     clear A80
     have HC9 := Aside0.mk H
     clear H
     go_upto_if 19 with (first | (go_at_call 27; (with_reducible refine (accountingref07_large.calls a0 false _ A6.out).mono ?_); rintro e w' ⟨rfl, ⟨nd, rfl⟩⟩; (try first | exact ⟨rfl, _, World.drewN_drewN _ _ _⟩ | exact ⟨rfl, _, Eq.trans (World.drewN_drewN _ _ _) (congrArg (World.drewN _) (Nat.add_assoc _ _ _))⟩)) | (go_at_call 31; (with_reducible refine (accountingref01_Text.calls kj2 a0 t161 _ A8.out).mono ?_); rintro e w' ⟨rfl, ⟨nd, rfl⟩⟩; (try first | exact ⟨rfl, _, World.drewN_drewN _ _ _⟩ | exact ⟨rfl, _, Eq.trans (World.drewN_drewN _ _ _) (congrArg (World.drewN _) (Nat.add_assoc _ _ _))⟩)))
     repeat (go_quiet (first | (go_at_call 27; (with_reducible refine (accountingref07_large.calls a0 false _ A6.out).mono ?_); rintro e w' ⟨rfl, ⟨nd, rfl⟩⟩; (try first | exact ⟨rfl, _, World.drewN_drewN _ _ _⟩ | exact ⟨rfl, _, Eq.trans (World.drewN_drewN _ _ _) (congrArg (World.drewN _) (Nat.add_assoc _ _ _))⟩)) | (go_at_call 31; (with_reducible refine (accountingref01_Text.calls kj2 a0 t161 _ A8.out).mono ?_); rintro e w' ⟨rfl, ⟨nd, rfl⟩⟩; (try first | exact ⟨rfl, _, World.drewN_drewN _ _ _⟩ | exact ⟨rfl, _, Eq.trans (World.drewN_drewN _ _ _) (congrArg (World.drewN _) (Nat.add_assoc _ _ _))⟩))); go_upto_if 19 with (first | (go_at_call 27; (with_reducible refine (accountingref07_large.calls a0 false _ A6.out).mono ?_); rintro e w' ⟨rfl, ⟨nd, rfl⟩⟩; (try first | exact ⟨rfl, _, World.drewN_drewN _ _ _⟩ | exact ⟨rfl, _, Eq.trans (World.drewN_drewN _ _ _) (congrArg (World.drewN _) (Nat.add_assoc _ _ _))⟩)) | (go_at_call 31; (with_reducible refine (accountingref01_Text.calls kj2 a0 t161 _ A8.out).mono ?_); rintro e w' ⟨rfl, ⟨nd, rfl⟩⟩; (try first | exact ⟨rfl, _, World.drewN_drewN _ _ _⟩ | exact ⟨rfl, _, Eq.trans (World.drewN_drewN _ _ _) (congrArg (World.drewN _) (Nat.add_assoc _ _ _))⟩))))
     (try simp only [Act.put, List.setIfInBounds_toArray, List.set_cons_zero, List.set_cons_succ])
     go_cut [6, 7] (fun v6 v7 wc => ∃ (kq : Nat) (x6_8 : ByteArray) (x7_8 : ByteArray), v6 = .string x6_8 ∧ v7 = .string x7_8 ∧ Aside0 (accountingref07_Text.j1 kq a1 x6_8 x7_8 = some (r1, r2)) ∧ Aside0 (kq ≤ kj2) ∧ Drawn0 w wc)
     case first =>
      have H := HC9.out
      clear HC9
      by_cases c10 : a0 < 0
      ·rw [if_pos c10] at H
       have c10b0 : decide (a0 < 0) = true := decide_eq_true c10
       clear c10
       (first | rw [c10b0] | (simp only [i64_w, i32_w]; rw [c10b0]) | skip)
       by_cases c11 : 1 ≤ (t161.size : Int)
       ·rw [if_pos c11] at H
        have c11b0 := eq_true c11
        have c11b1 : decide (1 ≤ (t161.size : Int)) = true := decide_eq_true c11
        clear c11
        have H' := Aside0.mk H
        clear H
        go_wp2
        repeat (go_quiet (fail); try go_wp2)
        go_meet
        case rel => exact ⟨_, (t161.extract 1 t161.size), ((⟨#[45]⟩ : ByteArray)), zq1, zq1, H', ⟨zq5⟩, zq2⟩
       ·rw [if_neg c11] at H
        exact absurd H (by simp)
      ·rw [if_neg c10] at H
       have c10b0 : decide (a0 < 0) = false := decide_eq_false c10
       clear c10
       (first | rw [c10b0] | (simp only [i64_w, i32_w]; rw [c10b0]) | skip)
       have H' := Aside0.mk H
       clear H
       go_wp2
       repeat (go_quiet (fail); try go_wp2)
       go_meet
       case rel => exact ⟨_, (t161), ((⟨#[]⟩ : ByteArray)), zq1, zq1, H', ⟨zq5⟩, zq2⟩
     case rest =>
      clear HC9
      try clear c1
      try clear c2
      try clear p2
      try clear c4
      try clear c4b0
      try clear c5
      try clear c7
      try clear c10
      try clear c10b0
      try clear c11
      try clear c11b0
      try clear c11b1
      try clear p2
      obtain ⟨kq, x6_8, x7_8, rfl, rfl, HA, HJ8, ⟨mc8, rfl⟩⟩ := hcut
      cases kq with
      | zero => exact absurd HA.out (by simp [accountingref07_Text.j1])
      | succ kj8 =>
       have H := HA.out
       clear HA
       simp only [accountingref07_Text.j1] at H
       have H' := Aside0.mk H
       clear H
       go_wp2
       repeat (go_quiet (fail); try go_wp2)
       go_loopg [6] kj8 (fun kq v6 w' => ∃ (x6_3 : ByteArray), v6 = .string x6_3 ∧ Aside0 (accountingref07_Text.l0 kq a1 x6_3 x7_8 = some (r1, r2)) ∧ Aside0 (kq ≤ kj8) ∧ Drawn0 w w')
       case atStart => exact ⟨(x6_8), zq1, H', ⟨Nat.le_refl _⟩, zq2⟩
       case round =>
        clear H'
        try clear c1
        try clear c2
        try clear p2
        try clear c4
        try clear c4b0
        try clear c5
        try clear c7
        try clear c8
        try clear c10
        try clear c10b0
        try clear c11
        try clear c11b0
        try clear c11b1
        try clear p2
        obtain ⟨x6_3, rfl, HA, HK3, ⟨m3, rfl⟩⟩ := hrel
        cases gk with
        | zero => exact absurd HA.out (by simp [accountingref07_Text.l0])
        | succ k3 =>
         have H := HA.out
         clear HA
         simp only [accountingref07_Text.l0] at H
         by_cases c12 : (x6_3.size : Int) ≤ a1
         ·rw [if_pos c12] at H
          have c12b0 : decide ((x6_3.size : Int) ≤ a1) = true := decide_eq_true c12
          clear c12
          by_cases c13 : 1 + x6_3.size ≤ 9223372036854775807
          ·rw [if_pos c13] at H
           have c13b0 := eq_true c13
           have c13b1 : decide (1 + x6_3.size ≤ 9223372036854775807) = true := decide_eq_true c13
           try have c13b2 : (9223372036854775807 < 1 + x6_3.size) = False := eq_false (Nat.not_lt.2 c13)
           have H' := Aside0.mk H
           clear H
           go_wp2
           repeat (go_quiet (fail); try go_wp2)
           go_roundg k3
           case measure => have := HJ2.out; have := HJ8.out; have := HK3.out; omega
           case rel => exact ⟨((⟨#[48]⟩ : ByteArray) ++ x6_3), zq1, H', ⟨by have := HJ2.out; have := HJ8.out; have := HK3.out; omega⟩, zq2⟩
          ·rw [if_neg c13] at H
           exact absurd H (by simp)
         ·rw [if_neg c12] at H
          have c12b0 : decide ((x6_3.size : Int) ≤ a1) = false := decide_eq_false c12
          clear c12
          by_cases c14 : a1 = 0
          ·rw [if_pos c14] at H
           have c14b0 : (a1 == 0) = true := beq_iff_eq.mpr c14
           have c14b1 : (a1 != 0) = false := bne_eq_false_iff_eq.mpr c14
           clear c14
           by_cases c15 : x7_8.size + x6_3.size ≤ 9223372036854775807
           ·rw [if_pos c15] at H
            have c15b0 := eq_true c15
            have c15b1 : decide (x7_8.size + x6_3.size ≤ 9223372036854775807) = true := decide_eq_true c15
            try have c15b2 : (9223372036854775807 < x7_8.size + x6_3.size) = False := eq_false (Nat.not_lt.2 c15)
            simp only [Option.some.injEq, Prod.mk.injEq] at H
            obtain ⟨rfl, rfl⟩ := H
            go_wp2
            repeat (go_quiet (fail); try go_wp2)
            go_ret2
            exact ⟨zq1, zq2⟩
           ·rw [if_neg c15] at H
            exact absurd H (by simp)
          ·rw [if_neg c14] at H
           have c14b0 : (a1 == 0) = false := beq_eq_false_iff_ne.mpr c14
           have c14b1 : (a1 != 0) = true := bne_iff_ne.mpr c14
           obtain ⟨ji16, hji16⟩ : ∃ j_ : Int, (wrap64 ((x6_3.size : Int) - a1)) = j_ := ⟨_, rfl⟩
           replace H : (if 0 ≤ (ji16) then (if (ji16) ≤ (x6_3.size : Int) then (if x7_8.size + (x6_3.extract 0 ((ji16) : Int).toNat).size ≤ 9223372036854775807 then (if (x7_8 ++ (x6_3.extract 0 ((ji16) : Int).toNat)).size + 1 ≤ 9223372036854775807 then (if ((x7_8 ++ (x6_3.extract 0 ((ji16) : Int).toNat)) ++ (⟨#[46]⟩ : ByteArray)).size + (x6_3.extract ((ji16) : Int).toNat x6_3.size).size ≤ 9223372036854775807 then (some (((x7_8 ++ (x6_3.extract 0 ((ji16) : Int).toNat)) ++ (⟨#[46]⟩ : ByteArray)) ++ (x6_3.extract ((ji16) : Int).toNat x6_3.size), 0)) else (none)) else (none)) else (none)) else (none)) else (none)) = some (r1, r2) := by first | (rw [hji16] at H; exact H) | (simp only [hji16] at H ⊢; exact H)
           have hji16w : (IntKind.i64.wrap ((x6_3.size : Int) - a1)) = ji16 := (i64_w _).trans hji16
           by_cases c17 : 0 ≤ (ji16)
           ·rw [if_pos c17] at H
            have c17b0 := eq_true c17
            have c17b1 : decide (0 ≤ (ji16)) = true := decide_eq_true c17
            clear c17
            by_cases c18 : (ji16) ≤ (x6_3.size : Int)
            ·rw [if_pos c18] at H
             have c18b0 := eq_true c18
             have c18b1 : decide ((ji16) ≤ (x6_3.size : Int)) = true := decide_eq_true c18
             clear c18
             by_cases c19 : x7_8.size + (x6_3.extract 0 ((ji16) : Int).toNat).size ≤ 9223372036854775807
             ·rw [if_pos c19] at H
              have c19b0 := eq_true c19
              have c19b1 : decide (x7_8.size + (x6_3.extract 0 ((ji16) : Int).toNat).size ≤ 9223372036854775807) = true := decide_eq_true c19
              try have c19b2 : (9223372036854775807 < x7_8.size + (x6_3.extract 0 ((ji16) : Int).toNat).size) = False := eq_false (Nat.not_lt.2 c19)
              try (have c19z := c19; simp [*] at c19z; have c19z1 := eq_false (Nat.not_lt.2 c19z))
              by_cases c20 : (x7_8 ++ (x6_3.extract 0 ((ji16) : Int).toNat)).size + 1 ≤ 9223372036854775807
              ·rw [if_pos c20] at H
               have c20b0 := eq_true c20
               have c20b1 : decide ((x7_8 ++ (x6_3.extract 0 ((ji16) : Int).toNat)).size + 1 ≤ 9223372036854775807) = true := decide_eq_true c20
               try have c20b2 : (9223372036854775807 < (x7_8 ++ (x6_3.extract 0 ((ji16) : Int).toNat)).size + 1) = False := eq_false (Nat.not_lt.2 c20)
               try (have c20z := c20; simp [*] at c20z; have c20z1 := eq_false (Nat.not_lt.2 c20z))
               have c21b0 := eq_true (of_decide_eq_true zq6 : 0 ≤ (ji16))
               have c22b0 := eq_true (of_decide_eq_true zq6 : (ji16) ≤ (x6_3.size : Int))
               by_cases c23 : ((x7_8 ++ (x6_3.extract 0 ((ji16) : Int).toNat)) ++ (⟨#[46]⟩ : ByteArray)).size + (x6_3.extract ((ji16) : Int).toNat x6_3.size).size ≤ 9223372036854775807
               ·rw [if_pos c23] at H
                have c23b0 := eq_true c23
                have c23b1 : decide (((x7_8 ++ (x6_3.extract 0 ((ji16) : Int).toNat)) ++ (⟨#[46]⟩ : ByteArray)).size + (x6_3.extract ((ji16) : Int).toNat x6_3.size).size ≤ 9223372036854775807) = true := decide_eq_true c23
                try have c23b2 : (9223372036854775807 < ((x7_8 ++ (x6_3.extract 0 ((ji16) : Int).toNat)) ++ (⟨#[46]⟩ : ByteArray)).size + (x6_3.extract ((ji16) : Int).toNat x6_3.size).size) = False := eq_false (Nat.not_lt.2 c23)
                try (have c23z := c23; simp [*] at c23z; have c23z1 := eq_false (Nat.not_lt.2 c23z))
                simp only [Option.some.injEq, Prod.mk.injEq] at H
                obtain ⟨rfl, rfl⟩ := H
                go_wp2
                repeat (go_quiet (fail); try go_wp2)
                go_ret2
                exact ⟨zq7, zq2⟩
               ·rw [if_neg c23] at H
                exact absurd H (by simp)
              ·rw [if_neg c20] at H
               exact absurd H (by simp)
             ·rw [if_neg c19] at H
              exact absurd H (by simp)
            ·rw [if_neg c18] at H
             exact absurd H (by simp)
           ·rw [if_neg c17] at H
            exact absurd H (by simp)

/-! ### accountingref01_Digits: function 35 -/
def accountingref01_Digits.l0 : Nat → ByteArray → Int → Option (Bool)
 | 0, _, _ => none
 | k + 1, x0, x3 => if x3 < (x0.size : Int) then (if 0 ≤ x3 then (if (bt x0 x3) < 48 then (some false) else (if (bt x0 x3) > 57 then (some false) else (accountingref01_Digits.l0 k x0 (wrap64 (x3 + 1))))) else (none)) else (some (x0.toList != ([] : List UInt8)))
def accountingref01_Digits.f (k : Nat) (a0 : ByteArray) : Option (Bool) := accountingref01_Digits.l0 k a0 0
theorem accountingref01_Digits.mono_l : ∀ k, (∀ y0 y1, LeO (accountingref01_Digits.l0 k y0 y1) (accountingref01_Digits.l0 (k + 1) y0 y1))
 | 0 => fun _ _ r h => by simp [accountingref01_Digits.l0] at h
 | k + 1 => by
  have ih0 := accountingref01_Digits.mono_l k
  ·intro y0 y1
   unfold accountingref01_Digits.l0
   repeat' first
   | (with_reducible exact ih0 _ _)
   | (with_reducible exact LeO.refl _)
   | (with_reducible exact LeO.none _)
   | (with_reducible refine LeO.ite ?_ ?_)
   | (with_reducible refine LeO.bind ?_ (fun _ => ?_))
   | exact ih0 _ _
   | exact LeO.none _
   | refine LeO.ite ?_ ?_
   | refine LeO.bind ?_ (fun _ => ?_)
theorem accountingref01_Digits.mono : ∀ a0 k, LeO (accountingref01_Digits.f k a0) (accountingref01_Digits.f (k + 1) a0) := by
 intro a0 k
 have ih0 := accountingref01_Digits.mono_l k
 unfold accountingref01_Digits.f
 repeat' first
   | (with_reducible exact ih0 _ _)
   | (with_reducible exact LeO.refl _)
   | (with_reducible exact LeO.none _)
   | (with_reducible refine LeO.ite ?_ ?_)
   | (with_reducible refine LeO.bind ?_ (fun _ => ?_))
   | exact ih0 _ _
   | exact LeO.none _
   | refine LeO.ite ?_ ?_
   | refine LeO.bind ?_ (fun _ => ?_)
set_option maxHeartbeats 8000000 in
set_option maxRecDepth 100000 in
theorem accountingref01_Digits.calls (k : Nat) (a0 : ByteArray) (r : Bool) (w : World) (h : accountingref01_Digits.f k a0 = some r) :
  Calls Tryd.prog 35 #[.string a0] w fun e w' => e = .returned (.bool r) ∧ Drawn0 w w' := by
 have H : (accountingref01_Digits.l0 k a0 0) = some r := h
 clear h
 have H' := Aside0.mk H
 clear H
 go_enter Tryd.func35, Tryd.ntmps35
 go_wp2
 go_loopg [3] k (fun kq v3 w' => ∃ (x3_1 : Int), v3 = .int .i64 x3_1 ∧ Aside0 (accountingref01_Digits.l0 kq a0 x3_1 = some r) ∧ Aside0 (kq ≤ k) ∧ Drawn0 w w')
 case atStart => exact ⟨(0), zq1, H', ⟨Nat.le_refl _⟩, zq2⟩
 case round =>
  clear H'
  obtain ⟨x3_1, rfl, HA, HK1, ⟨m1, rfl⟩⟩ := hrel
  cases gk with
  | zero => exact absurd HA.out (by simp [accountingref01_Digits.l0])
  | succ k1 =>
   have H := HA.out
   clear HA
   simp only [accountingref01_Digits.l0] at H
   by_cases c2 : x3_1 < (a0.size : Int)
   ·rw [if_pos c2] at H
    have c2b0 : decide (x3_1 < (a0.size : Int)) = true := decide_eq_true c2
    clear c2
    by_cases c3 : 0 ≤ x3_1
    ·rw [if_pos c3] at H
     have c3b0 : decide (0 ≤ x3_1) = true := decide_eq_true c3
     clear c3
     by_cases c5 : (bt a0 x3_1) < 48
     ·rw [if_pos c5] at H
      have c5b0 : decide ((bt a0 x3_1) < 48) = true := decide_eq_true c5
      clear c5
      obtain rfl := Option.some.inj H
      have p4 : 0 ≤ (x3_1 : Int) := of_decide_eq_true zq6
      have q4 : x3_1 < (a0.size : Int) := of_decide_eq_true zq6
      have hx4 := bt_at a0 x3_1
      replace p4 := eq_true p4
      replace q4 := eq_true q4
      go_wp2
      go_ret
      exact ⟨zq1, zq2⟩
     ·rw [if_neg c5] at H
      have c5b0 : decide ((bt a0 x3_1) < 48) = false := decide_eq_false c5
      clear c5
      by_cases c7 : (bt a0 x3_1) > 57
      ·rw [if_pos c7] at H
       have c7b0 : decide (57 < (bt a0 x3_1)) = true := decide_eq_true c7
       clear c7
       obtain rfl := Option.some.inj H
       have p4 : 0 ≤ (x3_1 : Int) := of_decide_eq_true zq6
       have q4 : x3_1 < (a0.size : Int) := of_decide_eq_true zq6
       have hx4 := bt_at a0 x3_1
       replace p4 := eq_true p4
       replace q4 := eq_true q4
       have p6 : 0 ≤ (x3_1 : Int) := of_decide_eq_true zq6
       have q6 : x3_1 < (a0.size : Int) := of_decide_eq_true zq6
       have hx6 := bt_at a0 x3_1
       replace p6 := eq_true p6
       replace q6 := eq_true q6
       go_wp2
       go_ret
       exact ⟨zq1, zq2⟩
      ·rw [if_neg c7] at H
       have c7b0 : decide (57 < (bt a0 x3_1)) = false := decide_eq_false c7
       clear c7
       have H' := Aside0.mk H
       clear H
       have p4 : 0 ≤ (x3_1 : Int) := of_decide_eq_true zq6
       have q4 : x3_1 < (a0.size : Int) := of_decide_eq_true zq6
       have hx4 := bt_at a0 x3_1
       replace p4 := eq_true p4
       replace q4 := eq_true q4
       have p6 : 0 ≤ (x3_1 : Int) := of_decide_eq_true zq6
       have q6 : x3_1 < (a0.size : Int) := of_decide_eq_true zq6
       have hx6 := bt_at a0 x3_1
       replace p6 := eq_true p6
       replace q6 := eq_true q6
       go_wp2
       go_roundg k1
       case measure => have := HK1.out; omega
       case rel => exact ⟨(wrap64 (x3_1 + 1)), zq1, H', ⟨by have := HK1.out; omega⟩, zq2⟩
    ·rw [if_neg c3] at H
     exact absurd H (by simp)
   ·rw [if_neg c2] at H
    have c2b0 : decide (x3_1 < (a0.size : Int)) = false := decide_eq_false c2
    clear c2
    obtain rfl := Option.some.inj H
    go_wp2
    go_ret
    exact ⟨zq1, zq2⟩

/-! ### accountingref01_Add: function 49 -/
def accountingref01_Add.f (a0 : Int) (a1 : Int) : Option (Int × Bool) := if a1 > 0 then (if a0 > (wrap64 (9223372036854775807 - a1)) then (some (0, false)) else (if a1 < 0 then (if a0 < (wrap64 ((-9223372036854775808) - a1)) then (some (0, false)) else (some (wrap64 (a0 + a1), true))) else (some (wrap64 (a0 + a1), true)))) else (if a1 < 0 then (if a0 < (wrap64 ((-9223372036854775808) - a1)) then (some (0, false)) else (some (wrap64 (a0 + a1), true))) else (some (wrap64 (a0 + a1), true)))
set_option maxHeartbeats 8000000 in
set_option maxRecDepth 100000 in
theorem accountingref01_Add.calls (a0 : Int) (a1 : Int) (r1 : Int) (r2 : Bool) (w : World) (h : accountingref01_Add.f a0 a1 = some (r1, r2)) :
  Calls Tryd.prog 49 #[.int .i64 a0, .int .i64 a1] w fun e w' => e = .returned (.tuple #[.int .i64 r1, .bool r2]) ∧ Drawn0 w w' := by
 have H : (if a1 > 0 then (if a0 > (wrap64 (9223372036854775807 - a1)) then (some (0, false)) else (if a1 < 0 then (if a0 < (wrap64 ((-9223372036854775808) - a1)) then (some (0, false)) else (some (wrap64 (a0 + a1), true))) else (some (wrap64 (a0 + a1), true)))) else (if a1 < 0 then (if a0 < (wrap64 ((-9223372036854775808) - a1)) then (some (0, false)) else (some (wrap64 (a0 + a1), true))) else (some (wrap64 (a0 + a1), true)))) = some (r1, r2) := h
 clear h
 by_cases c3 : a1 > 0
 ·rw [if_pos c3] at H
  have c3b0 : decide (0 < a1) = true := decide_eq_true c3
  clear c3
  by_cases c4 : a0 > (wrap64 (9223372036854775807 - a1))
  ·rw [if_pos c4] at H
   have c4b0 : decide ((wrap64 (9223372036854775807 - a1)) < a0) = true := decide_eq_true c4
   clear c4
   simp only [Option.some.injEq, Prod.mk.injEq] at H
   obtain ⟨rfl, rfl⟩ := H
   go_enter Tryd.func49, Tryd.ntmps49
   go_wp2
   go_ret2
   exact ⟨zq1, zq2⟩
  ·rw [if_neg c4] at H
   have c4b0 : decide ((wrap64 (9223372036854775807 - a1)) < a0) = false := decide_eq_false c4
   clear c4
   by_cases c5 : a1 < 0
   ·rw [if_pos c5] at H
    have c5b0 : decide (a1 < 0) = true := decide_eq_true c5
    clear c5
    by_cases c6 : a0 < (wrap64 ((-9223372036854775808) - a1))
    ·rw [if_pos c6] at H
     have c6b0 : decide (a0 < (wrap64 ((-9223372036854775808) - a1))) = true := decide_eq_true c6
     clear c6
     simp only [Option.some.injEq, Prod.mk.injEq] at H
     obtain ⟨rfl, rfl⟩ := H
     go_enter Tryd.func49, Tryd.ntmps49
     go_wp2
     go_ret2
     exact ⟨zq1, zq2⟩
    ·rw [if_neg c6] at H
     have c6b0 : decide (a0 < (wrap64 ((-9223372036854775808) - a1))) = false := decide_eq_false c6
     clear c6
     simp only [Option.some.injEq, Prod.mk.injEq] at H
     obtain ⟨rfl, rfl⟩ := H
     go_enter Tryd.func49, Tryd.ntmps49
     go_wp2
     go_ret2
     exact ⟨zq1, zq2⟩
   ·rw [if_neg c5] at H
    have c5b0 : decide (a1 < 0) = false := decide_eq_false c5
    clear c5
    simp only [Option.some.injEq, Prod.mk.injEq] at H
    obtain ⟨rfl, rfl⟩ := H
    go_enter Tryd.func49, Tryd.ntmps49
    go_wp2
    go_ret2
    exact ⟨zq1, zq2⟩
 ·rw [if_neg c3] at H
  have c3b0 : decide (0 < a1) = false := decide_eq_false c3
  clear c3
  by_cases c7 : a1 < 0
  ·rw [if_pos c7] at H
   have c7b0 : decide (a1 < 0) = true := decide_eq_true c7
   clear c7
   by_cases c8 : a0 < (wrap64 ((-9223372036854775808) - a1))
   ·rw [if_pos c8] at H
    have c8b0 : decide (a0 < (wrap64 ((-9223372036854775808) - a1))) = true := decide_eq_true c8
    clear c8
    simp only [Option.some.injEq, Prod.mk.injEq] at H
    obtain ⟨rfl, rfl⟩ := H
    go_enter Tryd.func49, Tryd.ntmps49
    go_wp2
    go_ret2
    exact ⟨zq1, zq2⟩
   ·rw [if_neg c8] at H
    have c8b0 : decide (a0 < (wrap64 ((-9223372036854775808) - a1))) = false := decide_eq_false c8
    clear c8
    simp only [Option.some.injEq, Prod.mk.injEq] at H
    obtain ⟨rfl, rfl⟩ := H
    go_enter Tryd.func49, Tryd.ntmps49
    go_wp2
    go_ret2
    exact ⟨zq1, zq2⟩
  ·rw [if_neg c7] at H
   have c7b0 : decide (a1 < 0) = false := decide_eq_false c7
   clear c7
   simp only [Option.some.injEq, Prod.mk.injEq] at H
   obtain ⟨rfl, rfl⟩ := H
   go_enter Tryd.func49, Tryd.ntmps49
   go_wp2
   go_ret2
   exact ⟨zq1, zq2⟩

end Go.Proofs.YthmpapnhomngnaaDoor.A
