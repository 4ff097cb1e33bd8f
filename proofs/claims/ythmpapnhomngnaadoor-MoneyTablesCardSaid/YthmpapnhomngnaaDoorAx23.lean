-- By gen.py, a program of this session's, over the print's forms: not the print's own text.
import Derived.Test.YthmpapnhomngnaaDoorAx0
import Derived.Test.YthmpapnhomngnaaDoorQ
import Derived.Test.YthmpapnhomngnaaDoorAx6
import Derived.Test.YthmpapnhomngnaaDoorAx7
import Derived.Test.YthmpapnhomngnaaDoorAx8
import Derived.Test.YthmpapnhomngnaaDoorAx14
import Derived.Test.YthmpapnhomngnaaDoorAx15
import Derived.Test.YthmpapnhomngnaaDoorAx16
namespace Go.Proofs.YthmpapnhomngnaaDoor.A
open Go.RowKit Go.Proofs.YthmpapnhomngnaaDoor.B Go.Proofs.YthmpapnhomngnaaDoorW.PrintWords Go.Proofs.YthmpapnhomngnaaDoorW.PrintLast Go.Proofs.YthmpapnhomngnaaDoorW.PrintMore
attribute [local go_sem] max2_int min2_int max_two min_two max_three min_three max_four min_four   -- for this text's walks alone
set_option linter.unusedVariables false
set_option linter.unusedSimpArgs false

/-! ### accountinglaw07_MoneyTables: function 9 -/
def accountinglaw07_MoneyTables.j0 : Nat → List (S56) → ByteArray → Bool → Option (Bool)
 | 0, _, _, _ => none
 | k + 1, x0, x1, x16 => if x16 = true then (some true) else ((money_Digits.f k x0 x1).bind fun bt203 => ((accountingref07_Digits.f k x0 x1).bind fun bt205 => ((money_Code.f x1).bind fun t207 => ((accountingref07_Code.f k x1).bind fun t208 => (if (t207 == t208) = true then ((money_Right.f k x0).bind fun t209 => ((accountingref07_Right.f k x0).bind fun t210 => (if (t209 == t210) = true then (if bt203.1 = bt205.1 then (if (bt203.2 == bt205.2) = true then ((accountinglaw07_lives.f k).bind fun t211 => (some t211)) else (some false)) else (some false)) else (some false)))) else (some false))))))
def accountinglaw07_MoneyTables.f (k : Nat) (l0 : List (S56)) (a1 : ByteArray) : Option (Bool) := if (l0.length : Int) > 50 then (accountinglaw07_MoneyTables.j0 k l0 a1 true) else (accountinglaw07_MoneyTables.j0 k l0 a1 (decide ((a1.size : Int) > 100)))
theorem accountinglaw07_MoneyTables.mono_l : ∀ k, (∀ y0 y1 y2, LeO (accountinglaw07_MoneyTables.j0 k y0 y1 y2) (accountinglaw07_MoneyTables.j0 (k + 1) y0 y1 y2))
 | 0 => fun _ _ _ r h => by simp [accountinglaw07_MoneyTables.j0] at h
 | k + 1 => by
  have ih0 := accountinglaw07_MoneyTables.mono_l k
  ·intro y0 y1 y2
   unfold accountinglaw07_MoneyTables.j0
   repeat' first
   | (with_reducible exact ih0 _ _ _)
   | (with_reducible exact accountinglaw07_lives.mono _)
   | (with_reducible exact accountingref07_Code.mono _ _)
   | (with_reducible exact accountingref07_Digits.mono _ _ _)
   | (with_reducible exact accountingref07_Right.mono _ _)
   | (with_reducible exact money_Digits.mono _ _ _)
   | (with_reducible exact money_Right.mono _ _)
   | (with_reducible exact LeO.refl _)
   | (with_reducible exact LeO.none _)
   | (with_reducible refine LeO.ite ?_ ?_)
   | (with_reducible refine LeO.bind ?_ (fun _ => ?_))
   | exact ih0 _ _ _
   | exact accountinglaw07_lives.mono _
   | exact accountingref07_Code.mono _ _
   | exact accountingref07_Digits.mono _ _ _
   | exact accountingref07_Right.mono _ _
   | exact money_Digits.mono _ _ _
   | exact money_Right.mono _ _
   | exact LeO.none _
   | refine LeO.ite ?_ ?_
   | refine LeO.bind ?_ (fun _ => ?_)
theorem accountinglaw07_MoneyTables.mono : ∀ a0 a1 k, LeO (accountinglaw07_MoneyTables.f k a0 a1) (accountinglaw07_MoneyTables.f (k + 1) a0 a1) := by
 intro a0 a1 k
 have ih0 := accountinglaw07_MoneyTables.mono_l k
 unfold accountinglaw07_MoneyTables.f
 repeat' first
   | (with_reducible exact ih0 _ _ _)
   | (with_reducible exact accountinglaw07_lives.mono _)
   | (with_reducible exact accountingref07_Code.mono _ _)
   | (with_reducible exact accountingref07_Digits.mono _ _ _)
   | (with_reducible exact accountingref07_Right.mono _ _)
   | (with_reducible exact money_Digits.mono _ _ _)
   | (with_reducible exact money_Right.mono _ _)
   | (with_reducible exact LeO.refl _)
   | (with_reducible exact LeO.none _)
   | (with_reducible refine LeO.ite ?_ ?_)
   | (with_reducible refine LeO.bind ?_ (fun _ => ?_))
   | exact ih0 _ _ _
   | exact accountinglaw07_lives.mono _
   | exact accountingref07_Code.mono _ _
   | exact accountingref07_Digits.mono _ _ _
   | exact accountingref07_Right.mono _ _
   | exact money_Digits.mono _ _ _
   | exact money_Right.mono _ _
   | exact LeO.none _
   | refine LeO.ite ?_ ?_
   | refine LeO.bind ?_ (fun _ => ?_)
set_option maxHeartbeats 8000000 in
set_option maxRecDepth 100000 in
theorem accountinglaw07_MoneyTables.calls (k : Nat) (A0 : Option Addr) (c0 : Nat) (l0 : List (S56)) (a1 : ByteArray) (r : Bool) (w : World) (hr0 : Kd.C k56 w A0 l0.length l0) (hc0 : l0.length ≤ c0) (h : accountinglaw07_MoneyTables.f k l0 a1 = some r) (hG : Gl w) :
  Calls Tryd.prog 9 #[.slice A0 l0.length c0, .string a1] w fun e w' => e = .returned (.bool r) ∧ Below w.heap.size w w' := by
 have HG := Aside0.mk hG
 clear hG
 have HR0 := Aside0.mk hr0
 have HC0 := Aside0.mk hc0
 clear hr0 hc0
 have HB := Aside0.mk (Below.refl w.heap.size w)
 have H : (if (l0.length : Int) > 50 then (accountinglaw07_MoneyTables.j0 k l0 a1 true) else (accountinglaw07_MoneyTables.j0 k l0 a1 (decide ((a1.size : Int) > 100)))) = some r := h
 clear h
 have HC3 := Aside0.mk H
 clear H
 go_enter Tryd.func9, Tryd.ntmps9
 go_upto_region 1 with (fail)
 go_cut [16] (fun v16 wc => ∃ (kq : Nat) (x16_2 : Bool), v16 = .bool x16_2 ∧ Aside0 (accountinglaw07_MoneyTables.j0 kq l0 a1 x16_2 = some r) ∧ Aside0 (kq ≤ k) ∧ Aside0 (Below w.heap.size w wc))
 case first =>
  have H := HC3.out
  clear HC3
  by_cases c4 : (l0.length : Int) > 50
  ·rw [if_pos c4] at H
   have c4b0 : decide (50 < (l0.length : Int)) = true := decide_eq_true c4
   have c4b1 : decide (50 < l0.length) = true := decide_eq_true (by omega)
   clear c4
   (first | rw [c4b0] | (simp only [i64_w, i32_w]; rw [c4b0]) | skip)
   have H' := Aside0.mk H
   clear H
   go_wp2
   go_meet
   case rel => exact ⟨_, (true), zq1, H', ⟨by first | omega | exact Nat.le_refl _⟩, ⟨zq11⟩⟩
  ·rw [if_neg c4] at H
   have c4b0 : decide (50 < (l0.length : Int)) = false := decide_eq_false c4
   have c4b1 : decide (50 < l0.length) = false := decide_eq_false (by omega)
   clear c4
   (first | rw [c4b0] | (simp only [i64_w, i32_w]; rw [c4b0]) | skip)
   have H' := Aside0.mk H
   clear H
   go_wp2
   go_meet
   case rel => exact ⟨_, (decide ((a1.size : Int) > 100)), zq1, H', ⟨by first | omega | exact Nat.le_refl _⟩, ⟨zq11⟩⟩
 case rest =>
  clear HC3
  try clear p2
  try clear c4
  try clear c4b0
  try clear c4b1
  obtain ⟨kq, x16_2, rfl, HA, HJ2, HB⟩ := hcut
  cases kq with
  | zero => exact absurd HA.out (by simp [accountinglaw07_MoneyTables.j0])
  | succ kj2 =>
   have H := HA.out
   clear HA
   simp only [accountinglaw07_MoneyTables.j0] at H
   by_cases c5 : x16_2 = true
   ·subst c5
    have H1 : (some true) = some r := by rw [if_pos rfl] at H; exact H
    clear H
    have H := H1
    clear H1
    obtain rfl := Option.some.inj H
    go_wp2
    go_ret
    exact ⟨zq10, zq11⟩
   ·replace c5 := Bool.eq_false_iff.mpr c5
    subst c5
    have H1 : ((money_Digits.f kj2 l0 a1).bind fun bt203 => ((accountingref07_Digits.f kj2 l0 a1).bind fun bt205 => ((money_Code.f a1).bind fun t207 => ((accountingref07_Code.f kj2 a1).bind fun t208 => (if (t207 == t208) = true then ((money_Right.f kj2 l0).bind fun t209 => ((accountingref07_Right.f kj2 l0).bind fun t210 => (if (t209 == t210) = true then (if bt203.1 = bt205.1 then (if (bt203.2 == bt205.2) = true then ((accountinglaw07_lives.f kj2).bind fun t211 => (some t211)) else (some false)) else (some false)) else (some false)))) else (some false)))))) = some r := by rw [if_neg (show ¬ (false = true) by decide)] at H; exact H
    clear H
    have H := H1
    clear H1
    replace H := Option.bind_eq_some_iff.mp H
    obtain ⟨⟨t203, t204⟩, A60, H⟩ := H
    replace H : ((accountingref07_Digits.f kj2 l0 a1).bind fun bt205 => ((money_Code.f a1).bind fun t207 => ((accountingref07_Code.f kj2 a1).bind fun t208 => (if (t207 == t208) = true then ((money_Right.f kj2 l0).bind fun t209 => ((accountingref07_Right.f kj2 l0).bind fun t210 => (if (t209 == t210) = true then (if t203 = bt205.1 then (if (t204 == bt205.2) = true then ((accountinglaw07_lives.f kj2).bind fun t211 => (some t211)) else (some false)) else (some false)) else (some false)))) else (some false))))) = some r := H
    have A6 := Aside0.mk A60
    clear A60
    replace H := Option.bind_eq_some_iff.mp H
    obtain ⟨⟨t205, t206⟩, A70, H⟩ := H
    replace H : ((money_Code.f a1).bind fun t207 => ((accountingref07_Code.f kj2 a1).bind fun t208 => (if (t207 == t208) = true then ((money_Right.f kj2 l0).bind fun t209 => ((accountingref07_Right.f kj2 l0).bind fun t210 => (if (t209 == t210) = true then (if t203 = t205 then (if (t204 == t206) = true then ((accountinglaw07_lives.f kj2).bind fun t211 => (some t211)) else (some false)) else (some false)) else (some false)))) else (some false)))) = some r := H
    have A7 := Aside0.mk A70
    clear A70
    replace H := Option.bind_eq_some_iff.mp H
    obtain ⟨t207, A80, H⟩ := H
    replace H : ((accountingref07_Code.f kj2 a1).bind fun t208 => (if (t207 == t208) = true then ((money_Right.f kj2 l0).bind fun t209 => ((accountingref07_Right.f kj2 l0).bind fun t210 => (if (t209 == t210) = true then (if t203 = t205 then (if (t204 == t206) = true then ((accountinglaw07_lives.f kj2).bind fun t211 => (some t211)) else (some false)) else (some false)) else (some false)))) else (some false))) = some r := H
    have A8 := Aside0.mk A80
    clear A80
    replace H := Option.bind_eq_some_iff.mp H
    obtain ⟨t208, A90, H⟩ := H
    replace H : (if (t207 == t208) = true then ((money_Right.f kj2 l0).bind fun t209 => ((accountingref07_Right.f kj2 l0).bind fun t210 => (if (t209 == t210) = true then (if t203 = t205 then (if (t204 == t206) = true then ((accountinglaw07_lives.f kj2).bind fun t211 => (some t211)) else (some false)) else (some false)) else (some false)))) else (some false)) = some r := H
    have A9 := Aside0.mk A90
    clear A90
    by_cases c10 : (t207 == t208) = true
    ·rw [if_pos c10] at H
     have c10b0 : (t207 == t208) = true := c10
     (try (have c10b1 : decide (t207 = t208) = true := by simpa using c10))
     (try (have c10b2 : (t207 == t208) = true := by simpa using c10))
     clear c10
     replace H := Option.bind_eq_some_iff.mp H
     obtain ⟨t209, A110, H⟩ := H
     replace H : ((accountingref07_Right.f kj2 l0).bind fun t210 => (if (t209 == t210) = true then (if t203 = t205 then (if (t204 == t206) = true then ((accountinglaw07_lives.f kj2).bind fun t211 => (some t211)) else (some false)) else (some false)) else (some false))) = some r := H
     have A11 := Aside0.mk A110
     clear A110
     replace H := Option.bind_eq_some_iff.mp H
     obtain ⟨t210, A120, H⟩ := H
     replace H : (if (t209 == t210) = true then (if t203 = t205 then (if (t204 == t206) = true then ((accountinglaw07_lives.f kj2).bind fun t211 => (some t211)) else (some false)) else (some false)) else (some false)) = some r := H
     have A12 := Aside0.mk A120
     clear A120
     by_cases c13 : (t209 == t210) = true
     ·rw [if_pos c13] at H
      have c13b0 : (t209 == t210) = true := c13
      (try (have c13b1 : decide (t209 = t210) = true := by simpa using c13))
      (try (have c13b2 : (t209 == t210) = true := by simpa using c13))
      clear c13
      by_cases c14 : t203 = t205
      ·rw [if_pos c14] at H
       have c14b0 : (t203 == t205) = true := beq_iff_eq.mpr c14
       have c14b1 : (t203 != t205) = false := bne_eq_false_iff_eq.mpr c14
       clear c14
       by_cases c15 : (t204 == t206) = true
       ·rw [if_pos c15] at H
        have c15b0 : (t204 == t206) = true := c15
        (try (have c15b1 : decide (t204 = t206) = true := by simpa using c15))
        (try (have c15b2 : (t204 == t206) = true := by simpa using c15))
        clear c15
        replace H := Option.bind_eq_some_iff.mp H
        obtain ⟨t211, A160, H⟩ := H
        replace H : (some t211) = some r := H
        have A16 := Aside0.mk A160
        clear A160
        obtain rfl := Option.some.inj H
        go_wp2_with (first | ((with_reducible refine gate_callee (f := 18) rfl ?_); refine goesL_ (some 20) rfl rfl Tryd.func18 (by kernel_rfl) rfl #[.slice A0 l0.length c0, .string a1] rfl zq3 ?_; (with_reducible refine (money_Digits.calls kj2 _ _ l0 a1 t203 t204 _ ?side1 ?side2 A6.out).mono ?_); (case side1 => repeat (first | exact (Kd.C_below HR0.out HB.out) | (with_reducible refine Kd.C_alloc ?_ _) | (with_reducible refine Kd.C_drewN ?_ _) | (with_reducible refine Kd.C_drew ?_))); (case side2 => exact HC0.out); rintro e w17 ⟨rfl, hb⟩; refine ⟨_, rfl, ?_⟩; have n0_ := Aside0.mk (below_step zq11 hb); clear HB; have HB := n0_; clear n0_; (try clear hb); (try clear hb2); (try clear hk); (try clear hi)) | ((with_reducible refine gate_callee (f := 19) rfl ?_); refine goesL_ (some 26) rfl rfl Tryd.func19 (by kernel_rfl) rfl #[.slice A0 l0.length c0, .string a1] rfl zq3 ?_; (with_reducible refine (accountingref07_Digits.calls kj2 _ _ l0 a1 t205 t206 _ ?side1 ?side2 A7.out).mono ?_); (case side1 => repeat (first | exact (Kd.C_below HR0.out HB.out) | (with_reducible refine Kd.C_alloc ?_ _) | (with_reducible refine Kd.C_drewN ?_ _) | (with_reducible refine Kd.C_drew ?_))); (case side2 => exact HC0.out); rintro e w18 ⟨rfl, hb⟩; refine ⟨_, rfl, ?_⟩; have n0_ := Aside0.mk (below_step zq11 hb); clear HB; have HB := n0_; clear n0_; (try clear hb); (try clear hb2); (try clear hk); (try clear hi)) | ((with_reducible refine gate_callee (f := 20) rfl ?_); refine goesL_ (some 30) rfl rfl Tryd.func20 (by kernel_rfl) rfl #[.string a1] rfl zq3 ?_; (with_reducible refine (money_Code.calls a1 t207 _ A8.out).mono ?_); rintro e w19 ⟨rfl, hb⟩; refine ⟨_, rfl, ?_⟩; have n0_ := Aside0.mk (below_step zq11 hb); clear HB; have HB := n0_; clear n0_; (try clear hb); (try clear hb2); (try clear hk); (try clear hi)) | ((with_reducible refine gate_callee (f := 21) rfl ?_); refine goesL_ (some 32) rfl rfl Tryd.func21 (by kernel_rfl) rfl #[.string a1] rfl zq3 ?_; (with_reducible refine (accountingref07_Code.calls kj2 a1 t208 _ A9.out).mono ?_); rintro e w' ⟨rfl, ⟨nd, rfl⟩⟩; refine ⟨_, rfl, ?_⟩) | (go_at_call 22; (with_reducible refine (money_Right.calls kj2 _ _ l0 t209 _ ?side1 ?side2 A11.out).mono ?_); (case side1 => repeat (first | exact (Kd.C_below HR0.out zq11) | (with_reducible refine Kd.C_alloc ?_ _) | (with_reducible refine Kd.C_drewN ?_ _) | (with_reducible refine Kd.C_drew ?_))); (case side2 => exact HC0.out); rintro e w20 ⟨rfl, hb⟩; have n0_ := Aside0.mk (below_step zq11 hb); clear HB; have HB := n0_; clear n0_; (try clear hb); (try clear hb2); (try clear hk); (try clear hi)) | (go_at_call 23; (with_reducible refine (accountingref07_Right.calls kj2 _ _ l0 t210 _ ?side1 ?side2 A12.out).mono ?_); (case side1 => repeat (first | exact (Kd.C_below HR0.out HB.out) | (with_reducible refine Kd.C_alloc ?_ _) | (with_reducible refine Kd.C_drewN ?_ _) | (with_reducible refine Kd.C_drew ?_))); (case side2 => exact HC0.out); rintro e w21 ⟨rfl, hb⟩; have n0_ := Aside0.mk (below_step zq11 hb); clear HB; have HB := n0_; clear n0_; (try clear hb); (try clear hb2); (try clear hk); (try clear hi)) | (go_at_call 12; (with_reducible refine (accountinglaw07_lives.calls kj2  t211 _ A16.out (gl_below HG.out zq12)).mono ?_); rintro e w22 ⟨rfl, hb⟩; have n0_ := Aside0.mk (below_step zq11 hb); clear HB; have HB := n0_; clear n0_; (try clear hb); (try clear hb2); (try clear hk); (try clear hi)))
        go_ret
        exact ⟨zq10, zq11⟩
       ·rw [if_neg c15] at H
        have c15b0 : (t204 == t206) = false := by simpa using c15
        (try (have c15b1 : decide (t204 = t206) = false := by simpa using c15))
        (try (have c15b2 : (t204 == t206) = false := by simpa using c15))
        (try (have c15b3 : ¬ (t204 = t206) := by simpa using c15))
        clear c15
        obtain rfl := Option.some.inj H
        go_wp2_with (first | ((with_reducible refine gate_callee (f := 18) rfl ?_); refine goesL_ (some 20) rfl rfl Tryd.func18 (by kernel_rfl) rfl #[.slice A0 l0.length c0, .string a1] rfl zq3 ?_; (with_reducible refine (money_Digits.calls kj2 _ _ l0 a1 t203 t204 _ ?side1 ?side2 A6.out).mono ?_); (case side1 => repeat (first | exact (Kd.C_below HR0.out HB.out) | (with_reducible refine Kd.C_alloc ?_ _) | (with_reducible refine Kd.C_drewN ?_ _) | (with_reducible refine Kd.C_drew ?_))); (case side2 => exact HC0.out); rintro e w23 ⟨rfl, hb⟩; refine ⟨_, rfl, ?_⟩; have n0_ := Aside0.mk (below_step zq11 hb); clear HB; have HB := n0_; clear n0_; (try clear hb); (try clear hb2); (try clear hk); (try clear hi)) | ((with_reducible refine gate_callee (f := 19) rfl ?_); refine goesL_ (some 26) rfl rfl Tryd.func19 (by kernel_rfl) rfl #[.slice A0 l0.length c0, .string a1] rfl zq3 ?_; (with_reducible refine (accountingref07_Digits.calls kj2 _ _ l0 a1 t205 t206 _ ?side1 ?side2 A7.out).mono ?_); (case side1 => repeat (first | exact (Kd.C_below HR0.out HB.out) | (with_reducible refine Kd.C_alloc ?_ _) | (with_reducible refine Kd.C_drewN ?_ _) | (with_reducible refine Kd.C_drew ?_))); (case side2 => exact HC0.out); rintro e w24 ⟨rfl, hb⟩; refine ⟨_, rfl, ?_⟩; have n0_ := Aside0.mk (below_step zq11 hb); clear HB; have HB := n0_; clear n0_; (try clear hb); (try clear hb2); (try clear hk); (try clear hi)) | ((with_reducible refine gate_callee (f := 20) rfl ?_); refine goesL_ (some 30) rfl rfl Tryd.func20 (by kernel_rfl) rfl #[.string a1] rfl zq3 ?_; (with_reducible refine (money_Code.calls a1 t207 _ A8.out).mono ?_); rintro e w25 ⟨rfl, hb⟩; refine ⟨_, rfl, ?_⟩; have n0_ := Aside0.mk (below_step zq11 hb); clear HB; have HB := n0_; clear n0_; (try clear hb); (try clear hb2); (try clear hk); (try clear hi)) | ((with_reducible refine gate_callee (f := 21) rfl ?_); refine goesL_ (some 32) rfl rfl Tryd.func21 (by kernel_rfl) rfl #[.string a1] rfl zq3 ?_; (with_reducible refine (accountingref07_Code.calls kj2 a1 t208 _ A9.out).mono ?_); rintro e w' ⟨rfl, ⟨nd, rfl⟩⟩; refine ⟨_, rfl, ?_⟩) | (go_at_call 22; (with_reducible refine (money_Right.calls kj2 _ _ l0 t209 _ ?side1 ?side2 A11.out).mono ?_); (case side1 => repeat (first | exact (Kd.C_below HR0.out zq11) | (with_reducible refine Kd.C_alloc ?_ _) | (with_reducible refine Kd.C_drewN ?_ _) | (with_reducible refine Kd.C_drew ?_))); (case side2 => exact HC0.out); rintro e w26 ⟨rfl, hb⟩; have n0_ := Aside0.mk (below_step zq11 hb); clear HB; have HB := n0_; clear n0_; (try clear hb); (try clear hb2); (try clear hk); (try clear hi)) | (go_at_call 23; (with_reducible refine (accountingref07_Right.calls kj2 _ _ l0 t210 _ ?side1 ?side2 A12.out).mono ?_); (case side1 => repeat (first | exact (Kd.C_below HR0.out HB.out) | (with_reducible refine Kd.C_alloc ?_ _) | (with_reducible refine Kd.C_drewN ?_ _) | (with_reducible refine Kd.C_drew ?_))); (case side2 => exact HC0.out); rintro e w27 ⟨rfl, hb⟩; have n0_ := Aside0.mk (below_step zq11 hb); clear HB; have HB := n0_; clear n0_; (try clear hb); (try clear hb2); (try clear hk); (try clear hi)))
        go_ret
        exact ⟨zq10, zq11⟩
      ·rw [if_neg c14] at H
       have c14b0 : (t203 == t205) = false := beq_eq_false_iff_ne.mpr c14
       have c14b1 : (t203 != t205) = true := bne_iff_ne.mpr c14
       obtain rfl := Option.some.inj H
       go_wp2_with (first | ((with_reducible refine gate_callee (f := 18) rfl ?_); refine goesL_ (some 20) rfl rfl Tryd.func18 (by kernel_rfl) rfl #[.slice A0 l0.length c0, .string a1] rfl zq3 ?_; (with_reducible refine (money_Digits.calls kj2 _ _ l0 a1 t203 t204 _ ?side1 ?side2 A6.out).mono ?_); (case side1 => repeat (first | exact (Kd.C_below HR0.out HB.out) | (with_reducible refine Kd.C_alloc ?_ _) | (with_reducible refine Kd.C_drewN ?_ _) | (with_reducible refine Kd.C_drew ?_))); (case side2 => exact HC0.out); rintro e w28 ⟨rfl, hb⟩; refine ⟨_, rfl, ?_⟩; have n0_ := Aside0.mk (below_step zq11 hb); clear HB; have HB := n0_; clear n0_; (try clear hb); (try clear hb2); (try clear hk); (try clear hi)) | ((with_reducible refine gate_callee (f := 19) rfl ?_); refine goesL_ (some 26) rfl rfl Tryd.func19 (by kernel_rfl) rfl #[.slice A0 l0.length c0, .string a1] rfl zq3 ?_; (with_reducible refine (accountingref07_Digits.calls kj2 _ _ l0 a1 t205 t206 _ ?side1 ?side2 A7.out).mono ?_); (case side1 => repeat (first | exact (Kd.C_below HR0.out HB.out) | (with_reducible refine Kd.C_alloc ?_ _) | (with_reducible refine Kd.C_drewN ?_ _) | (with_reducible refine Kd.C_drew ?_))); (case side2 => exact HC0.out); rintro e w29 ⟨rfl, hb⟩; refine ⟨_, rfl, ?_⟩; have n0_ := Aside0.mk (below_step zq11 hb); clear HB; have HB := n0_; clear n0_; (try clear hb); (try clear hb2); (try clear hk); (try clear hi)) | ((with_reducible refine gate_callee (f := 20) rfl ?_); refine goesL_ (some 30) rfl rfl Tryd.func20 (by kernel_rfl) rfl #[.string a1] rfl zq3 ?_; (with_reducible refine (money_Code.calls a1 t207 _ A8.out).mono ?_); rintro e w30 ⟨rfl, hb⟩; refine ⟨_, rfl, ?_⟩; have n0_ := Aside0.mk (below_step zq11 hb); clear HB; have HB := n0_; clear n0_; (try clear hb); (try clear hb2); (try clear hk); (try clear hi)) | ((with_reducible refine gate_callee (f := 21) rfl ?_); refine goesL_ (some 32) rfl rfl Tryd.func21 (by kernel_rfl) rfl #[.string a1] rfl zq3 ?_; (with_reducible refine (accountingref07_Code.calls kj2 a1 t208 _ A9.out).mono ?_); rintro e w' ⟨rfl, ⟨nd, rfl⟩⟩; refine ⟨_, rfl, ?_⟩) | (go_at_call 22; (with_reducible refine (money_Right.calls kj2 _ _ l0 t209 _ ?side1 ?side2 A11.out).mono ?_); (case side1 => repeat (first | exact (Kd.C_below HR0.out zq11) | (with_reducible refine Kd.C_alloc ?_ _) | (with_reducible refine Kd.C_drewN ?_ _) | (with_reducible refine Kd.C_drew ?_))); (case side2 => exact HC0.out); rintro e w31 ⟨rfl, hb⟩; have n0_ := Aside0.mk (below_step zq11 hb); clear HB; have HB := n0_; clear n0_; (try clear hb); (try clear hb2); (try clear hk); (try clear hi)) | (go_at_call 23; (with_reducible refine (accountingref07_Right.calls kj2 _ _ l0 t210 _ ?side1 ?side2 A12.out).mono ?_); (case side1 => repeat (first | exact (Kd.C_below HR0.out HB.out) | (with_reducible refine Kd.C_alloc ?_ _) | (with_reducible refine Kd.C_drewN ?_ _) | (with_reducible refine Kd.C_drew ?_))); (case side2 => exact HC0.out); rintro e w32 ⟨rfl, hb⟩; have n0_ := Aside0.mk (below_step zq11 hb); clear HB; have HB := n0_; clear n0_; (try clear hb); (try clear hb2); (try clear hk); (try clear hi)))
       go_ret
       exact ⟨zq10, zq11⟩
     ·rw [if_neg c13] at H
      have c13b0 : (t209 == t210) = false := by simpa using c13
      (try (have c13b1 : decide (t209 = t210) = false := by simpa using c13))
      (try (have c13b2 : (t209 == t210) = false := by simpa using c13))
      (try (have c13b3 : ¬ (t209 = t210) := by simpa using c13))
      clear c13
      obtain rfl := Option.some.inj H
      go_wp2_with (first | ((with_reducible refine gate_callee (f := 18) rfl ?_); refine goesL_ (some 20) rfl rfl Tryd.func18 (by kernel_rfl) rfl #[.slice A0 l0.length c0, .string a1] rfl zq3 ?_; (with_reducible refine (money_Digits.calls kj2 _ _ l0 a1 t203 t204 _ ?side1 ?side2 A6.out).mono ?_); (case side1 => repeat (first | exact (Kd.C_below HR0.out HB.out) | (with_reducible refine Kd.C_alloc ?_ _) | (with_reducible refine Kd.C_drewN ?_ _) | (with_reducible refine Kd.C_drew ?_))); (case side2 => exact HC0.out); rintro e w33 ⟨rfl, hb⟩; refine ⟨_, rfl, ?_⟩; have n0_ := Aside0.mk (below_step zq11 hb); clear HB; have HB := n0_; clear n0_; (try clear hb); (try clear hb2); (try clear hk); (try clear hi)) | ((with_reducible refine gate_callee (f := 19) rfl ?_); refine goesL_ (some 26) rfl rfl Tryd.func19 (by kernel_rfl) rfl #[.slice A0 l0.length c0, .string a1] rfl zq3 ?_; (with_reducible refine (accountingref07_Digits.calls kj2 _ _ l0 a1 t205 t206 _ ?side1 ?side2 A7.out).mono ?_); (case side1 => repeat (first | exact (Kd.C_below HR0.out HB.out) | (with_reducible refine Kd.C_alloc ?_ _) | (with_reducible refine Kd.C_drewN ?_ _) | (with_reducible refine Kd.C_drew ?_))); (case side2 => exact HC0.out); rintro e w34 ⟨rfl, hb⟩; refine ⟨_, rfl, ?_⟩; have n0_ := Aside0.mk (below_step zq11 hb); clear HB; have HB := n0_; clear n0_; (try clear hb); (try clear hb2); (try clear hk); (try clear hi)) | ((with_reducible refine gate_callee (f := 20) rfl ?_); refine goesL_ (some 30) rfl rfl Tryd.func20 (by kernel_rfl) rfl #[.string a1] rfl zq3 ?_; (with_reducible refine (money_Code.calls a1 t207 _ A8.out).mono ?_); rintro e w35 ⟨rfl, hb⟩; refine ⟨_, rfl, ?_⟩; have n0_ := Aside0.mk (below_step zq11 hb); clear HB; have HB := n0_; clear n0_; (try clear hb); (try clear hb2); (try clear hk); (try clear hi)) | ((with_reducible refine gate_callee (f := 21) rfl ?_); refine goesL_ (some 32) rfl rfl Tryd.func21 (by kernel_rfl) rfl #[.string a1] rfl zq3 ?_; (with_reducible refine (accountingref07_Code.calls kj2 a1 t208 _ A9.out).mono ?_); rintro e w' ⟨rfl, ⟨nd, rfl⟩⟩; refine ⟨_, rfl, ?_⟩) | (go_at_call 22; (with_reducible refine (money_Right.calls kj2 _ _ l0 t209 _ ?side1 ?side2 A11.out).mono ?_); (case side1 => repeat (first | exact (Kd.C_below HR0.out zq11) | (with_reducible refine Kd.C_alloc ?_ _) | (with_reducible refine Kd.C_drewN ?_ _) | (with_reducible refine Kd.C_drew ?_))); (case side2 => exact HC0.out); rintro e w36 ⟨rfl, hb⟩; have n0_ := Aside0.mk (below_step zq11 hb); clear HB; have HB := n0_; clear n0_; (try clear hb); (try clear hb2); (try clear hk); (try clear hi)) | (go_at_call 23; (with_reducible refine (accountingref07_Right.calls kj2 _ _ l0 t210 _ ?side1 ?side2 A12.out).mono ?_); (case side1 => repeat (first | exact (Kd.C_below HR0.out HB.out) | (with_reducible refine Kd.C_alloc ?_ _) | (with_reducible refine Kd.C_drewN ?_ _) | (with_reducible refine Kd.C_drew ?_))); (case side2 => exact HC0.out); rintro e w37 ⟨rfl, hb⟩; have n0_ := Aside0.mk (below_step zq11 hb); clear HB; have HB := n0_; clear n0_; (try clear hb); (try clear hb2); (try clear hk); (try clear hi)))
      go_ret
      exact ⟨zq10, zq11⟩
    ·rw [if_neg c10] at H
     have c10b0 : (t207 == t208) = false := by simpa using c10
     (try (have c10b1 : decide (t207 = t208) = false := by simpa using c10))
     (try (have c10b2 : (t207 == t208) = false := by simpa using c10))
     (try (have c10b3 : ¬ (t207 = t208) := by simpa using c10))
     clear c10
     obtain rfl := Option.some.inj H
     go_wp2_with (first | ((with_reducible refine gate_callee (f := 18) rfl ?_); refine goesL_ (some 20) rfl rfl Tryd.func18 (by kernel_rfl) rfl #[.slice A0 l0.length c0, .string a1] rfl zq3 ?_; (with_reducible refine (money_Digits.calls kj2 _ _ l0 a1 t203 t204 _ ?side1 ?side2 A6.out).mono ?_); (case side1 => repeat (first | exact (Kd.C_below HR0.out HB.out) | (with_reducible refine Kd.C_alloc ?_ _) | (with_reducible refine Kd.C_drewN ?_ _) | (with_reducible refine Kd.C_drew ?_))); (case side2 => exact HC0.out); rintro e w38 ⟨rfl, hb⟩; refine ⟨_, rfl, ?_⟩; have n0_ := Aside0.mk (below_step zq11 hb); clear HB; have HB := n0_; clear n0_; (try clear hb); (try clear hb2); (try clear hk); (try clear hi)) | ((with_reducible refine gate_callee (f := 19) rfl ?_); refine goesL_ (some 26) rfl rfl Tryd.func19 (by kernel_rfl) rfl #[.slice A0 l0.length c0, .string a1] rfl zq3 ?_; (with_reducible refine (accountingref07_Digits.calls kj2 _ _ l0 a1 t205 t206 _ ?side1 ?side2 A7.out).mono ?_); (case side1 => repeat (first | exact (Kd.C_below HR0.out HB.out) | (with_reducible refine Kd.C_alloc ?_ _) | (with_reducible refine Kd.C_drewN ?_ _) | (with_reducible refine Kd.C_drew ?_))); (case side2 => exact HC0.out); rintro e w39 ⟨rfl, hb⟩; refine ⟨_, rfl, ?_⟩; have n0_ := Aside0.mk (below_step zq11 hb); clear HB; have HB := n0_; clear n0_; (try clear hb); (try clear hb2); (try clear hk); (try clear hi)) | ((with_reducible refine gate_callee (f := 20) rfl ?_); refine goesL_ (some 30) rfl rfl Tryd.func20 (by kernel_rfl) rfl #[.string a1] rfl zq3 ?_; (with_reducible refine (money_Code.calls a1 t207 _ A8.out).mono ?_); rintro e w40 ⟨rfl, hb⟩; refine ⟨_, rfl, ?_⟩; have n0_ := Aside0.mk (below_step zq11 hb); clear HB; have HB := n0_; clear n0_; (try clear hb); (try clear hb2); (try clear hk); (try clear hi)) | ((with_reducible refine gate_callee (f := 21) rfl ?_); refine goesL_ (some 32) rfl rfl Tryd.func21 (by kernel_rfl) rfl #[.string a1] rfl zq3 ?_; (with_reducible refine (accountingref07_Code.calls kj2 a1 t208 _ A9.out).mono ?_); rintro e w' ⟨rfl, ⟨nd, rfl⟩⟩; refine ⟨_, rfl, ?_⟩))
     go_ret
     exact ⟨zq10, zq11⟩

end Go.Proofs.YthmpapnhomngnaaDoor.A
