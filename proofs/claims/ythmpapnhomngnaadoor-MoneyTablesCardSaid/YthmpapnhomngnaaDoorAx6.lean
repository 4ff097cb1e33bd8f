-- By gen.py, a program of this session's, over the print's forms: not the print's own text.
import Derived.Test.YthmpapnhomngnaaDoorAx0
import Derived.Test.YthmpapnhomngnaaDoorQ
import Derived.Test.YthmpapnhomngnaaDoorAx1
import Derived.Test.YthmpapnhomngnaaDoorAx2
import Derived.Test.YthmpapnhomngnaaDoorAx3
import Derived.Test.YthmpapnhomngnaaDoorAx5
namespace Go.Proofs.YthmpapnhomngnaaDoor.A
open Go.RowKit Go.Proofs.YthmpapnhomngnaaDoor.B Go.Proofs.YthmpapnhomngnaaDoorW.PrintWords Go.Proofs.YthmpapnhomngnaaDoorW.PrintLast Go.Proofs.YthmpapnhomngnaaDoorW.PrintMore
attribute [local go_sem] max2_int min2_int max_two min_two max_three min_three max_four min_four   -- for this text's walks alone
set_option linter.unusedVariables false
set_option linter.unusedSimpArgs false

/-! ### money_Parse: function 16 -/
mutual
def money_Parse.j0 : Nat → ByteArray → Int → ByteArray → Bool → Option (Int × Int)
 | 0, _, _, _, _ => none
 | k + 1, x0, x1, x6, x19 => if x19 = true then (if 1 ≤ (x0.size : Int) then (money_Parse.j1 k (x0.extract 1 x0.size) x1 (⟨#[45]⟩ : ByteArray)) else (none)) else (money_Parse.j1 k x0 x1 x6)
def money_Parse.j1 : Nat → ByteArray → Int → ByteArray → Option (Int × Int)
 | 0, _, _, _ => none
 | k + 1, x0, x1, x6 => (money_split.f x0).bind fun bt111 => (if bt111.2.2 = true then (if (bt111.2.1.size : Int) = x1 then ((money_plain.f k bt111.1).bind fun t114 => (money_Parse.j2 k x6 bt111.1 bt111.2.1 (bt111.1.toList != t114.toList))) else (money_Parse.j2 k x6 bt111.1 bt111.2.1 true)) else (money_Parse.j2 k x6 bt111.1 bt111.2.1 true))
def money_Parse.j2 : Nat → ByteArray → ByteArray → ByteArray → Bool → Option (Int × Int)
 | 0, _, _, _, _ => none
 | k + 1, x6, x7, x8, x41 => if x41 = true then (some (0, 5)) else (if x7.size + x8.size ≤ 9223372036854775807 then ((money_plain.f k (x7 ++ x8)).bind fun t115 => (if x6.size + t115.size ≤ 9223372036854775807 then ((num_Parse.f (x6 ++ t115) (-1000000000000000) 1000000000000000).bind fun bt116 => (if bt116.2 = 3 then (some (0, 4)) else (some (bt116.1, bt116.2)))) else (none))) else (none))
end
def money_Parse.f (k : Nat) (a0 : ByteArray) (a1 : Int) : Option (Int × Int) := (money_fits.f a1).bind fun t110 => (if t110 = true then (if a0.toList = ([] : List UInt8) then (money_Parse.j0 k a0 a1 (⟨#[]⟩ : ByteArray) false) else (if 0 < (a0.size : Int) then (money_Parse.j0 k a0 a1 (⟨#[]⟩ : ByteArray) ((bt a0 0) == 45)) else (none))) else (some (0, 2)))
theorem money_Parse.mono_l : ∀ k, (∀ y0 y1 y2 y3, LeO (money_Parse.j0 k y0 y1 y2 y3) (money_Parse.j0 (k + 1) y0 y1 y2 y3)) ∧ (∀ y0 y1 y2, LeO (money_Parse.j1 k y0 y1 y2) (money_Parse.j1 (k + 1) y0 y1 y2)) ∧ (∀ y0 y1 y2 y3, LeO (money_Parse.j2 k y0 y1 y2 y3) (money_Parse.j2 (k + 1) y0 y1 y2 y3))
 | 0 => ⟨fun _ _ _ _ r h => by simp [money_Parse.j0] at h, fun _ _ _ r h => by simp [money_Parse.j1] at h, fun _ _ _ _ r h => by simp [money_Parse.j2] at h⟩
 | k + 1 => by
  obtain ⟨ih0, ih1, ih2⟩ := money_Parse.mono_l k
  refine ⟨?_, ?_, ?_⟩
  ·intro y0 y1 y2 y3
   unfold money_Parse.j0
   repeat' first
   | (with_reducible exact ih0 _ _ _ _)
   | (with_reducible exact ih1 _ _ _)
   | (with_reducible exact ih2 _ _ _ _)
   | (with_reducible exact money_plain.mono _ _)
   | (with_reducible exact LeO.refl _)
   | (with_reducible exact LeO.none _)
   | (with_reducible refine LeO.ite ?_ ?_)
   | (with_reducible refine LeO.bind ?_ (fun _ => ?_))
   | exact ih0 _ _ _ _
   | exact ih1 _ _ _
   | exact ih2 _ _ _ _
   | exact money_plain.mono _ _
   | exact LeO.none _
   | refine LeO.ite ?_ ?_
   | refine LeO.bind ?_ (fun _ => ?_)
  ·intro y0 y1 y2
   unfold money_Parse.j1
   repeat' first
   | (with_reducible exact ih0 _ _ _ _)
   | (with_reducible exact ih1 _ _ _)
   | (with_reducible exact ih2 _ _ _ _)
   | (with_reducible exact money_plain.mono _ _)
   | (with_reducible exact LeO.refl _)
   | (with_reducible exact LeO.none _)
   | (with_reducible refine LeO.ite ?_ ?_)
   | (with_reducible refine LeO.bind ?_ (fun _ => ?_))
   | exact ih0 _ _ _ _
   | exact ih1 _ _ _
   | exact ih2 _ _ _ _
   | exact money_plain.mono _ _
   | exact LeO.none _
   | refine LeO.ite ?_ ?_
   | refine LeO.bind ?_ (fun _ => ?_)
  ·intro y0 y1 y2 y3
   unfold money_Parse.j2
   repeat' first
   | (with_reducible exact ih0 _ _ _ _)
   | (with_reducible exact ih1 _ _ _)
   | (with_reducible exact ih2 _ _ _ _)
   | (with_reducible exact money_plain.mono _ _)
   | (with_reducible exact LeO.refl _)
   | (with_reducible exact LeO.none _)
   | (with_reducible refine LeO.ite ?_ ?_)
   | (with_reducible refine LeO.bind ?_ (fun _ => ?_))
   | exact ih0 _ _ _ _
   | exact ih1 _ _ _
   | exact ih2 _ _ _ _
   | exact money_plain.mono _ _
   | exact LeO.none _
   | refine LeO.ite ?_ ?_
   | refine LeO.bind ?_ (fun _ => ?_)
theorem money_Parse.mono : ∀ a0 a1 k, LeO (money_Parse.f k a0 a1) (money_Parse.f (k + 1) a0 a1) := by
 intro a0 a1 k
 obtain ⟨ih0, ih1, ih2⟩ := money_Parse.mono_l k
 unfold money_Parse.f
 repeat' first
   | (with_reducible exact ih0 _ _ _ _)
   | (with_reducible exact ih1 _ _ _)
   | (with_reducible exact ih2 _ _ _ _)
   | (with_reducible exact money_plain.mono _ _)
   | (with_reducible exact LeO.refl _)
   | (with_reducible exact LeO.none _)
   | (with_reducible refine LeO.ite ?_ ?_)
   | (with_reducible refine LeO.bind ?_ (fun _ => ?_))
   | exact ih0 _ _ _ _
   | exact ih1 _ _ _
   | exact ih2 _ _ _ _
   | exact money_plain.mono _ _
   | exact LeO.none _
   | refine LeO.ite ?_ ?_
   | refine LeO.bind ?_ (fun _ => ?_)
set_option maxHeartbeats 8000000 in
set_option maxRecDepth 100000 in
theorem money_Parse.calls (k : Nat) (a0 : ByteArray) (a1 : Int) (r1 : Int) (r2 : Int) (w : World) (h : money_Parse.f k a0 a1 = some (r1, r2)) :
  Calls Tryd.prog 16 #[.string a0, .int .i64 a1] w fun e w' => e = .returned (.tuple #[.int .i64 r1, .int .i64 r2]) ∧ Below w.heap.size w w' := by
 have HB := Aside0.mk (Below.refl w.heap.size w)
 have H : ((money_fits.f a1).bind fun t110 => (if t110 = true then (if a0.toList = ([] : List UInt8) then (money_Parse.j0 k a0 a1 (⟨#[]⟩ : ByteArray) false) else (if 0 < (a0.size : Int) then (money_Parse.j0 k a0 a1 (⟨#[]⟩ : ByteArray) ((bt a0 0) == 45)) else (none))) else (some (0, 2)))) = some (r1, r2) := h
 clear h
 replace H := Option.bind_eq_some_iff.mp H
 obtain ⟨t110, A30, H⟩ := H
 replace H : (if t110 = true then (if a0.toList = ([] : List UInt8) then (money_Parse.j0 k a0 a1 (⟨#[]⟩ : ByteArray) false) else (if 0 < (a0.size : Int) then (money_Parse.j0 k a0 a1 (⟨#[]⟩ : ByteArray) ((bt a0 0) == 45)) else (none))) else (some (0, 2))) = some (r1, r2) := H
 have A3 := Aside0.mk A30
 clear A30
 by_cases c4 : t110 = true
 ·subst c4
  have H1 : (if a0.toList = ([] : List UInt8) then (money_Parse.j0 k a0 a1 (⟨#[]⟩ : ByteArray) false) else (if 0 < (a0.size : Int) then (money_Parse.j0 k a0 a1 (⟨#[]⟩ : ByteArray) ((bt a0 0) == 45)) else (none))) = some (r1, r2) := by rw [if_pos rfl] at H; exact H
  clear H
  have H := H1
  clear H1
  have HC5 := Aside0.mk H
  clear H
  go_enter Tryd.func16, Tryd.ntmps16
  go_upto_region 4 with (first | (go_at_call 24; (with_reducible refine (money_fits.calls a1 true _ A3.out).mono ?_); rintro e w' ⟨rfl, ⟨nd, rfl⟩⟩; (try first | exact ⟨rfl, _, World.drewN_drewN _ _ _⟩ | exact ⟨rfl, _, Eq.trans (World.drewN_drewN _ _ _) (congrArg (World.drewN _) (Nat.add_assoc _ _ _))⟩)))
  repeat (go_quiet (first | (go_at_call 24; (with_reducible refine (money_fits.calls a1 true _ A3.out).mono ?_); rintro e w' ⟨rfl, ⟨nd, rfl⟩⟩; (try first | exact ⟨rfl, _, World.drewN_drewN _ _ _⟩ | exact ⟨rfl, _, Eq.trans (World.drewN_drewN _ _ _) (congrArg (World.drewN _) (Nat.add_assoc _ _ _))⟩))); go_upto_region 4 with (first | (go_at_call 24; (with_reducible refine (money_fits.calls a1 true _ A3.out).mono ?_); rintro e w' ⟨rfl, ⟨nd, rfl⟩⟩; (try first | exact ⟨rfl, _, World.drewN_drewN _ _ _⟩ | exact ⟨rfl, _, Eq.trans (World.drewN_drewN _ _ _) (congrArg (World.drewN _) (Nat.add_assoc _ _ _))⟩))))
  (try simp only [Act.put, List.setIfInBounds_toArray, List.set_cons_zero, List.set_cons_succ])
  go_cut [19] (fun v19 wc => ∃ (kq : Nat) (x19_4 : Bool), v19 = .bool x19_4 ∧ Aside0 (money_Parse.j0 kq a0 a1 (⟨#[]⟩ : ByteArray) x19_4 = some (r1, r2)) ∧ Aside0 (kq ≤ k) ∧ Aside0 (Below w.heap.size w wc))
  case first =>
   have H := HC5.out
   clear HC5
   by_cases c6 : a0.toList = ([] : List UInt8)
   ·rw [if_pos c6] at H
    have c6b0 : (a0.toList == ([] : List UInt8)) = true := beq_iff_eq.mpr c6
    have c6b1 : (a0.toList != ([] : List UInt8)) = false := bne_eq_false_iff_eq.mpr c6
    clear c6
    (first | rw [c6b0] | (simp only [i64_w, i32_w]; rw [c6b0]) | skip)
    have H' := Aside0.mk H
    clear H
    go_wp2
    repeat (go_quiet (fail); try go_wp2)
    go_meet
    case rel => exact ⟨_, (false), zq1, H', ⟨by first | omega | exact Nat.le_refl _⟩, ⟨zq11⟩⟩
   ·rw [if_neg c6] at H
    have c6b0 : (a0.toList == ([] : List UInt8)) = false := beq_eq_false_iff_ne.mpr c6
    have c6b1 : (a0.toList != ([] : List UInt8)) = true := bne_iff_ne.mpr c6
    (first | rw [c6b0] | (simp only [i64_w, i32_w]; rw [c6b0]) | skip)
    by_cases c7 : 0 < (a0.size : Int)
    ·rw [if_pos c7] at H
     have c7b0 : decide (0 < (a0.size : Int)) = true := decide_eq_true c7
     have c7b1 : decide (0 < a0.size) = true := decide_eq_true (by omega)
     clear c7
     have H' := Aside0.mk H
     clear H
     have p8 : 0 ≤ (0 : Int) := (by omega)
     have q8 : 0 < a0.size := (by have : (0 : Int) < (a0.size : Int) := of_decide_eq_true zq6; omega)
     have hx8 : ∀ h : 0 < a0.size, ((a0[0]'h).toNat : Int) = bt a0 0 := bt_at a0 0
     clear p8
     have qi8 : (0 < (a0.size : Int)) = True := eq_true (of_decide_eq_true zq6)
     replace q8 := eq_true q8
     go_wp2
     repeat (go_quiet (fail); try go_wp2)
     go_meet
     case rel => exact ⟨_, (((bt a0 0) == 45)), zq1, H', ⟨by first | omega | exact Nat.le_refl _⟩, ⟨zq11⟩⟩
    ·rw [if_neg c7] at H
     exact absurd H (by simp)
  case rest =>
   clear HC5
   try clear c1
   try clear p2
   try clear c4
   try clear c6
   try clear c6b0
   try clear c6b1
   try clear c7
   try clear c7b0
   try clear c7b1
   try clear p8
   try clear q8
   try clear hx8
   try clear qi8
   try clear p8
   try clear q8
   obtain ⟨kq, x19_4, rfl, HA, HJ4, HB⟩ := hcut
   cases kq with
   | zero => exact absurd HA.out (by simp [money_Parse.j0])
   | succ kj4 =>
    have H := HA.out
    clear HA
    simp only [money_Parse.j0] at H
    have HC9 := Aside0.mk H
    clear H
    go_upto_if 19 with (fail)
    repeat (go_quiet (fail); go_upto_if 19 with (fail))
    go_cut [0, 6] (fun v0 v6 wc => ∃ (kq : Nat) (x0_8 : ByteArray) (x6_8 : ByteArray), v0 = .string x0_8 ∧ v6 = .string x6_8 ∧ Aside0 (money_Parse.j1 kq x0_8 a1 x6_8 = some (r1, r2)) ∧ Aside0 (kq ≤ kj4) ∧ Aside0 (Below w.heap.size w wc))
    case first =>
     have H := HC9.out
     clear HC9
     by_cases c10 : x19_4 = true
     ·subst c10
      have H1 : (if 1 ≤ (a0.size : Int) then (money_Parse.j1 kj4 (a0.extract 1 a0.size) a1 (⟨#[45]⟩ : ByteArray)) else (none)) = some (r1, r2) := by rw [if_pos rfl] at H; exact H
      clear H
      have H := H1
      clear H1
      by_cases c11 : 1 ≤ (a0.size : Int)
      ·rw [if_pos c11] at H
       have c11b0 := eq_true c11
       have c11b1 : decide (1 ≤ (a0.size : Int)) = true := decide_eq_true c11
       clear c11
       have H' := Aside0.mk H
       clear H
       go_wp2
       repeat (go_quiet (fail); try go_wp2)
       go_meet
       case rel => exact ⟨_, (a0.extract 1 a0.size), ((⟨#[45]⟩ : ByteArray)), zq1, zq1, H', ⟨zq4⟩, ⟨zq11⟩⟩
      ·rw [if_neg c11] at H
       exact absurd H (by simp)
     ·replace c10 := Bool.eq_false_iff.mpr c10
      subst c10
      have H1 : (money_Parse.j1 kj4 a0 a1 (⟨#[]⟩ : ByteArray)) = some (r1, r2) := by rw [if_neg (show ¬ (false = true) by decide)] at H; exact H
      clear H
      have H := H1
      clear H1
      have H' := Aside0.mk H
      clear H
      go_wp2
      repeat (go_quiet (fail); try go_wp2)
      go_meet
      case rel => exact ⟨_, (a0), ((⟨#[]⟩ : ByteArray)), zq1, zq1, H', ⟨zq4⟩, ⟨zq11⟩⟩
    case rest =>
     clear HC9
     try clear c1
     try clear p2
     try clear c4
     try clear c6
     try clear c6b0
     try clear c6b1
     try clear c7
     try clear c7b0
     try clear c7b1
     try clear p8
     try clear q8
     try clear hx8
     try clear qi8
     try clear c10
     try clear c11
     try clear c11b0
     try clear c11b1
     try clear p2
     try clear p8
     try clear q8
     obtain ⟨kq, x0_8, x6_8, rfl, rfl, HA, HJ8, HB⟩ := hcut
     cases kq with
     | zero => exact absurd HA.out (by simp [money_Parse.j1])
     | succ kj8 =>
      have H := HA.out
      clear HA
      simp only [money_Parse.j1] at H
      replace H := Option.bind_eq_some_iff.mp H
      obtain ⟨⟨t111, t112, t113⟩, A120, H⟩ := H
      replace H : (if t113 = true then (if (t112.size : Int) = a1 then ((money_plain.f kj8 t111).bind fun t114 => (money_Parse.j2 kj8 x6_8 t111 t112 (t111.toList != t114.toList))) else (money_Parse.j2 kj8 x6_8 t111 t112 true)) else (money_Parse.j2 kj8 x6_8 t111 t112 true)) = some (r1, r2) := H
      have A12 := Aside0.mk A120
      clear A120
      have HC13 := Aside0.mk H
      clear H
      go_upto_region 7 with (first | (go_at_call 32; (with_reducible refine (money_split.calls x0_8 t111 t112 t113 _ A12.out).mono ?_); rintro e w14 ⟨rfl, hb⟩; have n0_ := Aside0.mk (below_step zq11 hb); clear HB; have HB := n0_; clear n0_; (try clear hb); (try clear hb2); (try clear hk); (try clear hi)))
      repeat (go_quiet (first | (go_at_call 32; (with_reducible refine (money_split.calls x0_8 t111 t112 t113 _ A12.out).mono ?_); rintro e w14 ⟨rfl, hb⟩; have n0_ := Aside0.mk (below_step zq11 hb); clear HB; have HB := n0_; clear n0_; (try clear hb); (try clear hb2); (try clear hk); (try clear hi))); go_upto_region 7 with (first | (go_at_call 32; (with_reducible refine (money_split.calls x0_8 t111 t112 t113 _ A12.out).mono ?_); rintro e w14 ⟨rfl, hb⟩; have n0_ := Aside0.mk (below_step zq11 hb); clear HB; have HB := n0_; clear n0_; (try clear hb); (try clear hb2); (try clear hk); (try clear hi))))
      (try simp only [Act.put, List.setIfInBounds_toArray, List.set_cons_zero, List.set_cons_succ])
      go_cut [41] (fun v41 wc => ∃ (kq : Nat) (x41_12 : Bool), v41 = .bool x41_12 ∧ Aside0 (money_Parse.j2 kq x6_8 t111 t112 x41_12 = some (r1, r2)) ∧ Aside0 (kq ≤ kj8) ∧ Aside0 (Below w.heap.size w wc))
      case first =>
       have H := HC13.out
       clear HC13
       by_cases c15 : t113 = true
       ·subst c15
        have H1 : (if (t112.size : Int) = a1 then ((money_plain.f kj8 t111).bind fun t114 => (money_Parse.j2 kj8 x6_8 t111 t112 (t111.toList != t114.toList))) else (money_Parse.j2 kj8 x6_8 t111 t112 true)) = some (r1, r2) := by rw [if_pos rfl] at H; exact H
        clear H
        have H := H1
        clear H1
        by_cases c16 : (t112.size : Int) = a1
        ·rw [if_pos c16] at H
         have c16b0 : ((t112.size : Int) == a1) = true := beq_iff_eq.mpr c16
         have c16b1 : ((t112.size : Int) != a1) = false := bne_eq_false_iff_eq.mpr c16
         clear c16
         (first | rw [c16b0] | (simp only [i64_w, i32_w]; rw [c16b0]) | skip)
         replace H := Option.bind_eq_some_iff.mp H
         obtain ⟨t114, A170, H⟩ := H
         replace H : (money_Parse.j2 kj8 x6_8 t111 t112 (t111.toList != t114.toList)) = some (r1, r2) := H
         have A17 := Aside0.mk A170
         clear A170
         have H' := Aside0.mk H
         clear H
         go_wp2_with (first | (go_at_call 33; (with_reducible refine (money_plain.calls kj8 t111 t114 _ A17.out).mono ?_); rintro e w' ⟨rfl, ⟨nd, rfl⟩⟩; (try first | exact ⟨rfl, _, World.drewN_drewN _ _ _⟩ | exact ⟨rfl, _, Eq.trans (World.drewN_drewN _ _ _) (congrArg (World.drewN _) (Nat.add_assoc _ _ _))⟩)))
         repeat (go_quiet (first | (go_at_call 33; (with_reducible refine (money_plain.calls kj8 t111 t114 _ A17.out).mono ?_); rintro e w' ⟨rfl, ⟨nd, rfl⟩⟩; (try first | exact ⟨rfl, _, World.drewN_drewN _ _ _⟩ | exact ⟨rfl, _, Eq.trans (World.drewN_drewN _ _ _) (congrArg (World.drewN _) (Nat.add_assoc _ _ _))⟩))); try go_wp2_with (first | (go_at_call 33; (with_reducible refine (money_plain.calls kj8 t111 t114 _ A17.out).mono ?_); rintro e w' ⟨rfl, ⟨nd, rfl⟩⟩; (try first | exact ⟨rfl, _, World.drewN_drewN _ _ _⟩ | exact ⟨rfl, _, Eq.trans (World.drewN_drewN _ _ _) (congrArg (World.drewN _) (Nat.add_assoc _ _ _))⟩))))
         go_meet
         case rel => exact ⟨_, ((t111.toList != t114.toList)), zq1, H', ⟨zq17⟩, ⟨zq11⟩⟩
        ·rw [if_neg c16] at H
         have c16b0 : ((t112.size : Int) == a1) = false := beq_eq_false_iff_ne.mpr c16
         have c16b1 : ((t112.size : Int) != a1) = true := bne_iff_ne.mpr c16
         (first | rw [c16b0] | (simp only [i64_w, i32_w]; rw [c16b0]) | skip)
         have H' := Aside0.mk H
         clear H
         go_wp2
         repeat (go_quiet (fail); try go_wp2)
         go_meet
         case rel => exact ⟨_, (true), zq1, H', ⟨zq17⟩, ⟨zq11⟩⟩
       ·replace c15 := Bool.eq_false_iff.mpr c15
        subst c15
        have H1 : (money_Parse.j2 kj8 x6_8 t111 t112 true) = some (r1, r2) := by rw [if_neg (show ¬ (false = true) by decide)] at H; exact H
        clear H
        have H := H1
        clear H1
        have H' := Aside0.mk H
        clear H
        go_wp2
        repeat (go_quiet (fail); try go_wp2)
        go_meet
        case rel => exact ⟨_, (true), zq1, H', ⟨zq17⟩, ⟨zq11⟩⟩
      case rest =>
       clear HC13
       try clear c1
       try clear p2
       try clear c4
       try clear c6
       try clear c6b0
       try clear c6b1
       try clear c7
       try clear c7b0
       try clear c7b1
       try clear p8
       try clear q8
       try clear hx8
       try clear qi8
       try clear c10
       try clear c11
       try clear c11b0
       try clear c11b1
       try clear c15
       try clear c16
       try clear c16b0
       try clear c16b1
       try clear p2
       try clear p8
       try clear q8
       obtain ⟨kq, x41_12, rfl, HA, HJ12, HB⟩ := hcut
       cases kq with
       | zero => exact absurd HA.out (by simp [money_Parse.j2])
       | succ kj12 =>
        have H := HA.out
        clear HA
        simp only [money_Parse.j2] at H
        by_cases c18 : x41_12 = true
        ·subst c18
         have H1 : (some (0, 5)) = some (r1, r2) := by rw [if_pos rfl] at H; exact H
         clear H
         have H := H1
         clear H1
         simp only [Option.some.injEq, Prod.mk.injEq] at H
         obtain ⟨rfl, rfl⟩ := H
         go_wp2
         repeat (go_quiet (fail); try go_wp2)
         go_ret2
         exact ⟨zq10, zq11⟩
        ·replace c18 := Bool.eq_false_iff.mpr c18
         subst c18
         have H1 : (if t111.size + t112.size ≤ 9223372036854775807 then ((money_plain.f kj12 (t111 ++ t112)).bind fun t115 => (if x6_8.size + t115.size ≤ 9223372036854775807 then ((num_Parse.f (x6_8 ++ t115) (-1000000000000000) 1000000000000000).bind fun bt116 => (if bt116.2 = 3 then (some (0, 4)) else (some (bt116.1, bt116.2)))) else (none))) else (none)) = some (r1, r2) := by rw [if_neg (show ¬ (false = true) by decide)] at H; exact H
         clear H
         have H := H1
         clear H1
         by_cases c19 : t111.size + t112.size ≤ 9223372036854775807
         ·rw [if_pos c19] at H
          have c19b0 := eq_true c19
          have c19b1 : decide (t111.size + t112.size ≤ 9223372036854775807) = true := decide_eq_true c19
          try have c19b2 : (9223372036854775807 < t111.size + t112.size) = False := eq_false (Nat.not_lt.2 c19)
          replace H := Option.bind_eq_some_iff.mp H
          obtain ⟨t115, A200, H⟩ := H
          replace H : (if x6_8.size + t115.size ≤ 9223372036854775807 then ((num_Parse.f (x6_8 ++ t115) (-1000000000000000) 1000000000000000).bind fun bt116 => (if bt116.2 = 3 then (some (0, 4)) else (some (bt116.1, bt116.2)))) else (none)) = some (r1, r2) := H
          have A20 := Aside0.mk A200
          clear A200
          by_cases c21 : x6_8.size + t115.size ≤ 9223372036854775807
          ·rw [if_pos c21] at H
           have c21b0 := eq_true c21
           have c21b1 : decide (x6_8.size + t115.size ≤ 9223372036854775807) = true := decide_eq_true c21
           try have c21b2 : (9223372036854775807 < x6_8.size + t115.size) = False := eq_false (Nat.not_lt.2 c21)
           replace H := Option.bind_eq_some_iff.mp H
           obtain ⟨⟨t116, t117⟩, A220, H⟩ := H
           replace H : (if t117 = 3 then (some (0, 4)) else (some (t116, t117))) = some (r1, r2) := H
           have A22 := Aside0.mk A220
           clear A220
           by_cases c23 : t117 = 3
           ·rw [if_pos c23] at H
            have c23b0 : (t117 == 3) = true := beq_iff_eq.mpr c23
            have c23b1 : (t117 != 3) = false := bne_eq_false_iff_eq.mpr c23
            clear c23
            simp only [Option.some.injEq, Prod.mk.injEq] at H
            obtain ⟨rfl, rfl⟩ := H
            go_wp2_with (first | (go_at_call 33; (with_reducible refine (money_plain.calls kj12 (t111 ++ t112) t115 _ A20.out).mono ?_); rintro e w' ⟨rfl, ⟨nd, rfl⟩⟩; (try first | exact ⟨rfl, _, World.drewN_drewN _ _ _⟩ | exact ⟨rfl, _, Eq.trans (World.drewN_drewN _ _ _) (congrArg (World.drewN _) (Nat.add_assoc _ _ _))⟩)) | (go_at_call 34; (with_reducible refine (num_Parse.calls (x6_8 ++ t115) (-1000000000000000) 1000000000000000 t116 t117 _ A22.out).mono ?_); rintro e w' ⟨rfl, ⟨nd, rfl⟩⟩; (try first | exact ⟨rfl, _, World.drewN_drewN _ _ _⟩ | exact ⟨rfl, _, Eq.trans (World.drewN_drewN _ _ _) (congrArg (World.drewN _) (Nat.add_assoc _ _ _))⟩)))
            repeat (go_quiet (first | (go_at_call 33; (with_reducible refine (money_plain.calls kj12 (t111 ++ t112) t115 _ A20.out).mono ?_); rintro e w' ⟨rfl, ⟨nd, rfl⟩⟩; (try first | exact ⟨rfl, _, World.drewN_drewN _ _ _⟩ | exact ⟨rfl, _, Eq.trans (World.drewN_drewN _ _ _) (congrArg (World.drewN _) (Nat.add_assoc _ _ _))⟩)) | (go_at_call 34; (with_reducible refine (num_Parse.calls (x6_8 ++ t115) (-1000000000000000) 1000000000000000 t116 t117 _ A22.out).mono ?_); rintro e w' ⟨rfl, ⟨nd, rfl⟩⟩; (try first | exact ⟨rfl, _, World.drewN_drewN _ _ _⟩ | exact ⟨rfl, _, Eq.trans (World.drewN_drewN _ _ _) (congrArg (World.drewN _) (Nat.add_assoc _ _ _))⟩))); try go_wp2_with (first | (go_at_call 33; (with_reducible refine (money_plain.calls kj12 (t111 ++ t112) t115 _ A20.out).mono ?_); rintro e w' ⟨rfl, ⟨nd, rfl⟩⟩; (try first | exact ⟨rfl, _, World.drewN_drewN _ _ _⟩ | exact ⟨rfl, _, Eq.trans (World.drewN_drewN _ _ _) (congrArg (World.drewN _) (Nat.add_assoc _ _ _))⟩)) | (go_at_call 34; (with_reducible refine (num_Parse.calls (x6_8 ++ t115) (-1000000000000000) 1000000000000000 t116 t117 _ A22.out).mono ?_); rintro e w' ⟨rfl, ⟨nd, rfl⟩⟩; (try first | exact ⟨rfl, _, World.drewN_drewN _ _ _⟩ | exact ⟨rfl, _, Eq.trans (World.drewN_drewN _ _ _) (congrArg (World.drewN _) (Nat.add_assoc _ _ _))⟩))))
            go_ret2
            exact ⟨zq10, zq11⟩
           ·rw [if_neg c23] at H
            have c23b0 : (t117 == 3) = false := beq_eq_false_iff_ne.mpr c23
            have c23b1 : (t117 != 3) = true := bne_iff_ne.mpr c23
            simp only [Option.some.injEq, Prod.mk.injEq] at H
            obtain ⟨rfl, rfl⟩ := H
            go_wp2_with (first | (go_at_call 33; (with_reducible refine (money_plain.calls kj12 (t111 ++ t112) t115 _ A20.out).mono ?_); rintro e w' ⟨rfl, ⟨nd, rfl⟩⟩; (try first | exact ⟨rfl, _, World.drewN_drewN _ _ _⟩ | exact ⟨rfl, _, Eq.trans (World.drewN_drewN _ _ _) (congrArg (World.drewN _) (Nat.add_assoc _ _ _))⟩)) | (go_at_call 34; (with_reducible refine (num_Parse.calls (x6_8 ++ t115) (-1000000000000000) 1000000000000000 t116 t117 _ A22.out).mono ?_); rintro e w' ⟨rfl, ⟨nd, rfl⟩⟩; (try first | exact ⟨rfl, _, World.drewN_drewN _ _ _⟩ | exact ⟨rfl, _, Eq.trans (World.drewN_drewN _ _ _) (congrArg (World.drewN _) (Nat.add_assoc _ _ _))⟩)))
            repeat (go_quiet (first | (go_at_call 33; (with_reducible refine (money_plain.calls kj12 (t111 ++ t112) t115 _ A20.out).mono ?_); rintro e w' ⟨rfl, ⟨nd, rfl⟩⟩; (try first | exact ⟨rfl, _, World.drewN_drewN _ _ _⟩ | exact ⟨rfl, _, Eq.trans (World.drewN_drewN _ _ _) (congrArg (World.drewN _) (Nat.add_assoc _ _ _))⟩)) | (go_at_call 34; (with_reducible refine (num_Parse.calls (x6_8 ++ t115) (-1000000000000000) 1000000000000000 t116 t117 _ A22.out).mono ?_); rintro e w' ⟨rfl, ⟨nd, rfl⟩⟩; (try first | exact ⟨rfl, _, World.drewN_drewN _ _ _⟩ | exact ⟨rfl, _, Eq.trans (World.drewN_drewN _ _ _) (congrArg (World.drewN _) (Nat.add_assoc _ _ _))⟩))); try go_wp2_with (first | (go_at_call 33; (with_reducible refine (money_plain.calls kj12 (t111 ++ t112) t115 _ A20.out).mono ?_); rintro e w' ⟨rfl, ⟨nd, rfl⟩⟩; (try first | exact ⟨rfl, _, World.drewN_drewN _ _ _⟩ | exact ⟨rfl, _, Eq.trans (World.drewN_drewN _ _ _) (congrArg (World.drewN _) (Nat.add_assoc _ _ _))⟩)) | (go_at_call 34; (with_reducible refine (num_Parse.calls (x6_8 ++ t115) (-1000000000000000) 1000000000000000 t116 t117 _ A22.out).mono ?_); rintro e w' ⟨rfl, ⟨nd, rfl⟩⟩; (try first | exact ⟨rfl, _, World.drewN_drewN _ _ _⟩ | exact ⟨rfl, _, Eq.trans (World.drewN_drewN _ _ _) (congrArg (World.drewN _) (Nat.add_assoc _ _ _))⟩))))
            go_ret2
            exact ⟨zq10, zq11⟩
          ·rw [if_neg c21] at H
           exact absurd H (by simp)
         ·rw [if_neg c19] at H
          exact absurd H (by simp)
 ·replace c4 := Bool.eq_false_iff.mpr c4
  subst c4
  have H1 : (some (0, 2)) = some (r1, r2) := by rw [if_neg (show ¬ (false = true) by decide)] at H; exact H
  clear H
  have H := H1
  clear H1
  simp only [Option.some.injEq, Prod.mk.injEq] at H
  obtain ⟨rfl, rfl⟩ := H
  go_enter Tryd.func16, Tryd.ntmps16
  go_wp2_with (first | (go_at_call 24; (with_reducible refine (money_fits.calls a1 false _ A3.out).mono ?_); rintro e w' ⟨rfl, ⟨nd, rfl⟩⟩; (try first | exact ⟨rfl, _, World.drewN_drewN _ _ _⟩ | exact ⟨rfl, _, Eq.trans (World.drewN_drewN _ _ _) (congrArg (World.drewN _) (Nat.add_assoc _ _ _))⟩)))
  repeat (go_quiet (first | (go_at_call 24; (with_reducible refine (money_fits.calls a1 false _ A3.out).mono ?_); rintro e w' ⟨rfl, ⟨nd, rfl⟩⟩; (try first | exact ⟨rfl, _, World.drewN_drewN _ _ _⟩ | exact ⟨rfl, _, Eq.trans (World.drewN_drewN _ _ _) (congrArg (World.drewN _) (Nat.add_assoc _ _ _))⟩))); try go_wp2_with (first | (go_at_call 24; (with_reducible refine (money_fits.calls a1 false _ A3.out).mono ?_); rintro e w' ⟨rfl, ⟨nd, rfl⟩⟩; (try first | exact ⟨rfl, _, World.drewN_drewN _ _ _⟩ | exact ⟨rfl, _, Eq.trans (World.drewN_drewN _ _ _) (congrArg (World.drewN _) (Nat.add_assoc _ _ _))⟩))))
  go_ret2
  exact ⟨zq10, zq11⟩

/-! ### money_Code: function 20 (by hand) -/
set_option maxHeartbeats 1600000 in
theorem code_any (s : ByteArray) (hs : s.size ≤ 140737488351232) (w : World) : Calls Tryd.prog 20 #[.string s] w fun e w' => e = .returned (.bool (codeL s.data.toList)) ∧ Below w.heap.size w w' := by
 have HSZ := Aside0.mk (size_eq' s)
 generalize hP : (fun e w' => e = Ending.returned (.bool (codeL s.data.toList)) ∧ Below w.heap.size w w') = Post
 have HP := Aside0.mk hP
 clear hP
 go_enter Tryd.func20, Tryd.ntmps20
 go_wp2_with fail
 go_loopw [3] (fun n_ wr => ∃ (p : Nat), p ≤ s.size ∧ n_ = .int .i64 (p : Int) ∧ wr = w.iter s p ∧ Aside0 (∀ j, (h : j < p) → (h' : j < s.size) → isUp s[j] = true)) (fun n_ _ => (s.size - (RowKit.intOf n_).toNat))
 case atStart => exact ⟨0, by omega, rfl, rfl, ⟨fun j h => by omega⟩⟩
 case round =>
  obtain ⟨p, hp, rfl, rfl, HU⟩ := hrel
  by_cases hlt : p < s.size
  ·by_cases hup : isUp s[p] = true
   ·obtain ⟨u1, u2⟩ := (isUp_iff _).mp hup
    have hnx := fun ty => run_next_ascii (P := Tryd.prog) w s p ty hlt (by omega)
    have HU2 := Aside0.mk (show ∀ j, (h : j < p + 1) → (h' : j < s.size) → isUp s[j] = true from fun j h h' => by
     rcases Nat.lt_or_ge j p with h1 | h1
     ·exact HU.out j h1 h'
     ·obtain rfl : j = p := by omega
      exact hup)
    clear hup HU
    generalize (s[p].toNat : Int) = c at *
    go_wp2_with fail
    go_roundw
    case rel => exact ⟨p + 1, by omega, by go_num, rfl, HU2⟩
    case measure => simp [RowKit.intOf]; omega
   ·have hbad := codeL_bad (l := s.data.toList) (i := p) (by rw [← HSZ.out]; exact hlt) (by rw [list_at s p hlt]; exact Bool.eq_false_iff.mpr hup)
    have HB := Aside0.mk hbad
    clear hbad
    have hu : (s[p].toNat : Int) < 65 ∨ ¬ (s[p].toNat : Int) < 65 ∧ 90 < (s[p].toNat : Int) := by
     have h := isUp_iff s[p]
     rcases Int.lt_or_le (s[p].toNat : Int) 65 with h1 | h1
     ·exact .inl h1
     ·exact .inr ⟨by omega, by
       rcases Int.lt_or_le 90 (s[p].toNat : Int) with h2 | h2
       ·exact h2
       ·exact absurd (h.mpr ⟨h1, h2⟩) hup⟩
    by_cases hasc : (s[p].toNat : Int) < 128
    ·have hnx := fun ty => run_next_ascii (P := Tryd.prog) w s p ty hlt (by omega)
     generalize (s[p].toNat : Int) = c at *
     rcases hu with h1 | ⟨h1, h2⟩
     all_goals
      go_wp2_with fail
      rw [← HP.out]
      exact ⟨by rw [HB.out]; (try rfl), (Below.refl _ _).alloc (Nat.le_refl _) _⟩
    ·obtain ⟨c, width, hd, hc⟩ := decode_over s p hlt (by omega)
     have hnx := fun ty => run_next_over (P := Tryd.prog) w s p ty hlt hd
     have h1 : ¬ (c : Int) < 65 := by omega
     have h2 : 90 < (c : Int) := by omega
     clear hd hu hasc hup hc
     go_wp2_with fail
     rw [← HP.out]
     exact ⟨by rw [HB.out]; (try rfl), (Below.refl _ _).alloc (Nat.le_refl _) _⟩
  ·obtain rfl : p = s.size := by omega
   have hnx := fun ty => run_next_end (P := Tryd.prog) w s s.size ty hlt
   have hall : s.data.toList.all isUp = true := by
    rw [List.all_eq_true]
    intro x hx
    obtain ⟨j, hj, rfl⟩ := List.getElem_of_mem hx
    have hj2 : j < s.size := by rw [HSZ.out]; exact hj
    rw [list_at s j hj2]
    exact HU.out j hj2 hj2
   have hfin : codeL s.data.toList = ((s.size : Int) == 3) := by
    unfold codeL
    rw [hall, Bool.true_and, ← HSZ.out, Bool.eq_iff_iff, decide_eq_true_iff, beq_iff_eq]; omega
   have HF := Aside0.mk hfin
   clear hall hfin
   go_wp2_with fail
   rw [← HP.out]
   exact ⟨by rw [HF.out]; (try rfl), (Below.refl _ _).alloc (Nat.le_refl _) _⟩

def money_Code.f (a0 : ByteArray) : Option (Bool) := if a0.size ≤ 140737488351232 then some (codeL a0.data.toList) else none
theorem money_Code.calls (a0 : ByteArray) (r : Bool) (w : World) (h : money_Code.f a0 = some r) :
  Calls Tryd.prog 20 #[.string a0] w fun e w' => e = .returned (.bool r) ∧ Below w.heap.size w w' := by
 unfold money_Code.f at h
 split at h
 ·rename_i hs
  obtain rfl := Option.some.inj h
  exact code_any a0 hs w
 ·cases h

/-! ### accountinglaw07_lives: function 12 -/
def accountinglaw07_lives.f (k : Nat)  : Option (Bool) := (money_Text.f (-5) 2).bind fun bt118 => ((money_Parse.f k (⟨#[49, 50, 51, 52, 46, 53, 48]⟩ : ByteArray) 2).bind fun bt120 => ((money_Scale.f (-125) 2 1 4).bind fun bt122 => ((money_Parse.f k (⟨#[45, 48, 46, 48, 48]⟩ : ByteArray) 2).bind fun bt124 => (if bt118.1.toList = ([45, 48, 46, 48, 53] : List UInt8) then (if bt118.2 = 0 then (if bt120.1 = 123450 then (if bt120.2 = 0 then (if bt122.1 = (-12) then (if bt122.2 = 0 then (if bt124.2 = 5 then ((money_Code.f (⟨#[69, 85, 82]⟩ : ByteArray)).bind fun t126 => (if t126 = true then ((money_Code.f (⟨#[69, 85, 49]⟩ : ByteArray)).bind fun t127 => (some (!t127))) else (some false))) else (some false)) else (some false)) else (some false)) else (some false)) else (some false)) else (some false)) else (some false)))))
theorem accountinglaw07_lives.mono : ∀ k, LeO (accountinglaw07_lives.f k ) (accountinglaw07_lives.f (k + 1) ) := by
 intro  k
 unfold accountinglaw07_lives.f
 repeat' first
   | (with_reducible exact money_Parse.mono _ _ _)
   | (with_reducible exact LeO.refl _)
   | (with_reducible exact LeO.none _)
   | (with_reducible refine LeO.ite ?_ ?_)
   | (with_reducible refine LeO.bind ?_ (fun _ => ?_))
   | exact money_Parse.mono _ _ _
   | exact LeO.none _
   | refine LeO.ite ?_ ?_
   | refine LeO.bind ?_ (fun _ => ?_)
set_option maxHeartbeats 8000000 in
set_option maxRecDepth 100000 in
theorem accountinglaw07_lives.calls (k : Nat)  (r : Bool) (w : World) (h : accountinglaw07_lives.f k  = some r) (hG : Gl w) :
  Calls Tryd.prog 12 #[] w fun e w' => e = .returned (.bool r) ∧ Below w.heap.size w w' := by
 have HG := Aside0.mk hG
 clear hG
 have HB := Aside0.mk (Below.refl w.heap.size w)
 have H : ((money_Text.f (-5) 2).bind fun bt118 => ((money_Parse.f k (⟨#[49, 50, 51, 52, 46, 53, 48]⟩ : ByteArray) 2).bind fun bt120 => ((money_Scale.f (-125) 2 1 4).bind fun bt122 => ((money_Parse.f k (⟨#[45, 48, 46, 48, 48]⟩ : ByteArray) 2).bind fun bt124 => (if bt118.1.toList = ([45, 48, 46, 48, 53] : List UInt8) then (if bt118.2 = 0 then (if bt120.1 = 123450 then (if bt120.2 = 0 then (if bt122.1 = (-12) then (if bt122.2 = 0 then (if bt124.2 = 5 then ((money_Code.f (⟨#[69, 85, 82]⟩ : ByteArray)).bind fun t126 => (if t126 = true then ((money_Code.f (⟨#[69, 85, 49]⟩ : ByteArray)).bind fun t127 => (some (!t127))) else (some false))) else (some false)) else (some false)) else (some false)) else (some false)) else (some false)) else (some false)) else (some false)))))) = some r := h
 clear h
 replace H := Option.bind_eq_some_iff.mp H
 obtain ⟨⟨t118, t119⟩, A10, H⟩ := H
 replace H : ((money_Parse.f k (⟨#[49, 50, 51, 52, 46, 53, 48]⟩ : ByteArray) 2).bind fun bt120 => ((money_Scale.f (-125) 2 1 4).bind fun bt122 => ((money_Parse.f k (⟨#[45, 48, 46, 48, 48]⟩ : ByteArray) 2).bind fun bt124 => (if t118.toList = ([45, 48, 46, 48, 53] : List UInt8) then (if t119 = 0 then (if bt120.1 = 123450 then (if bt120.2 = 0 then (if bt122.1 = (-12) then (if bt122.2 = 0 then (if bt124.2 = 5 then ((money_Code.f (⟨#[69, 85, 82]⟩ : ByteArray)).bind fun t126 => (if t126 = true then ((money_Code.f (⟨#[69, 85, 49]⟩ : ByteArray)).bind fun t127 => (some (!t127))) else (some false))) else (some false)) else (some false)) else (some false)) else (some false)) else (some false)) else (some false)) else (some false))))) = some r := H
 have A1 := Aside0.mk A10
 clear A10
 replace H := Option.bind_eq_some_iff.mp H
 obtain ⟨⟨t120, t121⟩, A20, H⟩ := H
 replace H : ((money_Scale.f (-125) 2 1 4).bind fun bt122 => ((money_Parse.f k (⟨#[45, 48, 46, 48, 48]⟩ : ByteArray) 2).bind fun bt124 => (if t118.toList = ([45, 48, 46, 48, 53] : List UInt8) then (if t119 = 0 then (if t120 = 123450 then (if t121 = 0 then (if bt122.1 = (-12) then (if bt122.2 = 0 then (if bt124.2 = 5 then ((money_Code.f (⟨#[69, 85, 82]⟩ : ByteArray)).bind fun t126 => (if t126 = true then ((money_Code.f (⟨#[69, 85, 49]⟩ : ByteArray)).bind fun t127 => (some (!t127))) else (some false))) else (some false)) else (some false)) else (some false)) else (some false)) else (some false)) else (some false)) else (some false)))) = some r := H
 have A2 := Aside0.mk A20
 clear A20
 replace H := Option.bind_eq_some_iff.mp H
 obtain ⟨⟨t122, t123⟩, A30, H⟩ := H
 replace H : ((money_Parse.f k (⟨#[45, 48, 46, 48, 48]⟩ : ByteArray) 2).bind fun bt124 => (if t118.toList = ([45, 48, 46, 48, 53] : List UInt8) then (if t119 = 0 then (if t120 = 123450 then (if t121 = 0 then (if t122 = (-12) then (if t123 = 0 then (if bt124.2 = 5 then ((money_Code.f (⟨#[69, 85, 82]⟩ : ByteArray)).bind fun t126 => (if t126 = true then ((money_Code.f (⟨#[69, 85, 49]⟩ : ByteArray)).bind fun t127 => (some (!t127))) else (some false))) else (some false)) else (some false)) else (some false)) else (some false)) else (some false)) else (some false)) else (some false))) = some r := H
 have A3 := Aside0.mk A30
 clear A30
 replace H := Option.bind_eq_some_iff.mp H
 obtain ⟨⟨t124, t125⟩, A40, H⟩ := H
 replace H : (if t118.toList = ([45, 48, 46, 48, 53] : List UInt8) then (if t119 = 0 then (if t120 = 123450 then (if t121 = 0 then (if t122 = (-12) then (if t123 = 0 then (if t125 = 5 then ((money_Code.f (⟨#[69, 85, 82]⟩ : ByteArray)).bind fun t126 => (if t126 = true then ((money_Code.f (⟨#[69, 85, 49]⟩ : ByteArray)).bind fun t127 => (some (!t127))) else (some false))) else (some false)) else (some false)) else (some false)) else (some false)) else (some false)) else (some false)) else (some false)) = some r := H
 have A4 := Aside0.mk A40
 clear A40
 by_cases c5 : t118.toList = ([45, 48, 46, 48, 53] : List UInt8)
 ·rw [if_pos c5] at H
  have c5b0 : (t118.toList == ([45, 48, 46, 48, 53] : List UInt8)) = true := beq_iff_eq.mpr c5
  have c5b1 : (t118.toList != ([45, 48, 46, 48, 53] : List UInt8)) = false := bne_eq_false_iff_eq.mpr c5
  clear c5
  by_cases c6 : t119 = 0
  ·rw [if_pos c6] at H
   have c6b0 : (t119 == 0) = true := beq_iff_eq.mpr c6
   have c6b1 : (t119 != 0) = false := bne_eq_false_iff_eq.mpr c6
   clear c6
   by_cases c7 : t120 = 123450
   ·rw [if_pos c7] at H
    have c7b0 : (t120 == 123450) = true := beq_iff_eq.mpr c7
    have c7b1 : (t120 != 123450) = false := bne_eq_false_iff_eq.mpr c7
    clear c7
    by_cases c8 : t121 = 0
    ·rw [if_pos c8] at H
     have c8b0 : (t121 == 0) = true := beq_iff_eq.mpr c8
     have c8b1 : (t121 != 0) = false := bne_eq_false_iff_eq.mpr c8
     clear c8
     by_cases c9 : t122 = (-12)
     ·rw [if_pos c9] at H
      have c9b0 : (t122 == (-12)) = true := beq_iff_eq.mpr c9
      have c9b1 : (t122 != (-12)) = false := bne_eq_false_iff_eq.mpr c9
      clear c9
      by_cases c10 : t123 = 0
      ·rw [if_pos c10] at H
       have c10b0 : (t123 == 0) = true := beq_iff_eq.mpr c10
       have c10b1 : (t123 != 0) = false := bne_eq_false_iff_eq.mpr c10
       clear c10
       by_cases c11 : t125 = 5
       ·rw [if_pos c11] at H
        have c11b0 : (t125 == 5) = true := beq_iff_eq.mpr c11
        have c11b1 : (t125 != 5) = false := bne_eq_false_iff_eq.mpr c11
        clear c11
        replace H := Option.bind_eq_some_iff.mp H
        obtain ⟨t126, A120, H⟩ := H
        replace H : (if t126 = true then ((money_Code.f (⟨#[69, 85, 49]⟩ : ByteArray)).bind fun t127 => (some (!t127))) else (some false)) = some r := H
        have A12 := Aside0.mk A120
        clear A120
        by_cases c13 : t126 = true
        ·subst c13
         have H1 : ((money_Code.f (⟨#[69, 85, 49]⟩ : ByteArray)).bind fun t127 => (some (!t127))) = some r := by rw [if_pos rfl] at H; exact H
         clear H
         have H := H1
         clear H1
         replace H := Option.bind_eq_some_iff.mp H
         obtain ⟨t127, A140, H⟩ := H
         replace H : (some (!t127)) = some r := H
         have A14 := Aside0.mk A140
         clear A140
         obtain rfl := Option.some.inj H
         go_enter Tryd.func12, Tryd.ntmps12
         go_wp2_with (first | ((with_reducible refine gate_callee (f := 14) rfl ?_); refine goesL_ (some 10) rfl rfl Tryd.func14 (by kernel_rfl) rfl #[.int .i64 (-5), .int .i64 2] rfl zq3 ?_; (with_reducible refine (money_Text.calls (-5) 2 t118 t119 _ A1.out (gl_below HG.out zq12)).mono ?_); rintro e w15 ⟨rfl, hb⟩; refine ⟨_, rfl, ?_⟩; have n0_ := Aside0.mk (below_step zq11 hb); clear HB; have HB := n0_; clear n0_; (try clear hb); (try clear hb2); (try clear hk); (try clear hi)) | ((with_reducible refine gate_callee (f := 16) rfl ?_); refine goesL_ (some 14) rfl rfl Tryd.func16 (by kernel_rfl) rfl #[.string (⟨#[49, 50, 51, 52, 46, 53, 48]⟩ : ByteArray), .int .i64 2] rfl zq3 ?_; (with_reducible refine (money_Parse.calls k (⟨#[49, 50, 51, 52, 46, 53, 48]⟩ : ByteArray) 2 t120 t121 _ A2.out).mono ?_); rintro e w16 ⟨rfl, hb⟩; refine ⟨_, rfl, ?_⟩; have n0_ := Aside0.mk (below_step zq11 hb); clear HB; have HB := n0_; clear n0_; (try clear hb); (try clear hb2); (try clear hk); (try clear hi)) | ((with_reducible refine gate_callee (f := 10) rfl ?_); refine goesL_ (some 18) rfl rfl Tryd.func10 (by kernel_rfl) rfl #[.int .i64 (-125), .int .i64 2, .int .i64 1, .int .i64 4] rfl zq3 ?_; (with_reducible refine (money_Scale.calls (-125) 2 1 4 t122 t123 _ A3.out (gl_below HG.out zq12)).mono ?_); rintro e w17 ⟨rfl, hb⟩; refine ⟨_, rfl, ?_⟩; have n0_ := Aside0.mk (below_step zq11 hb); clear HB; have HB := n0_; clear n0_; (try clear hb); (try clear hb2); (try clear hk); (try clear hi)) | ((with_reducible refine gate_callee (f := 16) rfl ?_); refine goesL_ (some 22) rfl rfl Tryd.func16 (by kernel_rfl) rfl #[.string (⟨#[45, 48, 46, 48, 48]⟩ : ByteArray), .int .i64 2] rfl zq3 ?_; (with_reducible refine (money_Parse.calls k (⟨#[45, 48, 46, 48, 48]⟩ : ByteArray) 2 t124 t125 _ A4.out).mono ?_); rintro e w18 ⟨rfl, hb⟩; refine ⟨_, rfl, ?_⟩; have n0_ := Aside0.mk (below_step zq11 hb); clear HB; have HB := n0_; clear n0_; (try clear hb); (try clear hb2); (try clear hk); (try clear hi)) | (go_at_call 20; (with_reducible refine (money_Code.calls (⟨#[69, 85, 82]⟩ : ByteArray) true _ A12.out).mono ?_); rintro e w19 ⟨rfl, hb⟩; have n0_ := Aside0.mk (below_step zq11 hb); clear HB; have HB := n0_; clear n0_; (try clear hb); (try clear hb2); (try clear hk); (try clear hi)) | (go_at_call 20; (with_reducible refine (money_Code.calls (⟨#[69, 85, 49]⟩ : ByteArray) t127 _ A14.out).mono ?_); rintro e w20 ⟨rfl, hb⟩; have n0_ := Aside0.mk (below_step zq11 hb); clear HB; have HB := n0_; clear n0_; (try clear hb); (try clear hb2); (try clear hk); (try clear hi)))
         go_ret
         exact ⟨zq10, zq11⟩
        ·replace c13 := Bool.eq_false_iff.mpr c13
         subst c13
         have H1 : (some false) = some r := by rw [if_neg (show ¬ (false = true) by decide)] at H; exact H
         clear H
         have H := H1
         clear H1
         obtain rfl := Option.some.inj H
         go_enter Tryd.func12, Tryd.ntmps12
         go_wp2_with (first | ((with_reducible refine gate_callee (f := 14) rfl ?_); refine goesL_ (some 10) rfl rfl Tryd.func14 (by kernel_rfl) rfl #[.int .i64 (-5), .int .i64 2] rfl zq3 ?_; (with_reducible refine (money_Text.calls (-5) 2 t118 t119 _ A1.out (gl_below HG.out zq12)).mono ?_); rintro e w21 ⟨rfl, hb⟩; refine ⟨_, rfl, ?_⟩; have n0_ := Aside0.mk (below_step zq11 hb); clear HB; have HB := n0_; clear n0_; (try clear hb); (try clear hb2); (try clear hk); (try clear hi)) | ((with_reducible refine gate_callee (f := 16) rfl ?_); refine goesL_ (some 14) rfl rfl Tryd.func16 (by kernel_rfl) rfl #[.string (⟨#[49, 50, 51, 52, 46, 53, 48]⟩ : ByteArray), .int .i64 2] rfl zq3 ?_; (with_reducible refine (money_Parse.calls k (⟨#[49, 50, 51, 52, 46, 53, 48]⟩ : ByteArray) 2 t120 t121 _ A2.out).mono ?_); rintro e w22 ⟨rfl, hb⟩; refine ⟨_, rfl, ?_⟩; have n0_ := Aside0.mk (below_step zq11 hb); clear HB; have HB := n0_; clear n0_; (try clear hb); (try clear hb2); (try clear hk); (try clear hi)) | ((with_reducible refine gate_callee (f := 10) rfl ?_); refine goesL_ (some 18) rfl rfl Tryd.func10 (by kernel_rfl) rfl #[.int .i64 (-125), .int .i64 2, .int .i64 1, .int .i64 4] rfl zq3 ?_; (with_reducible refine (money_Scale.calls (-125) 2 1 4 t122 t123 _ A3.out (gl_below HG.out zq12)).mono ?_); rintro e w23 ⟨rfl, hb⟩; refine ⟨_, rfl, ?_⟩; have n0_ := Aside0.mk (below_step zq11 hb); clear HB; have HB := n0_; clear n0_; (try clear hb); (try clear hb2); (try clear hk); (try clear hi)) | ((with_reducible refine gate_callee (f := 16) rfl ?_); refine goesL_ (some 22) rfl rfl Tryd.func16 (by kernel_rfl) rfl #[.string (⟨#[45, 48, 46, 48, 48]⟩ : ByteArray), .int .i64 2] rfl zq3 ?_; (with_reducible refine (money_Parse.calls k (⟨#[45, 48, 46, 48, 48]⟩ : ByteArray) 2 t124 t125 _ A4.out).mono ?_); rintro e w24 ⟨rfl, hb⟩; refine ⟨_, rfl, ?_⟩; have n0_ := Aside0.mk (below_step zq11 hb); clear HB; have HB := n0_; clear n0_; (try clear hb); (try clear hb2); (try clear hk); (try clear hi)) | (go_at_call 20; (with_reducible refine (money_Code.calls (⟨#[69, 85, 82]⟩ : ByteArray) false _ A12.out).mono ?_); rintro e w25 ⟨rfl, hb⟩; have n0_ := Aside0.mk (below_step zq11 hb); clear HB; have HB := n0_; clear n0_; (try clear hb); (try clear hb2); (try clear hk); (try clear hi)))
         go_ret
         exact ⟨zq10, zq11⟩
       ·rw [if_neg c11] at H
        have c11b0 : (t125 == 5) = false := beq_eq_false_iff_ne.mpr c11
        have c11b1 : (t125 != 5) = true := bne_iff_ne.mpr c11
        obtain rfl := Option.some.inj H
        go_enter Tryd.func12, Tryd.ntmps12
        go_wp2_with (first | ((with_reducible refine gate_callee (f := 14) rfl ?_); refine goesL_ (some 10) rfl rfl Tryd.func14 (by kernel_rfl) rfl #[.int .i64 (-5), .int .i64 2] rfl zq3 ?_; (with_reducible refine (money_Text.calls (-5) 2 t118 t119 _ A1.out (gl_below HG.out zq12)).mono ?_); rintro e w26 ⟨rfl, hb⟩; refine ⟨_, rfl, ?_⟩; have n0_ := Aside0.mk (below_step zq11 hb); clear HB; have HB := n0_; clear n0_; (try clear hb); (try clear hb2); (try clear hk); (try clear hi)) | ((with_reducible refine gate_callee (f := 16) rfl ?_); refine goesL_ (some 14) rfl rfl Tryd.func16 (by kernel_rfl) rfl #[.string (⟨#[49, 50, 51, 52, 46, 53, 48]⟩ : ByteArray), .int .i64 2] rfl zq3 ?_; (with_reducible refine (money_Parse.calls k (⟨#[49, 50, 51, 52, 46, 53, 48]⟩ : ByteArray) 2 t120 t121 _ A2.out).mono ?_); rintro e w27 ⟨rfl, hb⟩; refine ⟨_, rfl, ?_⟩; have n0_ := Aside0.mk (below_step zq11 hb); clear HB; have HB := n0_; clear n0_; (try clear hb); (try clear hb2); (try clear hk); (try clear hi)) | ((with_reducible refine gate_callee (f := 10) rfl ?_); refine goesL_ (some 18) rfl rfl Tryd.func10 (by kernel_rfl) rfl #[.int .i64 (-125), .int .i64 2, .int .i64 1, .int .i64 4] rfl zq3 ?_; (with_reducible refine (money_Scale.calls (-125) 2 1 4 t122 t123 _ A3.out (gl_below HG.out zq12)).mono ?_); rintro e w28 ⟨rfl, hb⟩; refine ⟨_, rfl, ?_⟩; have n0_ := Aside0.mk (below_step zq11 hb); clear HB; have HB := n0_; clear n0_; (try clear hb); (try clear hb2); (try clear hk); (try clear hi)) | ((with_reducible refine gate_callee (f := 16) rfl ?_); refine goesL_ (some 22) rfl rfl Tryd.func16 (by kernel_rfl) rfl #[.string (⟨#[45, 48, 46, 48, 48]⟩ : ByteArray), .int .i64 2] rfl zq3 ?_; (with_reducible refine (money_Parse.calls k (⟨#[45, 48, 46, 48, 48]⟩ : ByteArray) 2 t124 t125 _ A4.out).mono ?_); rintro e w29 ⟨rfl, hb⟩; refine ⟨_, rfl, ?_⟩; have n0_ := Aside0.mk (below_step zq11 hb); clear HB; have HB := n0_; clear n0_; (try clear hb); (try clear hb2); (try clear hk); (try clear hi)))
        go_ret
        exact ⟨zq10, zq11⟩
      ·rw [if_neg c10] at H
       have c10b0 : (t123 == 0) = false := beq_eq_false_iff_ne.mpr c10
       have c10b1 : (t123 != 0) = true := bne_iff_ne.mpr c10
       obtain rfl := Option.some.inj H
       go_enter Tryd.func12, Tryd.ntmps12
       go_wp2_with (first | ((with_reducible refine gate_callee (f := 14) rfl ?_); refine goesL_ (some 10) rfl rfl Tryd.func14 (by kernel_rfl) rfl #[.int .i64 (-5), .int .i64 2] rfl zq3 ?_; (with_reducible refine (money_Text.calls (-5) 2 t118 t119 _ A1.out (gl_below HG.out zq12)).mono ?_); rintro e w30 ⟨rfl, hb⟩; refine ⟨_, rfl, ?_⟩; have n0_ := Aside0.mk (below_step zq11 hb); clear HB; have HB := n0_; clear n0_; (try clear hb); (try clear hb2); (try clear hk); (try clear hi)) | ((with_reducible refine gate_callee (f := 16) rfl ?_); refine goesL_ (some 14) rfl rfl Tryd.func16 (by kernel_rfl) rfl #[.string (⟨#[49, 50, 51, 52, 46, 53, 48]⟩ : ByteArray), .int .i64 2] rfl zq3 ?_; (with_reducible refine (money_Parse.calls k (⟨#[49, 50, 51, 52, 46, 53, 48]⟩ : ByteArray) 2 t120 t121 _ A2.out).mono ?_); rintro e w31 ⟨rfl, hb⟩; refine ⟨_, rfl, ?_⟩; have n0_ := Aside0.mk (below_step zq11 hb); clear HB; have HB := n0_; clear n0_; (try clear hb); (try clear hb2); (try clear hk); (try clear hi)) | ((with_reducible refine gate_callee (f := 10) rfl ?_); refine goesL_ (some 18) rfl rfl Tryd.func10 (by kernel_rfl) rfl #[.int .i64 (-125), .int .i64 2, .int .i64 1, .int .i64 4] rfl zq3 ?_; (with_reducible refine (money_Scale.calls (-125) 2 1 4 t122 t123 _ A3.out (gl_below HG.out zq12)).mono ?_); rintro e w32 ⟨rfl, hb⟩; refine ⟨_, rfl, ?_⟩; have n0_ := Aside0.mk (below_step zq11 hb); clear HB; have HB := n0_; clear n0_; (try clear hb); (try clear hb2); (try clear hk); (try clear hi)) | ((with_reducible refine gate_callee (f := 16) rfl ?_); refine goesL_ (some 22) rfl rfl Tryd.func16 (by kernel_rfl) rfl #[.string (⟨#[45, 48, 46, 48, 48]⟩ : ByteArray), .int .i64 2] rfl zq3 ?_; (with_reducible refine (money_Parse.calls k (⟨#[45, 48, 46, 48, 48]⟩ : ByteArray) 2 t124 t125 _ A4.out).mono ?_); rintro e w33 ⟨rfl, hb⟩; refine ⟨_, rfl, ?_⟩; have n0_ := Aside0.mk (below_step zq11 hb); clear HB; have HB := n0_; clear n0_; (try clear hb); (try clear hb2); (try clear hk); (try clear hi)))
       go_ret
       exact ⟨zq10, zq11⟩
     ·rw [if_neg c9] at H
      have c9b0 : (t122 == (-12)) = false := beq_eq_false_iff_ne.mpr c9
      have c9b1 : (t122 != (-12)) = true := bne_iff_ne.mpr c9
      obtain rfl := Option.some.inj H
      go_enter Tryd.func12, Tryd.ntmps12
      go_wp2_with (first | ((with_reducible refine gate_callee (f := 14) rfl ?_); refine goesL_ (some 10) rfl rfl Tryd.func14 (by kernel_rfl) rfl #[.int .i64 (-5), .int .i64 2] rfl zq3 ?_; (with_reducible refine (money_Text.calls (-5) 2 t118 t119 _ A1.out (gl_below HG.out zq12)).mono ?_); rintro e w34 ⟨rfl, hb⟩; refine ⟨_, rfl, ?_⟩; have n0_ := Aside0.mk (below_step zq11 hb); clear HB; have HB := n0_; clear n0_; (try clear hb); (try clear hb2); (try clear hk); (try clear hi)) | ((with_reducible refine gate_callee (f := 16) rfl ?_); refine goesL_ (some 14) rfl rfl Tryd.func16 (by kernel_rfl) rfl #[.string (⟨#[49, 50, 51, 52, 46, 53, 48]⟩ : ByteArray), .int .i64 2] rfl zq3 ?_; (with_reducible refine (money_Parse.calls k (⟨#[49, 50, 51, 52, 46, 53, 48]⟩ : ByteArray) 2 t120 t121 _ A2.out).mono ?_); rintro e w35 ⟨rfl, hb⟩; refine ⟨_, rfl, ?_⟩; have n0_ := Aside0.mk (below_step zq11 hb); clear HB; have HB := n0_; clear n0_; (try clear hb); (try clear hb2); (try clear hk); (try clear hi)) | ((with_reducible refine gate_callee (f := 10) rfl ?_); refine goesL_ (some 18) rfl rfl Tryd.func10 (by kernel_rfl) rfl #[.int .i64 (-125), .int .i64 2, .int .i64 1, .int .i64 4] rfl zq3 ?_; (with_reducible refine (money_Scale.calls (-125) 2 1 4 t122 t123 _ A3.out (gl_below HG.out zq12)).mono ?_); rintro e w36 ⟨rfl, hb⟩; refine ⟨_, rfl, ?_⟩; have n0_ := Aside0.mk (below_step zq11 hb); clear HB; have HB := n0_; clear n0_; (try clear hb); (try clear hb2); (try clear hk); (try clear hi)) | ((with_reducible refine gate_callee (f := 16) rfl ?_); refine goesL_ (some 22) rfl rfl Tryd.func16 (by kernel_rfl) rfl #[.string (⟨#[45, 48, 46, 48, 48]⟩ : ByteArray), .int .i64 2] rfl zq3 ?_; (with_reducible refine (money_Parse.calls k (⟨#[45, 48, 46, 48, 48]⟩ : ByteArray) 2 t124 t125 _ A4.out).mono ?_); rintro e w37 ⟨rfl, hb⟩; refine ⟨_, rfl, ?_⟩; have n0_ := Aside0.mk (below_step zq11 hb); clear HB; have HB := n0_; clear n0_; (try clear hb); (try clear hb2); (try clear hk); (try clear hi)))
      go_ret
      exact ⟨zq10, zq11⟩
    ·rw [if_neg c8] at H
     have c8b0 : (t121 == 0) = false := beq_eq_false_iff_ne.mpr c8
     have c8b1 : (t121 != 0) = true := bne_iff_ne.mpr c8
     obtain rfl := Option.some.inj H
     go_enter Tryd.func12, Tryd.ntmps12
     go_wp2_with (first | ((with_reducible refine gate_callee (f := 14) rfl ?_); refine goesL_ (some 10) rfl rfl Tryd.func14 (by kernel_rfl) rfl #[.int .i64 (-5), .int .i64 2] rfl zq3 ?_; (with_reducible refine (money_Text.calls (-5) 2 t118 t119 _ A1.out (gl_below HG.out zq12)).mono ?_); rintro e w38 ⟨rfl, hb⟩; refine ⟨_, rfl, ?_⟩; have n0_ := Aside0.mk (below_step zq11 hb); clear HB; have HB := n0_; clear n0_; (try clear hb); (try clear hb2); (try clear hk); (try clear hi)) | ((with_reducible refine gate_callee (f := 16) rfl ?_); refine goesL_ (some 14) rfl rfl Tryd.func16 (by kernel_rfl) rfl #[.string (⟨#[49, 50, 51, 52, 46, 53, 48]⟩ : ByteArray), .int .i64 2] rfl zq3 ?_; (with_reducible refine (money_Parse.calls k (⟨#[49, 50, 51, 52, 46, 53, 48]⟩ : ByteArray) 2 t120 t121 _ A2.out).mono ?_); rintro e w39 ⟨rfl, hb⟩; refine ⟨_, rfl, ?_⟩; have n0_ := Aside0.mk (below_step zq11 hb); clear HB; have HB := n0_; clear n0_; (try clear hb); (try clear hb2); (try clear hk); (try clear hi)) | ((with_reducible refine gate_callee (f := 10) rfl ?_); refine goesL_ (some 18) rfl rfl Tryd.func10 (by kernel_rfl) rfl #[.int .i64 (-125), .int .i64 2, .int .i64 1, .int .i64 4] rfl zq3 ?_; (with_reducible refine (money_Scale.calls (-125) 2 1 4 t122 t123 _ A3.out (gl_below HG.out zq12)).mono ?_); rintro e w40 ⟨rfl, hb⟩; refine ⟨_, rfl, ?_⟩; have n0_ := Aside0.mk (below_step zq11 hb); clear HB; have HB := n0_; clear n0_; (try clear hb); (try clear hb2); (try clear hk); (try clear hi)) | ((with_reducible refine gate_callee (f := 16) rfl ?_); refine goesL_ (some 22) rfl rfl Tryd.func16 (by kernel_rfl) rfl #[.string (⟨#[45, 48, 46, 48, 48]⟩ : ByteArray), .int .i64 2] rfl zq3 ?_; (with_reducible refine (money_Parse.calls k (⟨#[45, 48, 46, 48, 48]⟩ : ByteArray) 2 t124 t125 _ A4.out).mono ?_); rintro e w41 ⟨rfl, hb⟩; refine ⟨_, rfl, ?_⟩; have n0_ := Aside0.mk (below_step zq11 hb); clear HB; have HB := n0_; clear n0_; (try clear hb); (try clear hb2); (try clear hk); (try clear hi)))
     go_ret
     exact ⟨zq10, zq11⟩
   ·rw [if_neg c7] at H
    have c7b0 : (t120 == 123450) = false := beq_eq_false_iff_ne.mpr c7
    have c7b1 : (t120 != 123450) = true := bne_iff_ne.mpr c7
    obtain rfl := Option.some.inj H
    go_enter Tryd.func12, Tryd.ntmps12
    go_wp2_with (first | ((with_reducible refine gate_callee (f := 14) rfl ?_); refine goesL_ (some 10) rfl rfl Tryd.func14 (by kernel_rfl) rfl #[.int .i64 (-5), .int .i64 2] rfl zq3 ?_; (with_reducible refine (money_Text.calls (-5) 2 t118 t119 _ A1.out (gl_below HG.out zq12)).mono ?_); rintro e w42 ⟨rfl, hb⟩; refine ⟨_, rfl, ?_⟩; have n0_ := Aside0.mk (below_step zq11 hb); clear HB; have HB := n0_; clear n0_; (try clear hb); (try clear hb2); (try clear hk); (try clear hi)) | ((with_reducible refine gate_callee (f := 16) rfl ?_); refine goesL_ (some 14) rfl rfl Tryd.func16 (by kernel_rfl) rfl #[.string (⟨#[49, 50, 51, 52, 46, 53, 48]⟩ : ByteArray), .int .i64 2] rfl zq3 ?_; (with_reducible refine (money_Parse.calls k (⟨#[49, 50, 51, 52, 46, 53, 48]⟩ : ByteArray) 2 t120 t121 _ A2.out).mono ?_); rintro e w43 ⟨rfl, hb⟩; refine ⟨_, rfl, ?_⟩; have n0_ := Aside0.mk (below_step zq11 hb); clear HB; have HB := n0_; clear n0_; (try clear hb); (try clear hb2); (try clear hk); (try clear hi)) | ((with_reducible refine gate_callee (f := 10) rfl ?_); refine goesL_ (some 18) rfl rfl Tryd.func10 (by kernel_rfl) rfl #[.int .i64 (-125), .int .i64 2, .int .i64 1, .int .i64 4] rfl zq3 ?_; (with_reducible refine (money_Scale.calls (-125) 2 1 4 t122 t123 _ A3.out (gl_below HG.out zq12)).mono ?_); rintro e w44 ⟨rfl, hb⟩; refine ⟨_, rfl, ?_⟩; have n0_ := Aside0.mk (below_step zq11 hb); clear HB; have HB := n0_; clear n0_; (try clear hb); (try clear hb2); (try clear hk); (try clear hi)) | ((with_reducible refine gate_callee (f := 16) rfl ?_); refine goesL_ (some 22) rfl rfl Tryd.func16 (by kernel_rfl) rfl #[.string (⟨#[45, 48, 46, 48, 48]⟩ : ByteArray), .int .i64 2] rfl zq3 ?_; (with_reducible refine (money_Parse.calls k (⟨#[45, 48, 46, 48, 48]⟩ : ByteArray) 2 t124 t125 _ A4.out).mono ?_); rintro e w45 ⟨rfl, hb⟩; refine ⟨_, rfl, ?_⟩; have n0_ := Aside0.mk (below_step zq11 hb); clear HB; have HB := n0_; clear n0_; (try clear hb); (try clear hb2); (try clear hk); (try clear hi)))
    go_ret
    exact ⟨zq10, zq11⟩
  ·rw [if_neg c6] at H
   have c6b0 : (t119 == 0) = false := beq_eq_false_iff_ne.mpr c6
   have c6b1 : (t119 != 0) = true := bne_iff_ne.mpr c6
   obtain rfl := Option.some.inj H
   go_enter Tryd.func12, Tryd.ntmps12
   go_wp2_with (first | ((with_reducible refine gate_callee (f := 14) rfl ?_); refine goesL_ (some 10) rfl rfl Tryd.func14 (by kernel_rfl) rfl #[.int .i64 (-5), .int .i64 2] rfl zq3 ?_; (with_reducible refine (money_Text.calls (-5) 2 t118 t119 _ A1.out (gl_below HG.out zq12)).mono ?_); rintro e w46 ⟨rfl, hb⟩; refine ⟨_, rfl, ?_⟩; have n0_ := Aside0.mk (below_step zq11 hb); clear HB; have HB := n0_; clear n0_; (try clear hb); (try clear hb2); (try clear hk); (try clear hi)) | ((with_reducible refine gate_callee (f := 16) rfl ?_); refine goesL_ (some 14) rfl rfl Tryd.func16 (by kernel_rfl) rfl #[.string (⟨#[49, 50, 51, 52, 46, 53, 48]⟩ : ByteArray), .int .i64 2] rfl zq3 ?_; (with_reducible refine (money_Parse.calls k (⟨#[49, 50, 51, 52, 46, 53, 48]⟩ : ByteArray) 2 t120 t121 _ A2.out).mono ?_); rintro e w47 ⟨rfl, hb⟩; refine ⟨_, rfl, ?_⟩; have n0_ := Aside0.mk (below_step zq11 hb); clear HB; have HB := n0_; clear n0_; (try clear hb); (try clear hb2); (try clear hk); (try clear hi)) | ((with_reducible refine gate_callee (f := 10) rfl ?_); refine goesL_ (some 18) rfl rfl Tryd.func10 (by kernel_rfl) rfl #[.int .i64 (-125), .int .i64 2, .int .i64 1, .int .i64 4] rfl zq3 ?_; (with_reducible refine (money_Scale.calls (-125) 2 1 4 t122 t123 _ A3.out (gl_below HG.out zq12)).mono ?_); rintro e w48 ⟨rfl, hb⟩; refine ⟨_, rfl, ?_⟩; have n0_ := Aside0.mk (below_step zq11 hb); clear HB; have HB := n0_; clear n0_; (try clear hb); (try clear hb2); (try clear hk); (try clear hi)) | ((with_reducible refine gate_callee (f := 16) rfl ?_); refine goesL_ (some 22) rfl rfl Tryd.func16 (by kernel_rfl) rfl #[.string (⟨#[45, 48, 46, 48, 48]⟩ : ByteArray), .int .i64 2] rfl zq3 ?_; (with_reducible refine (money_Parse.calls k (⟨#[45, 48, 46, 48, 48]⟩ : ByteArray) 2 t124 t125 _ A4.out).mono ?_); rintro e w49 ⟨rfl, hb⟩; refine ⟨_, rfl, ?_⟩; have n0_ := Aside0.mk (below_step zq11 hb); clear HB; have HB := n0_; clear n0_; (try clear hb); (try clear hb2); (try clear hk); (try clear hi)))
   go_ret
   exact ⟨zq10, zq11⟩
 ·rw [if_neg c5] at H
  have c5b0 : (t118.toList == ([45, 48, 46, 48, 53] : List UInt8)) = false := beq_eq_false_iff_ne.mpr c5
  have c5b1 : (t118.toList != ([45, 48, 46, 48, 53] : List UInt8)) = true := bne_iff_ne.mpr c5
  obtain rfl := Option.some.inj H
  go_enter Tryd.func12, Tryd.ntmps12
  go_wp2_with (first | ((with_reducible refine gate_callee (f := 14) rfl ?_); refine goesL_ (some 10) rfl rfl Tryd.func14 (by kernel_rfl) rfl #[.int .i64 (-5), .int .i64 2] rfl zq3 ?_; (with_reducible refine (money_Text.calls (-5) 2 t118 t119 _ A1.out (gl_below HG.out zq12)).mono ?_); rintro e w50 ⟨rfl, hb⟩; refine ⟨_, rfl, ?_⟩; have n0_ := Aside0.mk (below_step zq11 hb); clear HB; have HB := n0_; clear n0_; (try clear hb); (try clear hb2); (try clear hk); (try clear hi)) | ((with_reducible refine gate_callee (f := 16) rfl ?_); refine goesL_ (some 14) rfl rfl Tryd.func16 (by kernel_rfl) rfl #[.string (⟨#[49, 50, 51, 52, 46, 53, 48]⟩ : ByteArray), .int .i64 2] rfl zq3 ?_; (with_reducible refine (money_Parse.calls k (⟨#[49, 50, 51, 52, 46, 53, 48]⟩ : ByteArray) 2 t120 t121 _ A2.out).mono ?_); rintro e w51 ⟨rfl, hb⟩; refine ⟨_, rfl, ?_⟩; have n0_ := Aside0.mk (below_step zq11 hb); clear HB; have HB := n0_; clear n0_; (try clear hb); (try clear hb2); (try clear hk); (try clear hi)) | ((with_reducible refine gate_callee (f := 10) rfl ?_); refine goesL_ (some 18) rfl rfl Tryd.func10 (by kernel_rfl) rfl #[.int .i64 (-125), .int .i64 2, .int .i64 1, .int .i64 4] rfl zq3 ?_; (with_reducible refine (money_Scale.calls (-125) 2 1 4 t122 t123 _ A3.out (gl_below HG.out zq12)).mono ?_); rintro e w52 ⟨rfl, hb⟩; refine ⟨_, rfl, ?_⟩; have n0_ := Aside0.mk (below_step zq11 hb); clear HB; have HB := n0_; clear n0_; (try clear hb); (try clear hb2); (try clear hk); (try clear hi)) | ((with_reducible refine gate_callee (f := 16) rfl ?_); refine goesL_ (some 22) rfl rfl Tryd.func16 (by kernel_rfl) rfl #[.string (⟨#[45, 48, 46, 48, 48]⟩ : ByteArray), .int .i64 2] rfl zq3 ?_; (with_reducible refine (money_Parse.calls k (⟨#[45, 48, 46, 48, 48]⟩ : ByteArray) 2 t124 t125 _ A4.out).mono ?_); rintro e w53 ⟨rfl, hb⟩; refine ⟨_, rfl, ?_⟩; have n0_ := Aside0.mk (below_step zq11 hb); clear HB; have HB := n0_; clear n0_; (try clear hb); (try clear hb2); (try clear hk); (try clear hi)))
  go_ret
  exact ⟨zq10, zq11⟩

end Go.Proofs.YthmpapnhomngnaaDoor.A
