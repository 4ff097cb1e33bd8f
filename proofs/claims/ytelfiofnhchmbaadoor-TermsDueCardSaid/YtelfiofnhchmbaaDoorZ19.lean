-- By pack.py, a program of this session's: declarations of this seat's texts, put together for a claim.
import Derived.Test.YtelfiofnhchmbaaDoorZ7
import Derived.Test.YtelfiofnhchmbaaDoorZ12
import Derived.Test.YtelfiofnhchmbaaDoorZ14
import Derived.Test.YtelfiofnhchmbaaDoorZ15
namespace Go.Proofs.YtelfiofnhchmbaaDoor.A
open Go.RowKit Go.Proofs.YtelfiofnhchmbaaDoor.B Go.Proofs.YtelfiofnhchmbaaDoorW.PrintWords Go.Proofs.YtelfiofnhchmbaaDoorW.PrintLast Go.Proofs.YtelfiofnhchmbaaDoorW.PrintMore
theorem zq35 {P : Prop} (h : P := by (with_reducible repeat (first | refine blk_drewN ?_ _ | refine blk_drew ?_ | refine blk_alloc ?_ _)); exact BK334.out) : P := h
theorem zq36 {P : Prop} (h : P := by repeat (first | (with_reducible first | exact HB.out | apply below_alloc | apply pw_below_drewN | apply below_drew1 | refine below_set ?_ GE334.out) | exact HB.out)) : P := h
theorem zq37 {P : Prop} (h : P := by repeat (first | (with_reducible first | exact HB.out | apply below_alloc | apply pw_below_drewN | apply below_drew1 | refine below_set ?_ GE342.out) | exact HB.out)) : P := h
theorem zq39 {P : Prop} (h : P := by repeat (first | (with_reducible first | exact HB.out | apply below_alloc | apply pw_below_drewN | apply below_drew1 | refine below_set ?_ GE344.out) | exact HB.out)) : P := h
theorem zq82 {P : Prop} (h : P := by repeat (first | (with_reducible first | exact HB.out | exact Below.refl _ _ | apply below_alloc | apply pw_below_drewN | apply below_drew1 | refine below_set ?_ GE351.out) | exact HB.out)) : P := h
theorem zq83 {P : Prop} (h : P := by repeat (first | (with_reducible first | exact HB.out | apply below_alloc | apply pw_below_drewN | apply below_drew1 | refine below_set ?_ GE351.out) | exact HB.out)) : P := h
end Go.Proofs.YtelfiofnhchmbaaDoor.A
namespace Go.Proofs.YtelfiofnhchmbaaDoor.A
open Go.RowKit Go.Proofs.YtelfiofnhchmbaaDoor.B Go.Proofs.YtelfiofnhchmbaaDoorW.PrintWords Go.Proofs.YtelfiofnhchmbaaDoorW.PrintLast Go.Proofs.YtelfiofnhchmbaaDoorW.PrintMore
attribute [local go_sem] max2_int min2_int max_two min_two max_three min_three max_four min_four
set_option linter.unusedVariables false
set_option linter.unusedSimpArgs false
set_option maxHeartbeats 8000000
set_option maxRecDepth 100000
def rf04_Leap.f (a0 : Int) : Option (Bool) := if (Int.tmod a0 4) = 0 then (if (Int.tmod a0 100) = 0 then (some ((Int.tmod a0 400) == 0)) else (some true)) else (some ((Int.tmod a0 400) == 0))
theorem rf04_Leap.calls (a0 : Int) (r : Bool) (w : World) (h : rf04_Leap.f a0 = some r) :
  Calls Tryd.prog 75 #[.int .i64 a0] w fun e w' => e = .returned (.bool r) ∧ Drawn0 w w' := by
 have H := h
 clear h
 unfold rf04_Leap.f at H
 replace H := ifI H
 rcases H with ⟨c2, H⟩ | ⟨c2, H⟩
 ·obtain ⟨c2b0, c2b1⟩ := eqI c2
  clear c2
  replace H := ifI H
  rcases H with ⟨c3, H⟩ | ⟨c3, H⟩
  ·obtain ⟨c3b0, c3b1⟩ := eqI c3
   clear c3
   obtain rfl := Option.some.inj H
   go_enter Tryd.func75, Tryd.ntmps75
   go_wp2
   go_ret
   exact ⟨zq1, zq23⟩
  obtain ⟨c3b0, c3b1⟩ := neI c3
  obtain rfl := Option.some.inj H
  go_enter Tryd.func75, Tryd.ntmps75
  go_wp2
  go_ret
  exact ⟨zq1, zq23⟩
 obtain ⟨c2b0, c2b1⟩ := neI c2
 obtain rfl := Option.some.inj H
 go_enter Tryd.func75, Tryd.ntmps75
 go_wp2
 go_ret
 exact ⟨zq1, zq23⟩
def rf04_Length.j0 : Nat → Int → Int → Bool → Option (Int)
 | 0, _, _, _ => none
 | k + 1, x0, x1, x10 => if x10 = true then (some 0) else (if x1 = 2 then ((rf04_Leap.f x0).bind fun t325 => (if t325 = true then (some 29) else ((some (([31, 28, 31, 30, 31, 30, 31, 31, 30, 31, 30, 31] : List Int) : List Int)).bind fun y326 => (if 0 ≤ (wrap64 (x1 - 1)) then (if (wrap64 (x1 - 1)) < (y326.length : Int) then (some (rd y326 (wrap64 (x1 - 1)))) else (none)) else (none))))) else ((some (([31, 28, 31, 30, 31, 30, 31, 31, 30, 31, 30, 31] : List Int) : List Int)).bind fun y330 => (if 0 ≤ (wrap64 (x1 - 1)) then (if (wrap64 (x1 - 1)) < (y330.length : Int) then (some (rd y330 (wrap64 (x1 - 1)))) else (none)) else (none))))
def rf04_Length.f (k : Nat) (a0 : Int) (a1 : Int) : Option (Int) := if a1 < 1 then (rf04_Length.j0 k a0 a1 true) else (rf04_Length.j0 k a0 a1 (decide (a1 > 12)))
theorem rf04_Length.calls (k : Nat) (a0 a1 r : Int) (w : World) (h : rf04_Length.f k a0 a1 = some r) :
  Calls Tryd.prog 49 #[.int .i64 a0, .int .i64 a1] w fun e w' => e = .returned (.int .i64 r) ∧ Below w.heap.size w w' := by
 have HB := sd (Below.refl w.heap.size w)
 have H := h
 clear h
 unfold rf04_Length.f at H
 have HC3 := sd H
 clear H
 go_enter Tryd.func49, Tryd.ntmps49
 go_upto_region 1 with (fail)
 go_cut [10] (fun v10 wc => ∃ (kq : Nat) (x10_2 : Bool), v10 = .bool x10_2 ∧ Aside0 (rf04_Length.j0 kq a0 a1 x10_2 = some r) ∧ Aside0 (kq ≤ k) ∧ Aside0 (Below w.heap.size w wc))
 case first =>
  have H := HC3.out
  clear HC3
  replace H := ifI H
  rcases H with ⟨c4, H⟩ | ⟨c4, H⟩
  ·have c4b0 : decide (a1 < 1) = true := decide_eq_true c4
   clear c4
   (first | rw [c4b0] | (simp only [i64_w, i32_w]; rw [c4b0]) | skip)
   have H' := sd H
   clear H
   go_wp2
   go_meet
   case rel => exact ⟨_, (true), zq1, H', ⟨by first | omega | exact Nat.le_refl _⟩, ⟨zq34⟩⟩
  have c4b0 : decide (a1 < 1) = false := decide_eq_false c4
  clear c4
  (first | rw [c4b0] | (simp only [i64_w, i32_w]; rw [c4b0]) | skip)
  have H' := sd H
  clear H
  go_wp2
  go_meet
  case rel => exact ⟨_, (decide (a1 > 12)), zq1, H', ⟨by first | omega | exact Nat.le_refl _⟩, ⟨zq34⟩⟩
 case rest =>
  clear HC3
  try clear p2
  try clear c4
  try clear c4b0
  obtain ⟨kq, x10_2, rfl, HA, HJ2, HB⟩ := hcut
  cases kq with
  | zero => exact absurd HA.out (by simp [rf04_Length.j0])
  | succ kj2 =>
   have H := HA.out
   clear HA
   simp only [rf04_Length.j0] at H
   by_cases c5 : x10_2 = true
   ·subst c5
    rw [if_pos rfl] at H
    obtain rfl := Option.some.inj H
    go_wp2
    go_ret
    exact ⟨zq8, zq34⟩
   replace c5 := Bool.eq_false_iff.mpr c5
   subst c5
   rw [if_neg Bool.false_ne_true] at H
   replace H := ifI H
   rcases H with ⟨c6, H⟩ | ⟨c6, H⟩
   ·obtain ⟨c6b0, c6b1⟩ := eqI c6
    clear c6
    replace H := bdI H
    obtain ⟨t325, A7, H⟩ := H
    (try dsimp only at H)
    by_cases c8 : t325 = true
    ·subst c8
     rw [if_pos rfl] at H
     obtain rfl := Option.some.inj H
     go_wp2_with (first | (go_at_call 75; (with_reducible refine (rf04_Leap.calls a0 true _ A7.out).mono ?_); rintro e w' ⟨rfl, ⟨nd, rfl⟩⟩))
     go_ret
     exact ⟨zq8, zq34⟩
    replace c8 := Bool.eq_false_iff.mpr c8
    subst c8
    rw [if_neg Bool.false_ne_true] at H
    obtain ⟨y326, hy326⟩ : ∃ y_ : List Int, y_ = (([31, 28, 31, 30, 31, 30, 31, 31, 30, 31, 30, 31] : List Int)) := ⟨_, rfl⟩
    replace H : (if 0 ≤ (wrap64 (a1 - 1)) then (if (wrap64 (a1 - 1)) < (y326.length : Int) then (some (rd y326 (wrap64 (a1 - 1)))) else (none)) else (none)) = some r := by first | (rw [hy326]; with_reducible exact H) | (have H2_ := (Option.bind_some _ _).symm.trans H; rw [hy326]; with_reducible exact H2_) | (have H2_ := (Option.bind_some _ _).symm.trans H; with_reducible exact H2_) | with_reducible exact H | (rw [hy326]; exact H) | exact H
    have Ny326 := sd hy326
    clear hy326
    obtain ⟨ji9, hji9⟩ : ∃ j_ : Int, (wrap64 (a1 - 1)) = j_ := ⟨_, rfl⟩
    replace H : (if 0 ≤ (ji9) then (if (ji9) < (y326.length : Int) then (some (rd y326 (ji9))) else (none)) else (none)) = some r := by first | (rw [hji9] at H; exact H) | (simp only [hji9] at H ⊢; exact H)
    (try rw [hji9] at A7)
    have hji9w : (IntKind.i64.wrap (a1 - 1)) = ji9 := (i64_w _).trans hji9
    replace H := ifI H
    rcases H with ⟨c10, H⟩ | ⟨c10, H⟩
    ·have c10b0 : decide (0 ≤ (ji9)) = true := decide_eq_true c10
     clear c10
     replace H := ifI H
     rcases H with ⟨c11, H⟩ | ⟨c11, H⟩
     ·have c11b0 : decide ((ji9) < (y326.length : Int)) = true := decide_eq_true c11
      clear c11
      obtain rfl := Option.some.inj H
      go_wp2_with (first | (go_at_call 75; (with_reducible refine (rf04_Leap.calls a0 false _ A7.out).mono ?_); rintro e w' ⟨rfl, ⟨nd, rfl⟩⟩) | ((with_reducible refine gate_dst (N := 17) rfl ?_); refine Kd.R_lit (Kd.int .i64) _ 3 ?hg (N := 17) ?hd (xs := ([31, 28, 31, 30, 31, 30, 31, 31, 30, 31, 30, 31] : List Int)) (inner := [.int .i64 31, .int .i64 28, .int .i64 31, .int .i64 30, .int .i64 31, .int .i64 30, .int .i64 31, .int .i64 31, .int .i64 30, .int .i64 31, .int .i64 30, .int .i64 31]) (ok := fun _ => True) (okp := fun _ => True) ?hr ?hp (fun _ hk => hk) trivial (Below.refl _ _) (Nat.le_refl _) (by simp) ?_; (case hd => rfl); (case hg => rfl); (case hr => first | (go_simp; done) | (go_simp; rfl)); (case hp => exact (Reps.one (show Kd.M (Kd.int .i64) _ _ _ 31 [.int .i64 31] from rfl) (Reps.one (show Kd.M (Kd.int .i64) _ _ _ 28 [.int .i64 28] from rfl) (Reps.one (show Kd.M (Kd.int .i64) _ _ _ 31 [.int .i64 31] from rfl) (Reps.one (show Kd.M (Kd.int .i64) _ _ _ 30 [.int .i64 30] from rfl) (Reps.one (show Kd.M (Kd.int .i64) _ _ _ 31 [.int .i64 31] from rfl) (Reps.one (show Kd.M (Kd.int .i64) _ _ _ 30 [.int .i64 30] from rfl) (Reps.one (show Kd.M (Kd.int .i64) _ _ _ 31 [.int .i64 31] from rfl) (Reps.one (show Kd.M (Kd.int .i64) _ _ _ 31 [.int .i64 31] from rfl) (Reps.one (show Kd.M (Kd.int .i64) _ _ _ 30 [.int .i64 30] from rfl) (Reps.one (show Kd.M (Kd.int .i64) _ _ _ 31 [.int .i64 31] from rfl) (Reps.one (show Kd.M (Kd.int .i64) _ _ _ 30 [.int .i64 30] from rfl) (Reps.one (show Kd.M (Kd.int .i64) _ _ _ 31 [.int .i64 31] from rfl) (Reps.none _ _)))))))))))))); intro v327 w12 ho13 hb hg_ hnew_; clear hg_ hnew_; (first | rw [← Ny326.out] at ho13 | (simp only [Int.reduceToNat] at ho13; rw [← Ny326.out] at ho13)); have HO328 := sd (Kd.R_lower ho13 (below_size zq34)); replace HB := hbm HB hb; clear hb ho13; obtain ⟨Ao14, co14, eo14⟩ := Kd.R_slice HO328.out; subst eo14; have p329 : 0 ≤ ((ji9) : Int) := od; have q329 : (ji9) < (y326.length : Int) := od; obtain ⟨ad329, e329, hx329_0⟩ := Kd.at_int (Kd.R_reads' HO328.out).2.2 (ji9) p329 q329; cases e329; replace p329 := eq_true p329; replace q329 := eq_true q329))
      go_ret
      exact ⟨by first | rfl | (simp [errW_none, errW_some] <;> rfl) | (simp only [← hji9]; first | rfl | (simp [errW_none, errW_some] <;> rfl)) | (simp [*, errW_none, errW_some] <;> rfl), zq34⟩
     exact absurd H (by simp)
    exact absurd H (by simp)
   obtain ⟨c6b0, c6b1⟩ := neI c6
   obtain ⟨y330, hy330⟩ : ∃ y_ : List Int, y_ = (([31, 28, 31, 30, 31, 30, 31, 31, 30, 31, 30, 31] : List Int)) := ⟨_, rfl⟩
   replace H : (if 0 ≤ (wrap64 (a1 - 1)) then (if (wrap64 (a1 - 1)) < (y330.length : Int) then (some (rd y330 (wrap64 (a1 - 1)))) else (none)) else (none)) = some r := by first | (rw [hy330]; with_reducible exact H) | (have H2_ := (Option.bind_some _ _).symm.trans H; rw [hy330]; with_reducible exact H2_) | (have H2_ := (Option.bind_some _ _).symm.trans H; with_reducible exact H2_) | with_reducible exact H | (rw [hy330]; exact H) | exact H
   have Ny330 := sd hy330
   clear hy330
   obtain ⟨ji15, hji15⟩ : ∃ j_ : Int, (wrap64 (a1 - 1)) = j_ := ⟨_, rfl⟩
   replace H : (if 0 ≤ (ji15) then (if (ji15) < (y330.length : Int) then (some (rd y330 (ji15))) else (none)) else (none)) = some r := by first | (rw [hji15] at H; exact H) | (simp only [hji15] at H ⊢; exact H)
   have hji15w : (IntKind.i64.wrap (a1 - 1)) = ji15 := (i64_w _).trans hji15
   replace H := ifI H
   rcases H with ⟨c16, H⟩ | ⟨c16, H⟩
   ·have c16b0 : decide (0 ≤ (ji15)) = true := decide_eq_true c16
    clear c16
    replace H := ifI H
    rcases H with ⟨c17, H⟩ | ⟨c17, H⟩
    ·have c17b0 : decide ((ji15) < (y330.length : Int)) = true := decide_eq_true c17
     clear c17
     obtain rfl := Option.some.inj H
     go_wp2_with (first | ((with_reducible refine gate_dst (N := 17) rfl ?_); refine Kd.R_lit (Kd.int .i64) _ 3 ?hg (N := 17) ?hd (xs := ([31, 28, 31, 30, 31, 30, 31, 31, 30, 31, 30, 31] : List Int)) (inner := [.int .i64 31, .int .i64 28, .int .i64 31, .int .i64 30, .int .i64 31, .int .i64 30, .int .i64 31, .int .i64 31, .int .i64 30, .int .i64 31, .int .i64 30, .int .i64 31]) (ok := fun _ => True) (okp := fun _ => True) ?hr ?hp (fun _ hk => hk) trivial (Below.refl _ _) (Nat.le_refl _) (by simp) ?_; (case hd => rfl); (case hg => rfl); (case hr => first | (go_simp; done) | (go_simp; rfl)); (case hp => exact (Reps.one (show Kd.M (Kd.int .i64) _ _ _ 31 [.int .i64 31] from rfl) (Reps.one (show Kd.M (Kd.int .i64) _ _ _ 28 [.int .i64 28] from rfl) (Reps.one (show Kd.M (Kd.int .i64) _ _ _ 31 [.int .i64 31] from rfl) (Reps.one (show Kd.M (Kd.int .i64) _ _ _ 30 [.int .i64 30] from rfl) (Reps.one (show Kd.M (Kd.int .i64) _ _ _ 31 [.int .i64 31] from rfl) (Reps.one (show Kd.M (Kd.int .i64) _ _ _ 30 [.int .i64 30] from rfl) (Reps.one (show Kd.M (Kd.int .i64) _ _ _ 31 [.int .i64 31] from rfl) (Reps.one (show Kd.M (Kd.int .i64) _ _ _ 31 [.int .i64 31] from rfl) (Reps.one (show Kd.M (Kd.int .i64) _ _ _ 30 [.int .i64 30] from rfl) (Reps.one (show Kd.M (Kd.int .i64) _ _ _ 31 [.int .i64 31] from rfl) (Reps.one (show Kd.M (Kd.int .i64) _ _ _ 30 [.int .i64 30] from rfl) (Reps.one (show Kd.M (Kd.int .i64) _ _ _ 31 [.int .i64 31] from rfl) (Reps.none _ _)))))))))))))); intro v331 w18 ho19 hb hg_ hnew_; clear hg_ hnew_; (first | rw [← Ny330.out] at ho19 | (simp only [Int.reduceToNat] at ho19; rw [← Ny330.out] at ho19)); have HO332 := sd (Kd.R_lower ho19 (below_size zq34)); replace HB := hbm HB hb; clear hb ho19; obtain ⟨Ao20, co20, eo20⟩ := Kd.R_slice HO332.out; subst eo20; have p333 : 0 ≤ ((ji15) : Int) := od; have q333 : (ji15) < (y330.length : Int) := od; obtain ⟨ad333, e333, hx333_0⟩ := Kd.at_int (Kd.R_reads' HO332.out).2.2 (ji15) p333 q333; cases e333; replace p333 := eq_true p333; replace q333 := eq_true q333))
     go_ret
     exact ⟨by first | rfl | (simp [errW_none, errW_some] <;> rfl) | (simp only [← hji15]; first | rfl | (simp [errW_none, errW_some] <;> rfl)) | (simp [*, errW_none, errW_some] <;> rfl), zq34⟩
    exact absurd H (by simp)
   exact absurd H (by simp)
theorem rf04_Is.calls (a0 : Int) (r : Bool) (w : World) (h : rf04_Is.f a0 = some r) :
  Calls Tryd.prog 74 #[.int .i64 a0] w fun e w' => e = .returned (.bool r) ∧ Drawn0 w w' := by
 have H := h
 clear h
 unfold rf04_Is.f at H
 replace H := ifI H
 rcases H with ⟨c2, H⟩ | ⟨c2, H⟩
 ·have c2b0 : decide (0 ≤ a0) = true := decide_eq_true c2
  clear c2
  obtain rfl := Option.some.inj H
  go_enter Tryd.func74, Tryd.ntmps74
  go_wp2
  go_ret
  exact ⟨zq1, zq23⟩
 have c2b0 : decide (0 ≤ a0) = false := decide_eq_false c2
 clear c2
 obtain rfl := Option.some.inj H
 go_enter Tryd.func74, Tryd.ntmps74
 go_wp2
 go_ret
 exact ⟨zq1, zq23⟩
def rf04_Date.l0 : Nat → Int → Int → Option (Int × Int × Int × Int)
 | 0, _, _ => none
 | k + 1, x4, x5 => (rf04_Length.f k (wrap64 (1900 + (wrap64 (Int.tdiv x4 12)))) (wrap64 ((Int.tmod x4 12) + 1))).bind fun t336 => (if x5 ≥ t336 then ((rf04_Length.f k (wrap64 (1900 + (wrap64 (Int.tdiv x4 12)))) (wrap64 ((Int.tmod x4 12) + 1))).bind fun t337 => (rf04_Date.l0 k (wrap64 (x4 + 1)) (wrap64 (x5 - t337)))) else (some (wrap64 (1900 + (wrap64 (Int.tdiv x4 12))), wrap64 ((Int.tmod x4 12) + 1), wrap64 (x5 + 1), 0)))
def rf04_Date.f (k : Nat) (a0 : Int) : Option (Int × Int × Int × Int) := (rf04_Is.f a0).bind fun t335 => (if t335 = true then (rf04_Date.l0 k 0 a0) else (some (0, 0, 0, 11)))
theorem rf04_Date.calls (k : Nat) (a0 r1 r2 r3 r4 : Int) (w : World) (h : rf04_Date.f k a0 = some (r1, r2, r3, r4)) :
  Calls Tryd.prog 48 #[.int .i64 a0] w fun e w' => e = .returned (.tuple #[.agg #[.int .i64 r1, .int .i64 r2, .int .i64 r3], .int .i64 r4]) ∧ Below w.heap.size w w' := by
 have hu81 := Tryd.underlying81
 have HB := sd (Below.refl w.heap.size w)
 have H := h
 clear h
 unfold rf04_Date.f at H
 replace H := bdI H
 obtain ⟨t335, A2, H⟩ := H
 (try dsimp only at H)
 by_cases c3 : t335 = true
 ·subst c3
  rw [if_pos rfl] at H
  have H' := sd H
  clear H
  go_enter Tryd.func48, Tryd.ntmps48
  go_wp2_with (first | ((with_reducible refine gate_dst (N := 2) rfl ?_); refine bxA 2 #[.int .i64 0, .int .i64 0, .int .i64 0] 81 ?_; intro gb334 hg w4 hbox hb; have BK334 := sd (hbox); have GW334 := gem hg HB; have GE334 := GW334; replace HB := hbm HB hb; clear hb hbox hg) | ((with_reducible refine gate_callee (f := 74) rfl ?_); refine gL 7 Tryd.func74 #[.int .i64 a0] ?_; (with_reducible refine (rf04_Is.calls a0 true _ A2.out).mono ?_); rintro e w' ⟨rfl, ⟨nd, rfl⟩⟩; refine ⟨_, rfl, ?_⟩))
  go_loopg [4, 5] k (fun kq v4 v5 w' => ∃ (x4_1 : Int) (x5_1 : Int), v4 = .int .i64 x4_1 ∧ v5 = .int .i64 x5_1 ∧ Aside0 (rf04_Date.l0 kq x4_1 x5_1 = some (r1, r2, r3, r4)) ∧ Aside0 (kq ≤ k) ∧ Aside0 (w'.heap[gb334]? = some (.cells #[.int .i64 0, .int .i64 0, .int .i64 0] 81 (0, 0))) ∧ Aside0 (Below w.heap.size w w'))
  case atStart => exact ⟨(0), (a0), zq1, zq1, H', ⟨Nat.le_refl _⟩, ⟨zq35⟩, ⟨zq36⟩⟩
  case round =>
   clear H'
   try clear p2
   try clear c3
   try clear c4
   obtain ⟨x4_1, x5_1, rfl, rfl, HA, HK1, BK334, HB⟩ := hrel
   cases gk with
   | zero => exact absurd HA.out (by simp [rf04_Date.l0])
   | succ k1 =>
    have H := HA.out
    clear HA
    simp only [rf04_Date.l0] at H
    replace H := bdI H
    obtain ⟨t336, A5, H⟩ := H
    (try dsimp only at H)
    replace H := ifI H
    rcases H with ⟨c6, H⟩ | ⟨c6, H⟩
    ·have c6b0 : decide (t336 ≤ x5_1) = true := decide_eq_true c6
     clear c6
     replace H := bdI H
     obtain ⟨t337, A7, H⟩ := H
     (try dsimp only at H)
     have H' := sd H
     clear H
     go_wp2_with (first | ((with_reducible refine gate_callee (f := 49) rfl ?_); refine gL 18 Tryd.func49 #[.int .i64 (wrap64 (1900 + (wrap64 (Int.tdiv x4_1 12)))), .int .i64 (wrap64 ((Int.tmod x4_1 12) + 1))] ?_; (with_reducible refine (rf04_Length.calls k1 (wrap64 (1900 + (wrap64 (Int.tdiv x4_1 12)))) (wrap64 ((Int.tmod x4_1 12) + 1)) t336 _ A5.out).mono ?_); rintro e w8 ⟨rfl, hb⟩; refine ⟨_, rfl, ?_⟩; replace BK334 := bkm BK334 hb; replace HB := hbm HB hb; clear hb) | ((with_reducible refine gate_callee (f := 49) rfl ?_); refine gL 27 Tryd.func49 #[.int .i64 (wrap64 (1900 + (wrap64 (Int.tdiv x4_1 12)))), .int .i64 (wrap64 ((Int.tmod x4_1 12) + 1))] ?_; (with_reducible refine (rf04_Length.calls k1 (wrap64 (1900 + (wrap64 (Int.tdiv x4_1 12)))) (wrap64 ((Int.tmod x4_1 12) + 1)) t337 _ A7.out).mono ?_); rintro e w9 ⟨rfl, hb⟩; refine ⟨_, rfl, ?_⟩; replace BK334 := bkm BK334 hb; replace HB := hbm HB hb; clear hb))
     go_roundg k1
     case measure => have := HK1.out; omega
     case rel => exact ⟨(wrap64 (x4_1 + 1)), (wrap64 (x5_1 - t337)), zq1, zq1, H', ⟨by have := HK1.out; omega⟩, ⟨zq35⟩, ⟨zq36⟩⟩
    have c6b0 : decide (t336 ≤ x5_1) = false := decide_eq_false c6
    clear c6
    simp only [Option.some.injEq, Prod.mk.injEq] at H
    obtain ⟨rfl, rfl, rfl, rfl⟩ := H
    go_wp2_with (first | ((with_reducible refine gate_callee (f := 49) rfl ?_); refine gL 18 Tryd.func49 #[.int .i64 (wrap64 (1900 + (wrap64 (Int.tdiv x4_1 12)))), .int .i64 (wrap64 ((Int.tmod x4_1 12) + 1))] ?_; (with_reducible refine (rf04_Length.calls k1 (wrap64 (1900 + (wrap64 (Int.tdiv x4_1 12)))) (wrap64 ((Int.tmod x4_1 12) + 1)) t336 _ A5.out).mono ?_); rintro e w10 ⟨rfl, hb⟩; refine ⟨_, rfl, ?_⟩; replace BK334 := bkm BK334 hb; replace HB := hbm HB hb; clear hb; obtain ⟨_, _, _, _, _, _⟩ := bk3 BK334))
    refine bodyPost_ret (results_ct rfl _ _ gb334 81 #[.int .i64 (wrap64 (1900 + (wrap64 (Int.tdiv x4_1 12)))), .int .i64 (wrap64 ((Int.tmod x4_1 12) + 1)), .int .i64 (wrap64 (x5_1 + 1))] (0, 0) _ rfl (by (with_reducible repeat (first | refine blk_drewN ?_ _ | refine blk_drew ?_ | refine blk_alloc ?_ _)); refine blk_put (cs := #[.int .i64 (wrap64 (1900 + (wrap64 (Int.tdiv x4_1 12)))), .int .i64 (wrap64 ((Int.tmod x4_1 12) + 1)), .int .i64 0]) ?_ 2 _ rfl; (with_reducible repeat (first | refine blk_drewN ?_ _ | refine blk_drew ?_ | refine blk_alloc ?_ _)); refine blk_put (cs := #[.int .i64 (wrap64 (1900 + (wrap64 (Int.tdiv x4_1 12)))), .int .i64 0, .int .i64 0]) ?_ 1 _ rfl; (with_reducible repeat (first | refine blk_drewN ?_ _ | refine blk_drew ?_ | refine blk_alloc ?_ _)); refine blk_put (cs := #[.int .i64 0, .int .i64 0, .int .i64 0]) ?_ 0 _ rfl; (with_reducible repeat (first | refine blk_drewN ?_ _ | refine blk_drew ?_ | refine blk_alloc ?_ _)); exact BK334.out) Tryd.underlying81 rfl (by kernel_rfl)) rfl ?_
    exact ⟨zq8, zq36⟩
 replace c3 := Bool.eq_false_iff.mpr c3
 subst c3
 rw [if_neg Bool.false_ne_true] at H
 simp only [Option.some.injEq, Prod.mk.injEq] at H
 obtain ⟨rfl, rfl, rfl, rfl⟩ := H
 go_enter Tryd.func48, Tryd.ntmps48
 go_wp2_with (first | ((with_reducible refine gate_dst (N := 2) rfl ?_); refine bxA 2 #[.int .i64 0, .int .i64 0, .int .i64 0] 81 ?_; intro gb334 hg w12 hbox hb; have BK334 := sd (hbox); have GW334 := gem hg HB; have GE334 := GW334; replace HB := hbm HB hb; clear hb hbox hg) | ((with_reducible refine gate_callee (f := 74) rfl ?_); refine gL 7 Tryd.func74 #[.int .i64 a0] ?_; (with_reducible refine (rf04_Is.calls a0 false _ A2.out).mono ?_); rintro e w' ⟨rfl, ⟨nd, rfl⟩⟩; refine ⟨_, rfl, ?_⟩; (try (rw [drewN_self w12]; generalize hq_ : World.drewN w12 _ = w12; have n0_ : Aside0 (w12.heap[gb334]? = some (.cells #[.int .i64 0, .int .i64 0, .int .i64 0] 81 (0, 0))) := ⟨by rw [← hq_]; exact zq35⟩; have n1_ : Aside0 (Below w.heap.size w w12) := ⟨by rw [← hq_]; exact zq36⟩; clear BK334 HB hq_; have BK334 := n0_; have HB := n1_; clear n0_ n1_; (try (have hdBK334_0 := (blk_cell BK334.out 0).trans rfl; have heBK334_0 := blk_frozen BK334.out 0; have hdBK334_1 := (blk_cell BK334.out 1).trans rfl; have heBK334_1 := blk_frozen BK334.out 1; have hdBK334_2 := (blk_cell BK334.out 2).trans rfl; have heBK334_2 := blk_frozen BK334.out 2)))); obtain ⟨_, _, _, _, _, _⟩ := bk3 BK334))
 refine bodyPost_ret (results_ct rfl _ _ gb334 81 #[.int .i64 0, .int .i64 0, .int .i64 0] (0, 0) _ rfl (by (with_reducible repeat (first | refine blk_drewN ?_ _ | refine blk_drew ?_ | refine blk_alloc ?_ _)); refine blk_put (cs := #[.int .i64 0, .int .i64 0, .int .i64 0]) ?_ 2 _ rfl; (with_reducible repeat (first | refine blk_drewN ?_ _ | refine blk_drew ?_ | refine blk_alloc ?_ _)); refine blk_put (cs := #[.int .i64 0, .int .i64 0, .int .i64 0]) ?_ 1 _ rfl; (with_reducible repeat (first | refine blk_drewN ?_ _ | refine blk_drew ?_ | refine blk_alloc ?_ _)); refine blk_put (cs := #[.int .i64 0, .int .i64 0, .int .i64 0]) ?_ 0 _ rfl; (with_reducible repeat (first | refine blk_drewN ?_ _ | refine blk_drew ?_ | refine blk_alloc ?_ _)); exact BK334.out) Tryd.underlying81 rfl (by kernel_rfl)) rfl ?_
 exact ⟨zq8, zq36⟩
def rf04_MonthEnd.f (k : Nat) (a0 : Int) : Option (Int × Int) := (rf04_Date.f k a0).bind fun bt338 => (if bt338.2.2.2 = 0 then ((rf04_Length.f k bt338.1 bt338.2.1).bind fun t343 => (some (wrap64 ((wrap64 (a0 - bt338.2.2.1)) + t343), 0))) else (some (0, bt338.2.2.2)))
def rf04_MonthEnd.T4 : Bool × List (List Nat × List Nat) := (true, [([], []), ([], []), ([1], [1]), ([0, 2], [0, 2]), ([], []), ([4], [4]), ([], []), ([6], [6]), ([5, 7], [5, 7]), ([3, 8], [3, 8]), ([9, 8, 0, 1, 2, 3, 4, 5, 6, 7, 8, 9], [9]), ([10, 0, 1, 2, 3, 4, 5, 6, 7, 8, 9, 10], [])])
def rf04_MonthEnd.B4 : List Nat := [0, 0, 2, 7, 0, 16, 0, 64, 240, 511, 1023, 2047]
theorem rf04_MonthEnd.tab4 : rtab .any (opsOf Tryd.f33 4) = rf04_MonthEnd.T4 := by kernel_rfl
theorem rf04_MonthEnd.bits4 : waitsOk rf04_MonthEnd.T4.2 rf04_MonthEnd.B4 = true := by kernel_rfl
theorem rf04_MonthEnd.calls (k : Nat) (a0 r1 r2 : Int) (w : World) (h : rf04_MonthEnd.f k a0 = some (r1, r2)) :
  Calls Tryd.prog 33 #[.int .i64 a0] w fun e w' => e = .returned (.tuple #[.int .i64 r1, .int .i64 r2]) ∧ Below w.heap.size w w' := by
 have hu81 := Tryd.underlying81
 have HB := sd (Below.refl w.heap.size w)
 have H := h
 clear h
 unfold rf04_MonthEnd.f at H
 replace H := bdI H
 obtain ⟨⟨t338, t339, t340, t341⟩, A2, H⟩ := H
 (try dsimp only at H)
 replace H := ifI H
 rcases H with ⟨c3, H⟩ | ⟨c3, H⟩
 ·obtain ⟨c3b0, c3b1⟩ := eqI c3
  clear c3
  replace H := bdI H
  obtain ⟨t343, A4, H⟩ := H
  (try dsimp only at H)
  simp only [Option.some.injEq, Prod.mk.injEq] at H
  obtain ⟨rfl, rfl⟩ := H
  go_enter Tryd.func33, Tryd.ntmps33
  try go_wp2_with (first | ((with_reducible refine gate_callee (f := 48) rfl ?_); refine gL 8 Tryd.func48 #[.int .i64 a0] ?_; (with_reducible refine (rf04_Date.calls k a0 t338 t339 t340 t341 _ A2.out).mono ?_); rintro e w5 ⟨rfl, hb⟩; refine ⟨_, rfl, ?_⟩; replace HB := hbm HB hb; clear hb) | ((with_reducible refine gate_dst (N := 4) rfl ?_); refine bxA 4 #[.int .i64 0, .int .i64 0, .int .i64 0] 81 ?_; intro gb342 hg w6 hbox hb; have BK342 := sd (hbox); have GW342 := gem hg HB; have GE342 := GW342; replace HB := hbm HB hb; clear hb hbox hg; obtain ⟨_, _, _, _, _, _⟩ := bk3 BK342))
  have n0_ : Aside0 ((((w6.setCell ⟨gb342, 0, none⟩ (.int .i64 t338)).setCell ⟨gb342, 1, none⟩ (.int .i64 t339)).setCell ⟨gb342, 2, none⟩ (.int .i64 t340)).heap[gb342]? = some (.cells #[.int .i64 t338, .int .i64 t339, .int .i64 t340] 81 (0, 0))) := ⟨by (with_reducible repeat (first | refine blk_drewN ?_ _ | refine blk_drew ?_ | refine blk_alloc ?_ _)); refine blk_put (cs := #[.int .i64 t338, .int .i64 t339, .int .i64 0]) ?_ 2 _ rfl; (with_reducible repeat (first | refine blk_drewN ?_ _ | refine blk_drew ?_ | refine blk_alloc ?_ _)); refine blk_put (cs := #[.int .i64 t338, .int .i64 0, .int .i64 0]) ?_ 1 _ rfl; (with_reducible repeat (first | refine blk_drewN ?_ _ | refine blk_drew ?_ | refine blk_alloc ?_ _)); refine blk_put (cs := #[.int .i64 0, .int .i64 0, .int .i64 0]) ?_ 0 _ rfl; (with_reducible repeat (first | refine blk_drewN ?_ _ | refine blk_drew ?_ | refine blk_alloc ?_ _)); exact BK342.out⟩
  have n1_ : Aside0 (Below w.heap.size w (((w6.setCell ⟨gb342, 0, none⟩ (.int .i64 t338)).setCell ⟨gb342, 1, none⟩ (.int .i64 t339)).setCell ⟨gb342, 2, none⟩ (.int .i64 t340))) := ⟨zq37⟩
  (try clear BK342)
  (try clear HB)
  generalize (((w6.setCell ⟨gb342, 0, none⟩ (.int .i64 t338)).setCell ⟨gb342, 1, none⟩ (.int .i64 t339)).setCell ⟨gb342, 2, none⟩ (.int .i64 t340)) = w8 at n0_ n1_ ⊢
  have BK342 := n0_
  have HB := n1_
  clear n0_ n1_
  replace BK342 := sd (blk_drew BK342.out)
  replace HB := sd (below_drew1 HB.out)
  refine start_ (n := 12) (S := fun w' => w'.cell? ⟨gb342, 0, none⟩ = some (.int .i64 t338) ∧ w'.cell? ⟨gb342, 1, none⟩ = some (.int .i64 t339) ∧ w'.cell? ⟨gb342, 2, none⟩ = some (.int .i64 t340)) (ds := []) #[false, false, false, false, false, false, false, false, false, false, false, false] (by kernel_rfl) rfl rfl ⟨(blk_cell BK342.out 0).trans rfl, (blk_cell BK342.out 1).trans rfl, (blk_cell BK342.out 2).trans rfl⟩ (fun hHeld => ?_); refine with_tabW rf04_MonthEnd.tab4 rf04_MonthEnd.bits4 (fun HT_ HW_ => ?_)
  generalize w8.drew = w9 at BK342 HB hHeld ⊢
  refine pA 0 14 HT_.out ?_
  refine pA 1 15 HT_.out ?_
  refine pA 4 18 HT_.out ?_
  refine pA 6 20 HT_.out ?_
  refine tA 2 16 HT_.out HW_.out hHeld ?_
  refine pA 3 17 HT_.out ?_
  refine tA 5 19 HT_.out HW_.out hHeld ?_
  refine tA 7 21 HT_.out HW_.out hHeld ?_
  refine one_ (i := 8) (N := some 22) #[true, true, true, true, true, true, true, true, true, false, false, false] rfl rfl (one_of HT_.out (by kernel_rfl)) (by decide) (fun K hK => ?_)
  refine goes_ Tryd.func49 (by kernel_rfl) rfl #[.int .i64 t338, .int .i64 t339] (by rfl) rfl rfl zq38 ?_
  with_reducible refine (rf04_Length.calls k t338 t339 t343 _ A4.out).mono ?_
  rintro e w10 ⟨rfl, hb⟩
  refine ⟨_, rfl, ?_⟩
  replace BK342 := bkm BK342 hb
  replace HB := hbm HB hb
  clear hb
  refine hK.out _ _ ⟨(blk_cell BK342.out 0).trans rfl, (blk_cell BK342.out 1).trans rfl, (blk_cell BK342.out 2).trans rfl⟩ (fun hHeld => ?_)
  clear hK K
  refine nA 22 ?_
  refine pA 9 23 HT_.out ?_
  refine pA 10 2 HT_.out ?_
  refine pA 11 3 HT_.out ?_
  refine done_ (done_of HT_.out (by kernel_rfl)) ?_
  try go_wp2
  go_ret2
  exact ⟨zq8, zq37⟩
 obtain ⟨c3b0, c3b1⟩ := neI c3
 simp only [Option.some.injEq, Prod.mk.injEq] at H
 obtain ⟨rfl, rfl⟩ := H
 go_enter Tryd.func33, Tryd.ntmps33
 go_wp2_with (first | ((with_reducible refine gate_callee (f := 48) rfl ?_); refine gL 8 Tryd.func48 #[.int .i64 a0] ?_; (with_reducible refine (rf04_Date.calls k a0 t338 t339 t340 t341 _ A2.out).mono ?_); rintro e w11 ⟨rfl, hb⟩; refine ⟨_, rfl, ?_⟩; replace HB := hbm HB hb; clear hb) | ((with_reducible refine gate_dst (N := 4) rfl ?_); refine bxA 4 #[.int .i64 0, .int .i64 0, .int .i64 0] 81 ?_; intro gb342 hg w12 hbox hb; have BK342 := sd (hbox); have GW342 := gem hg HB; have GE342 := GW342; replace HB := hbm HB hb; clear hb hbox hg; obtain ⟨_, _, _, _, _, _⟩ := bk3 BK342))
 go_ret2
 exact ⟨zq8, zq37⟩
def rf24_Due.f (k : Nat) (a0_0 : Int) (a0_1 : Bool) (l0_2 : List (S53)) (a1 : Int) : Option (Int × Int) := (rf24_Right.f k a0_0 a0_1 l0_2).bind fun t345 => (if t345 = true then ((rf24_day.f a1).bind fun t346 => (if t346 = true then (if a0_1 = true then ((rf04_MonthEnd.f k a1).bind fun bt347 => ((rf24_day.f (wrap64 (bt347.1 + a0_0))).bind fun t349 => (if t349 = true then (some (wrap64 (bt347.1 + a0_0), 0)) else (some (0, 11))))) else ((rf24_day.f (wrap64 (a1 + a0_0))).bind fun t350 => (if t350 = true then (some (wrap64 (a1 + a0_0), 0)) else (some (0, 11))))) else (some (0, 11)))) else (some (0, 2)))
theorem rf24_Due.calls (k : Nat) (a0_0 : Int) (a0_1 : Bool) (A0_2 : Option Addr) (c0_2 : Nat) (l0_2 : List (S53)) (a1 r1 r2 : Int) (w : World) (hr0_2 : Kd.C k53 w A0_2 l0_2.length l0_2) (hc0_2 : l0_2.length ≤ c0_2) (h : rf24_Due.f k a0_0 a0_1 l0_2 a1 = some (r1, r2)) :
  Calls Tryd.prog 15 #[.agg #[.int .i64 a0_0, .bool a0_1, .slice A0_2 l0_2.length c0_2], .int .i64 a1] w fun e w' => e = .returned (.tuple #[.int .i64 r1, .int .i64 r2]) ∧ Below w.heap.size w w' := by
 have hu24 := Tryd.underlying24
 have HR0_2 := sd hr0_2
 have HC0_2 := sd hc0_2
 clear hr0_2 hc0_2
 have HB := sd (Below.refl w.heap.size w)
 have H := h
 clear h
 unfold rf24_Due.f at H
 replace H := bdI H
 obtain ⟨t345, A3, H⟩ := H
 (try dsimp only at H)
 by_cases c4 : t345 = true
 ·subst c4
  rw [if_pos rfl] at H
  replace H := bdI H
  obtain ⟨t346, A5, H⟩ := H
  (try dsimp only at H)
  by_cases c6 : t346 = true
  ·subst c6
   rw [if_pos rfl] at H
   by_cases c7 : a0_1 = true
   ·subst c7
    rw [if_pos rfl] at H
    replace H := bdI H
    obtain ⟨⟨t347, t348⟩, A8, H⟩ := H
    (try dsimp only at H)
    replace H := bdI H
    obtain ⟨t349, A9, H⟩ := H
    (try dsimp only at H)
    by_cases c10 : t349 = true
    ·subst c10
     rw [if_pos rfl] at H
     simp only [Option.some.injEq, Prod.mk.injEq] at H
     obtain ⟨rfl, rfl⟩ := H
     go_enter Tryd.func15, Tryd.ntmps15
     go_wp2_with (first | ((with_reducible refine gate_dst (N := 2) rfl ?_); refine bxA 2 #[.int .i64 a0_0, .bool true, .slice A0_2 l0_2.length c0_2] 24 ?_; intro gb344 hg w11 hbox hb; have BK344 := sd (hbox); have GW344 := gem hg HB; have GE344 := GW344; replace HB := hbm HB hb; clear hb hbox hg; obtain ⟨_, _, _, _, _, _⟩ := bk3 BK344) | ((with_reducible refine gate_callee (f := 13) rfl ?_); refine gL 7 Tryd.func13 #[.agg #[.int .i64 a0_0, .bool true, .slice A0_2 l0_2.length c0_2]] ?_; (with_reducible refine (rf24_Right.calls k a0_0 true _ _ l0_2 true _ ?side1 ?side2 A3.out).mono ?_); (case side1 => exact zq32); (case side2 => exact HC0_2.out); rintro e w13 ⟨rfl, hb⟩; refine ⟨_, rfl, ?_⟩; replace BK344 := bkm BK344 hb; replace HB := hbm HB hb; clear hb) | ((with_reducible refine gate_callee (f := 32) rfl ?_); refine gL 10 Tryd.func32 #[.int .i64 a1] ?_; (with_reducible refine (rf24_day.calls a1 true _ A5.out).mono ?_); rintro e w' ⟨rfl, ⟨nd, rfl⟩⟩; refine ⟨_, rfl, ?_⟩; obtain ⟨_, _, _, _, _, _⟩ := bk3 BK344) | ((with_reducible refine gate_callee (f := 33) rfl ?_); refine gL 16 Tryd.func33 #[.int .i64 a1] ?_; (with_reducible refine (rf04_MonthEnd.calls k a1 t347 t348 _ A8.out).mono ?_); rintro e w15 ⟨rfl, hb⟩; refine ⟨_, rfl, ?_⟩; replace BK344 := bkm BK344 hb; replace HB := hbm HB hb; clear hb; obtain ⟨_, _, _, _, _, _⟩ := bk3 BK344) | ((with_reducible refine gate_callee (f := 32) rfl ?_); refine gL 23 Tryd.func32 #[.int .i64 (wrap64 (t347 + a0_0))] ?_; (with_reducible refine (rf24_day.calls (wrap64 (t347 + a0_0)) true _ A9.out).mono ?_); rintro e w' ⟨rfl, ⟨nd, rfl⟩⟩; refine ⟨_, rfl, ?_⟩))
     go_ret2
     exact ⟨zq8, zq39⟩
    replace c10 := Bool.eq_false_iff.mpr c10
    subst c10
    rw [if_neg Bool.false_ne_true] at H
    simp only [Option.some.injEq, Prod.mk.injEq] at H
    obtain ⟨rfl, rfl⟩ := H
    go_enter Tryd.func15, Tryd.ntmps15
    go_wp2_with (first | ((with_reducible refine gate_dst (N := 2) rfl ?_); refine bxA 2 #[.int .i64 a0_0, .bool true, .slice A0_2 l0_2.length c0_2] 24 ?_; intro gb344 hg w17 hbox hb; have BK344 := sd (hbox); have GW344 := gem hg HB; have GE344 := GW344; replace HB := hbm HB hb; clear hb hbox hg; obtain ⟨_, _, _, _, _, _⟩ := bk3 BK344) | ((with_reducible refine gate_callee (f := 13) rfl ?_); refine gL 7 Tryd.func13 #[.agg #[.int .i64 a0_0, .bool true, .slice A0_2 l0_2.length c0_2]] ?_; (with_reducible refine (rf24_Right.calls k a0_0 true _ _ l0_2 true _ ?side1 ?side2 A3.out).mono ?_); (case side1 => exact zq32); (case side2 => exact HC0_2.out); rintro e w19 ⟨rfl, hb⟩; refine ⟨_, rfl, ?_⟩; replace BK344 := bkm BK344 hb; replace HB := hbm HB hb; clear hb) | ((with_reducible refine gate_callee (f := 32) rfl ?_); refine gL 10 Tryd.func32 #[.int .i64 a1] ?_; (with_reducible refine (rf24_day.calls a1 true _ A5.out).mono ?_); rintro e w' ⟨rfl, ⟨nd, rfl⟩⟩; refine ⟨_, rfl, ?_⟩; obtain ⟨_, _, _, _, _, _⟩ := bk3 BK344) | ((with_reducible refine gate_callee (f := 33) rfl ?_); refine gL 16 Tryd.func33 #[.int .i64 a1] ?_; (with_reducible refine (rf04_MonthEnd.calls k a1 t347 t348 _ A8.out).mono ?_); rintro e w21 ⟨rfl, hb⟩; refine ⟨_, rfl, ?_⟩; replace BK344 := bkm BK344 hb; replace HB := hbm HB hb; clear hb; obtain ⟨_, _, _, _, _, _⟩ := bk3 BK344) | ((with_reducible refine gate_callee (f := 32) rfl ?_); refine gL 23 Tryd.func32 #[.int .i64 (wrap64 (t347 + a0_0))] ?_; (with_reducible refine (rf24_day.calls (wrap64 (t347 + a0_0)) false _ A9.out).mono ?_); rintro e w' ⟨rfl, ⟨nd, rfl⟩⟩; refine ⟨_, rfl, ?_⟩))
    go_ret2
    exact ⟨zq8, zq39⟩
   replace c7 := Bool.eq_false_iff.mpr c7
   subst c7
   rw [if_neg Bool.false_ne_true] at H
   replace H := bdI H
   obtain ⟨t350, A23, H⟩ := H
   (try dsimp only at H)
   by_cases c24 : t350 = true
   ·subst c24
    rw [if_pos rfl] at H
    simp only [Option.some.injEq, Prod.mk.injEq] at H
    obtain ⟨rfl, rfl⟩ := H
    go_enter Tryd.func15, Tryd.ntmps15
    go_wp2_with (first | ((with_reducible refine gate_dst (N := 2) rfl ?_); refine bxA 2 #[.int .i64 a0_0, .bool false, .slice A0_2 l0_2.length c0_2] 24 ?_; intro gb344 hg w25 hbox hb; have BK344 := sd (hbox); have GW344 := gem hg HB; have GE344 := GW344; replace HB := hbm HB hb; clear hb hbox hg; obtain ⟨_, _, _, _, _, _⟩ := bk3 BK344) | ((with_reducible refine gate_callee (f := 13) rfl ?_); refine gL 7 Tryd.func13 #[.agg #[.int .i64 a0_0, .bool false, .slice A0_2 l0_2.length c0_2]] ?_; (with_reducible refine (rf24_Right.calls k a0_0 false _ _ l0_2 true _ ?side1 ?side2 A3.out).mono ?_); (case side1 => exact zq32); (case side2 => exact HC0_2.out); rintro e w27 ⟨rfl, hb⟩; refine ⟨_, rfl, ?_⟩; replace BK344 := bkm BK344 hb; replace HB := hbm HB hb; clear hb) | ((with_reducible refine gate_callee (f := 32) rfl ?_); refine gL 10 Tryd.func32 #[.int .i64 a1] ?_; (with_reducible refine (rf24_day.calls a1 true _ A5.out).mono ?_); rintro e w' ⟨rfl, ⟨nd, rfl⟩⟩; refine ⟨_, rfl, ?_⟩; obtain ⟨_, _, _, _, _, _⟩ := bk3 BK344) | ((with_reducible refine gate_callee (f := 32) rfl ?_); refine gL 23 Tryd.func32 #[.int .i64 (wrap64 (a1 + a0_0))] ?_; (with_reducible refine (rf24_day.calls (wrap64 (a1 + a0_0)) true _ A23.out).mono ?_); rintro e w' ⟨rfl, ⟨nd, rfl⟩⟩; refine ⟨_, rfl, ?_⟩))
    go_ret2
    exact ⟨zq8, zq39⟩
   replace c24 := Bool.eq_false_iff.mpr c24
   subst c24
   rw [if_neg Bool.false_ne_true] at H
   simp only [Option.some.injEq, Prod.mk.injEq] at H
   obtain ⟨rfl, rfl⟩ := H
   go_enter Tryd.func15, Tryd.ntmps15
   go_wp2_with (first | ((with_reducible refine gate_dst (N := 2) rfl ?_); refine bxA 2 #[.int .i64 a0_0, .bool false, .slice A0_2 l0_2.length c0_2] 24 ?_; intro gb344 hg w29 hbox hb; have BK344 := sd (hbox); have GW344 := gem hg HB; have GE344 := GW344; replace HB := hbm HB hb; clear hb hbox hg; obtain ⟨_, _, _, _, _, _⟩ := bk3 BK344) | ((with_reducible refine gate_callee (f := 13) rfl ?_); refine gL 7 Tryd.func13 #[.agg #[.int .i64 a0_0, .bool false, .slice A0_2 l0_2.length c0_2]] ?_; (with_reducible refine (rf24_Right.calls k a0_0 false _ _ l0_2 true _ ?side1 ?side2 A3.out).mono ?_); (case side1 => exact zq32); (case side2 => exact HC0_2.out); rintro e w31 ⟨rfl, hb⟩; refine ⟨_, rfl, ?_⟩; replace BK344 := bkm BK344 hb; replace HB := hbm HB hb; clear hb) | ((with_reducible refine gate_callee (f := 32) rfl ?_); refine gL 10 Tryd.func32 #[.int .i64 a1] ?_; (with_reducible refine (rf24_day.calls a1 true _ A5.out).mono ?_); rintro e w' ⟨rfl, ⟨nd, rfl⟩⟩; refine ⟨_, rfl, ?_⟩; obtain ⟨_, _, _, _, _, _⟩ := bk3 BK344) | ((with_reducible refine gate_callee (f := 32) rfl ?_); refine gL 23 Tryd.func32 #[.int .i64 (wrap64 (a1 + a0_0))] ?_; (with_reducible refine (rf24_day.calls (wrap64 (a1 + a0_0)) false _ A23.out).mono ?_); rintro e w' ⟨rfl, ⟨nd, rfl⟩⟩; refine ⟨_, rfl, ?_⟩))
   go_ret2
   exact ⟨zq8, zq39⟩
  replace c6 := Bool.eq_false_iff.mpr c6
  subst c6
  rw [if_neg Bool.false_ne_true] at H
  simp only [Option.some.injEq, Prod.mk.injEq] at H
  obtain ⟨rfl, rfl⟩ := H
  go_enter Tryd.func15, Tryd.ntmps15
  go_wp2_with (first | ((with_reducible refine gate_dst (N := 2) rfl ?_); refine bxA 2 #[.int .i64 a0_0, .bool a0_1, .slice A0_2 l0_2.length c0_2] 24 ?_; intro gb344 hg w33 hbox hb; have BK344 := sd (hbox); have GW344 := gem hg HB; have GE344 := GW344; replace HB := hbm HB hb; clear hb hbox hg; obtain ⟨_, _, _, _, _, _⟩ := bk3 BK344) | ((with_reducible refine gate_callee (f := 13) rfl ?_); refine gL 7 Tryd.func13 #[.agg #[.int .i64 a0_0, .bool a0_1, .slice A0_2 l0_2.length c0_2]] ?_; (with_reducible refine (rf24_Right.calls k a0_0 a0_1 _ _ l0_2 true _ ?side1 ?side2 A3.out).mono ?_); (case side1 => exact zq32); (case side2 => exact HC0_2.out); rintro e w35 ⟨rfl, hb⟩; refine ⟨_, rfl, ?_⟩; replace BK344 := bkm BK344 hb; replace HB := hbm HB hb; clear hb) | ((with_reducible refine gate_callee (f := 32) rfl ?_); refine gL 10 Tryd.func32 #[.int .i64 a1] ?_; (with_reducible refine (rf24_day.calls a1 false _ A5.out).mono ?_); rintro e w' ⟨rfl, ⟨nd, rfl⟩⟩; refine ⟨_, rfl, ?_⟩))
  go_ret2
  exact ⟨zq8, zq39⟩
 replace c4 := Bool.eq_false_iff.mpr c4
 subst c4
 rw [if_neg Bool.false_ne_true] at H
 simp only [Option.some.injEq, Prod.mk.injEq] at H
 obtain ⟨rfl, rfl⟩ := H
 go_enter Tryd.func15, Tryd.ntmps15
 go_wp2_with (first | ((with_reducible refine gate_dst (N := 2) rfl ?_); refine bxA 2 #[.int .i64 a0_0, .bool a0_1, .slice A0_2 l0_2.length c0_2] 24 ?_; intro gb344 hg w36 hbox hb; have BK344 := sd (hbox); have GW344 := gem hg HB; have GE344 := GW344; replace HB := hbm HB hb; clear hb hbox hg; obtain ⟨_, _, _, _, _, _⟩ := bk3 BK344) | ((with_reducible refine gate_callee (f := 13) rfl ?_); refine gL 7 Tryd.func13 #[.agg #[.int .i64 a0_0, .bool a0_1, .slice A0_2 l0_2.length c0_2]] ?_; (with_reducible refine (rf24_Right.calls k a0_0 a0_1 _ _ l0_2 false _ ?side1 ?side2 A3.out).mono ?_); (case side1 => exact zq32); (case side2 => exact HC0_2.out); rintro e w38 ⟨rfl, hb⟩; refine ⟨_, rfl, ?_⟩; replace BK344 := bkm BK344 hb; replace HB := hbm HB hb; clear hb))
 go_ret2
 exact ⟨zq8, zq39⟩
def lw24_TermsDue.f (k : Nat) (a0_0 : Int) (a0_1 : Bool) (l0_2 : List (S53)) (a1 : Int) : Option (Bool) := if (l0_2.length : Int) > 20 then ((lw24_lives.f).bind fun t352 => (some t352)) else ((terms_Due.f k a0_0 a0_1 l0_2 a1).bind fun bt353 => ((rf24_Due.f k a0_0 a0_1 l0_2 a1).bind fun bt355 => (if bt353.1 = bt355.1 then (if bt353.2 = bt355.2 then ((lw24_lives.f).bind fun t357 => (some t357)) else (some false)) else (some false))))
theorem lw24_TermsDue.calls (k : Nat) (a0_0 : Int) (a0_1 : Bool) (A0_2 : Option Addr) (c0_2 : Nat) (l0_2 : List (S53)) (a1 : Int) (r : Bool) (w : World) (hr0_2 : Kd.C k53 w A0_2 l0_2.length l0_2) (hc0_2 : l0_2.length ≤ c0_2) (h : lw24_TermsDue.f k a0_0 a0_1 l0_2 a1 = some r) (hG : Gl w) :
  Calls Tryd.prog 4 #[.agg #[.int .i64 a0_0, .bool a0_1, .slice A0_2 l0_2.length c0_2], .int .i64 a1] w fun e w' => e = .returned (.bool r) ∧ Below w.heap.size w w' := by
 have HG := sd hG
 clear hG
 have hu24 := Tryd.underlying24
 have HR0_2 := sd hr0_2
 have HC0_2 := sd hc0_2
 clear hr0_2 hc0_2
 have HB := sd (Below.refl w.heap.size w)
 have H := h
 clear h
 unfold lw24_TermsDue.f at H
 replace H := ifI H
 rcases H with ⟨c3, H⟩ | ⟨c3, H⟩
 ·have c3b0 : decide (20 < (l0_2.length : Int)) = true := decide_eq_true c3
  have c3b1 : decide (20 < l0_2.length) = true := decide_eq_true (by omega)
  clear c3
  replace H := bdI H
  obtain ⟨t352, A4, H⟩ := H
  (try dsimp only at H)
  obtain rfl := Option.some.inj H
  go_enter Tryd.func4, Tryd.ntmps4
  go_wp2_with (first | ((with_reducible refine gate_dst (N := 2) rfl ?_); refine bxA 2 #[.int .i64 a0_0, .bool a0_1, .slice A0_2 l0_2.length c0_2] 24 ?_; intro gb351 hg w5 hbox hb; have BK351 := sd (hbox); have GW351 := gem hg HB; have GE351 := GW351; replace HB := hbm HB hb; clear hb hbox hg; obtain ⟨_, _, _, _, _, _⟩ := bk3 BK351) | ((with_reducible refine gate_callee (f := 9) rfl ?_); refine gL 13 Tryd.func9 #[] ?_; (with_reducible refine (lw24_lives.calls  t352 _ A4.out (gl_below HG.out zq82)).mono ?_); rintro e w7 ⟨rfl, hb⟩; refine ⟨_, rfl, ?_⟩; replace BK351 := bkm BK351 hb; replace HB := hbm HB hb; clear hb))
  go_ret
  exact ⟨zq8, zq83⟩
 have c3b0 : decide (20 < (l0_2.length : Int)) = false := decide_eq_false c3
 have c3b1 : decide (20 < l0_2.length) = false := decide_eq_false (by omega)
 clear c3
 replace H := bdI H
 obtain ⟨⟨t353, t354⟩, A8, H⟩ := H
 (try dsimp only at H)
 replace H := bdI H
 obtain ⟨⟨t355, t356⟩, A9, H⟩ := H
 (try dsimp only at H)
 replace H := ifI H
 rcases H with ⟨c10, H⟩ | ⟨c10, H⟩
 ·obtain ⟨c10b0, c10b1⟩ := eqI c10
  clear c10
  replace H := ifI H
  rcases H with ⟨c11, H⟩ | ⟨c11, H⟩
  ·obtain ⟨c11b0, c11b1⟩ := eqI c11
   clear c11
   replace H := bdI H
   obtain ⟨t357, A12, H⟩ := H
   (try dsimp only at H)
   obtain rfl := Option.some.inj H
   go_enter Tryd.func4, Tryd.ntmps4
   go_wp2_with (first | ((with_reducible refine gate_dst (N := 2) rfl ?_); refine bxA 2 #[.int .i64 a0_0, .bool a0_1, .slice A0_2 l0_2.length c0_2] 24 ?_; intro gb351 hg w13 hbox hb; have BK351 := sd (hbox); have GW351 := gem hg HB; have GE351 := GW351; replace HB := hbm HB hb; clear hb hbox hg; obtain ⟨_, _, _, _, _, _⟩ := bk3 BK351) | ((with_reducible refine gate_callee (f := 14) rfl ?_); refine gL 17 Tryd.func14 #[.agg #[.int .i64 a0_0, .bool a0_1, .slice A0_2 l0_2.length c0_2], .int .i64 a1] ?_; (with_reducible refine (terms_Due.calls k a0_0 a0_1 _ _ l0_2 a1 t353 t354 _ ?side1 ?side2 A8.out (gl_below HG.out zq82)).mono ?_); (case side1 => exact zq32); (case side2 => exact HC0_2.out); rintro e w15 ⟨rfl, hb⟩; refine ⟨_, rfl, ?_⟩; replace BK351 := bkm BK351 hb; replace HB := hbm HB hb; clear hb; obtain ⟨_, _, _, _, _, _⟩ := bk3 BK351) | ((with_reducible refine gate_callee (f := 15) rfl ?_); refine gL 23 Tryd.func15 #[.agg #[.int .i64 a0_0, .bool a0_1, .slice A0_2 l0_2.length c0_2], .int .i64 a1] ?_; (with_reducible refine (rf24_Due.calls k a0_0 a0_1 _ _ l0_2 a1 t355 t356 _ ?side1 ?side2 A9.out).mono ?_); (case side1 => exact zq32); (case side2 => exact HC0_2.out); rintro e w17 ⟨rfl, hb⟩; refine ⟨_, rfl, ?_⟩; replace BK351 := bkm BK351 hb; replace HB := hbm HB hb; clear hb) | (go_at_call 9; (with_reducible refine (lw24_lives.calls  t357 _ A12.out (gl_below HG.out zq82)).mono ?_); rintro e w18 ⟨rfl, hb⟩; replace BK351 := bkm BK351 hb; replace HB := hbm HB hb; clear hb))
   go_ret
   exact ⟨zq8, zq83⟩
  obtain ⟨c11b0, c11b1⟩ := neI c11
  obtain rfl := Option.some.inj H
  go_enter Tryd.func4, Tryd.ntmps4
  go_wp2_with (first | ((with_reducible refine gate_dst (N := 2) rfl ?_); refine bxA 2 #[.int .i64 a0_0, .bool a0_1, .slice A0_2 l0_2.length c0_2] 24 ?_; intro gb351 hg w19 hbox hb; have BK351 := sd (hbox); have GW351 := gem hg HB; have GE351 := GW351; replace HB := hbm HB hb; clear hb hbox hg; obtain ⟨_, _, _, _, _, _⟩ := bk3 BK351) | ((with_reducible refine gate_callee (f := 14) rfl ?_); refine gL 17 Tryd.func14 #[.agg #[.int .i64 a0_0, .bool a0_1, .slice A0_2 l0_2.length c0_2], .int .i64 a1] ?_; (with_reducible refine (terms_Due.calls k a0_0 a0_1 _ _ l0_2 a1 t353 t354 _ ?side1 ?side2 A8.out (gl_below HG.out zq82)).mono ?_); (case side1 => exact zq32); (case side2 => exact HC0_2.out); rintro e w21 ⟨rfl, hb⟩; refine ⟨_, rfl, ?_⟩; replace BK351 := bkm BK351 hb; replace HB := hbm HB hb; clear hb; obtain ⟨_, _, _, _, _, _⟩ := bk3 BK351) | ((with_reducible refine gate_callee (f := 15) rfl ?_); refine gL 23 Tryd.func15 #[.agg #[.int .i64 a0_0, .bool a0_1, .slice A0_2 l0_2.length c0_2], .int .i64 a1] ?_; (with_reducible refine (rf24_Due.calls k a0_0 a0_1 _ _ l0_2 a1 t355 t356 _ ?side1 ?side2 A9.out).mono ?_); (case side1 => exact zq32); (case side2 => exact HC0_2.out); rintro e w23 ⟨rfl, hb⟩; refine ⟨_, rfl, ?_⟩; replace BK351 := bkm BK351 hb; replace HB := hbm HB hb; clear hb))
  go_ret
  exact ⟨zq8, zq83⟩
 obtain ⟨c10b0, c10b1⟩ := neI c10
 obtain rfl := Option.some.inj H
 go_enter Tryd.func4, Tryd.ntmps4
 go_wp2_with (first | ((with_reducible refine gate_dst (N := 2) rfl ?_); refine bxA 2 #[.int .i64 a0_0, .bool a0_1, .slice A0_2 l0_2.length c0_2] 24 ?_; intro gb351 hg w24 hbox hb; have BK351 := sd (hbox); have GW351 := gem hg HB; have GE351 := GW351; replace HB := hbm HB hb; clear hb hbox hg; obtain ⟨_, _, _, _, _, _⟩ := bk3 BK351) | ((with_reducible refine gate_callee (f := 14) rfl ?_); refine gL 17 Tryd.func14 #[.agg #[.int .i64 a0_0, .bool a0_1, .slice A0_2 l0_2.length c0_2], .int .i64 a1] ?_; (with_reducible refine (terms_Due.calls k a0_0 a0_1 _ _ l0_2 a1 t353 t354 _ ?side1 ?side2 A8.out (gl_below HG.out zq82)).mono ?_); (case side1 => exact zq32); (case side2 => exact HC0_2.out); rintro e w26 ⟨rfl, hb⟩; refine ⟨_, rfl, ?_⟩; replace BK351 := bkm BK351 hb; replace HB := hbm HB hb; clear hb; obtain ⟨_, _, _, _, _, _⟩ := bk3 BK351) | ((with_reducible refine gate_callee (f := 15) rfl ?_); refine gL 23 Tryd.func15 #[.agg #[.int .i64 a0_0, .bool a0_1, .slice A0_2 l0_2.length c0_2], .int .i64 a1] ?_; (with_reducible refine (rf24_Due.calls k a0_0 a0_1 _ _ l0_2 a1 t355 t356 _ ?side1 ?side2 A9.out).mono ?_); (case side1 => exact zq32); (case side2 => exact HC0_2.out); rintro e w28 ⟨rfl, hb⟩; refine ⟨_, rfl, ?_⟩; replace BK351 := bkm BK351 hb; replace HB := hbm HB hb; clear hb))
 go_ret
 exact ⟨zq8, zq83⟩
end Go.Proofs.YtelfiofnhchmbaaDoor.A
namespace Go.Proofs.YtelfiofnhchmbaaDoor.A
open Go.RowKit Go.Proofs.YtelfiofnhchmbaaDoor.B Go.Proofs.YtelfiofnhchmbaaDoorW.PrintWords Go.Proofs.YtelfiofnhchmbaaDoorW.PrintLast Go.Proofs.YtelfiofnhchmbaaDoorW.PrintMore
theorem ref04_Leap_eq (y : Nat) : rf04_Leap.f (y : Int) = some (leapN y) := days_Leap_eq y
theorem ref04_Length_ev (j m : Nat) (h : m < 12) : Ev (fun k => rf04_Length.f k ((1900 + j : Nat) : Int) (((m + 1 : Nat)) : Int)) (lenYM j m) := by
  unfold rf04_Length.f
  refine Ev.no (by omega) ?_
  rw [decide_eq_false (by omega)]
  refine Ev.step (fun k => by rw [rf04_Length.j0]) (Ev.no (by decide) ?_)
  have e : wrap64 (((m + 1 : Nat) : Int) - 1) = (m : Int) := by unfold wrap64; omega
  refine Ev.both (fun c => ?_) (fun c => ?_)
  · have c' : m = 1 := by omega
    subst c'
    unfold lenYM
    rw [if_pos rfl]
    rw [ref04_Leap_eq]
    show Ev (fun k => if leapN (1900 + j) = true then some 29 else _) _
    refine Ev.both (fun b => ?_) (fun b => ?_)
    · rw [if_pos b]; exact Ev.is rfl
    · rw [if_neg b, e]
      show Ev (fun _ => if (0 : Int) ≤ ((1 : Nat) : Int) then (if ((1 : Nat) : Int) < 12 then some (rd [31, 28, 31, 30, 31, 30, 31, 31, 30, 31, 30, 31] ((1 : Nat) : Int)) else none) else none) _
      exact Ev.yes (by omega) (Ev.yes (by omega) (Ev.is rfl))
  · have hv : lenYM j m = monN m := by unfold lenYM; rw [if_neg (by omega)]
    rw [e, hv]
    show Ev (fun _ => if (0 : Int) ≤ (m : Int) then (if (m : Int) < 12 then some (rd [31, 28, 31, 30, 31, 30, 31, 31, 30, 31, 30, 31] (m : Int)) else none) else none) _
    refine Ev.yes (by omega) (Ev.yes (by omega) (Ev.is ?_))
    unfold rd monN
    rw [Int.toNat_natCast]
theorem ref04_Date_loop (K : Nat) (n : Int) (hK : K < 3600) (hn : n ≤ 109572) (ha : first K ≤ n) (hb : n < first (K + 1)) : ∀ d L : Nat, L + d = K → Ev (fun k => rf04_Date.l0 k (L : Int) (n - first L)) (((1900 + K / 12 : Nat) : Int), ((K % 12 + 1 : Nat) : Int), n - first K + 1, 0)
  | d, L, e => by
    have hL := first_le (show L ≤ K by omega)
    have h0 := first_nonneg L
    have ev := ref04_Length_ev (L / 12) (L % 12) (Nat.mod_lt _ (by omega))
    have e1 : wrap64 (1900 + wrap64 (Int.tdiv (L : Int) 12)) = ((1900 + L / 12 : Nat) : Int) := by
      rw [show Int.tdiv (L : Int) 12 = ((L / 12 : Nat) : Int) from rfl]
      unfold wrap64; omega
    have e2 : wrap64 (Int.tmod (L : Int) 12 + 1) = ((L % 12 + 1 : Nat) : Int) := by
      rw [show Int.tmod (L : Int) 12 = ((L % 12 : Nat) : Int) from rfl]
      unfold wrap64; omega
    have hl : 28 ≤ lenYM (L / 12) (L % 12) ∧ lenYM (L / 12) (L % 12) ≤ 31 := lenK_in L
    refine Ev.step (fun k => by rw [rf04_Date.l0, e1, e2]) ?_
    refine Ev.bind ev ?_
    cases d with
    | zero =>
      have e' : L = K := by omega
      subst e'
      refine Ev.no ?_ (Ev.is ?_)
      · have : first (L + 1) = first L + lenYM (L / 12) (L % 12) := rfl
        omega
      · rw [show wrap64 (n - first L + 1) = n - first L + 1 by unfold wrap64; omega]
    | succ d =>
      have hs : first (L + 1) = first L + lenYM (L / 12) (L % 12) := rfl
      have := first_le (show L + 1 ≤ K by omega)
      refine Ev.yes (by omega) (Ev.bind ev ?_)
      rw [show wrap64 ((L : Int) + 1) = ((L + 1 : Nat) : Int) by unfold wrap64; omega, show wrap64 (n - first L - lenYM (L / 12) (L % 12)) = n - first (L + 1) by rw [hs]; unfold wrap64; omega]
      exact ref04_Date_loop K n hK hn ha hb d (L + 1) (by omega)
theorem ref04_Date_ev (K : Nat) (n : Int) (hK : K < 3600) (hn : n ≤ 109572) (ha : first K ≤ n) (hb : n < first (K + 1)) : Ev (fun k => rf04_Date.f k n) (dateR K n) := by
  have h0 := first_nonneg K
  unfold rf04_Date.f
  rw [ref04_Is_eq, decide_eq_true ⟨by omega, hn⟩]
  have h := ref04_Date_loop K n hK hn ha hb K 0 (by omega)
  rw [show n - first 0 = n from Int.sub_zero n] at h
  exact h
theorem ref04_MonthEnd_ev (K : Nat) (n : Int) (hK : K < 3600) (hn : n ≤ 109572) (ha : first K ≤ n) (hb : n < first (K + 1)) : Ev (fun k => rf04_MonthEnd.f k n) (first (K + 1) - 1, 0) := by
  unfold rf04_MonthEnd.f
  have h0 := first_nonneg K
  have hl : 28 ≤ lenYM (K / 12) (K % 12) ∧ lenYM (K / 12) (K % 12) ≤ 31 := lenK_in K
  have hs : first (K + 1) = first K + lenYM (K / 12) (K % 12) := rfl
  refine Ev.bind (ref04_Date_ev K n hK hn ha hb) (Ev.yes rfl (Ev.bind (ref04_Length_ev (K / 12) (K % 12) (Nat.mod_lt _ (by omega))) (Ev.is ?_)))
  show (wrap64 (wrap64 (n - (n - first K + 1)) + lenYM (K / 12) (K % 12)), (0 : Int)) = _
  rw [show wrap64 (wrap64 (n - (n - first K + 1)) + lenYM (K / 12) (K % 12)) = first (K + 1) - 1 by rw [hs]; unfold wrap64; omega]
end Go.Proofs.YtelfiofnhchmbaaDoor.A
namespace Go.Proofs.YtelfiofnhchmbaaDoor.A
open Go.RowKit Go.Proofs.YtelfiofnhchmbaaDoor.B Go.Proofs.YtelfiofnhchmbaaDoorW.PrintWords Go.Proofs.YtelfiofnhchmbaaDoorW.PrintLast Go.Proofs.YtelfiofnhchmbaaDoorW.PrintMore
set_option linter.unusedVariables false
set_option linter.unusedSimpArgs false
theorem ref04_MonthEnd_me (n : Int) (h : Day n) : Ev (fun k => rf04_MonthEnd.f k n) (meS n, 0) := by
  obtain ⟨a, b, c⟩ := mIx_is h
  exact ref04_MonthEnd_ev _ n a h.2 b c
theorem ref24_Due_ev (n : Int) (b : Bool) (l : List S53) (d : Int) (hl : Cuts l) (hlen : l.length ≤ 1000) : Ev (fun k => rf24_Due.f k n b l d) (dueS n b l d) := by
  unfold rf24_Due.f dueS
  refine Ev.bind (ref24_Right_ev n b l hl hlen) (Ev.both (fun h => ?_) (fun h => ?_))
  · have hn := termsOk_net h
    rw [if_pos h, ref24_day_eq]
    show Ev (fun k => if decide (Day d) = true then _ else _) _
    by_cases hd : Day d
    · rw [if_pos hd, decide_eq_true hd]
      have hm := meS_in hd
      have hd' := hd
      unfold Day at hd
      refine Ev.yes rfl (Ev.both (fun hb => ?_) (fun hb => ?_))
      · have eb : baseS b d = meS d := by unfold baseS; rw [if_pos hb]
        rw [eb]
        refine Ev.bind (ref04_MonthEnd_me d hd') ?_
        show Ev (fun k => (rf24_day.f (wrap64 (meS d + n))).bind fun t349 => if t349 = true then some (wrap64 (meS d + n), 0) else some (0, 11)) _
        rw [show wrap64 (meS d + n) = meS d + n by unfold wrap64; omega, ref24_day_eq]
        simp only [Option.bind_some]
        refine Ev.both (fun hx => Ev.is ?_) (fun hx => Ev.is ?_)
        · have hx := of_decide_eq_true hx
          unfold Day at hx
          rw [if_pos (by omega)]
        · have hx := of_decide_eq_false (Bool.eq_false_iff.mpr hx)
          unfold Day at hx
          rw [if_neg (by omega)]
      · have eb : baseS b d = d := by unfold baseS; rw [if_neg hb]
        rw [eb, show wrap64 (d + n) = d + n by unfold wrap64; omega, ref24_day_eq]
        show Ev (fun k => if decide (Day (d + n)) = true then some (d + n, 0) else some (0, 11)) _
        refine Ev.both (fun hx => Ev.is ?_) (fun hx => Ev.is ?_)
        · have hx := of_decide_eq_true hx
          unfold Day at hx
          rw [if_pos (by omega)]
        · have hx := of_decide_eq_false (Bool.eq_false_iff.mpr hx)
          unfold Day at hx
          rw [if_neg (by omega)]
    · rw [if_neg hd, decide_eq_false hd]
      exact Ev.no (by decide) (Ev.is rfl)
  · rw [if_neg h]; exact Ev.is rfl
end Go.Proofs.YtelfiofnhchmbaaDoor.A
