-- By gen.py, a program of this session's, over the print's forms: not the print's own text.
import Derived.Test.YtoenhagbgfkihaaAx0
import Derived.Test.YtoenhagbgfkihaaQ
import Derived.Test.YtoenhagbgfkihaaAx11
import Derived.Test.YtoenhagbgfkihaaAx13
import Derived.Test.YtoenhagbgfkihaaAx14
import Derived.Test.YtoenhagbgfkihaaAx15
namespace Go.Proofs.Ytoenhagbgfkihaa.A
open Go.RowKit Go.Proofs.Ytoenhagbgfkihaa.B Go.Proofs.YtoenhagbgfkihaaW.PrintWords Go.Proofs.YtoenhagbgfkihaaW.PrintLast Go.Proofs.YtoenhagbgfkihaaW.PrintMore
attribute [local go_sem] max2_int min2_int max_two min_two max_three min_three max_four min_four   -- for this text's walks alone
set_option linter.unusedVariables false
set_option linter.unusedSimpArgs false

/-! ### accountingref03_Parse: function 22 -/
mutual
def accountingref03_Parse.j0 : Nat → ByteArray → ByteArray → Bool → Option (Int × Int × Int)
 | 0, _, _, _ => none
 | k + 1, x0, x4, x19 => if x19 = true then (if 1 ≤ (x0.size : Int) then (accountingref03_Parse.j1 k x0 (x0.extract 1 x0.size)) else (none)) else (accountingref03_Parse.j1 k x0 x4)
def accountingref03_Parse.j1 : Nat → ByteArray → ByteArray → Option (Int × Int × Int)
 | 0, _, _ => none
 | k + 1, x0, x4 => (accountingref03_split.f k x4).bind fun bt260 => (if bt260.2.2 = true then (if (x4.size : Int) < (x0.size : Int) then (accountingref03_Parse.j2 k x0 x4 bt260.1 bt260.2.1 (bt260.1.toList == ([] : List UInt8))) else (accountingref03_Parse.j2 k x0 x4 bt260.1 bt260.2.1 false)) else (accountingref03_Parse.j2 k x0 x4 bt260.1 bt260.2.1 true))
def accountingref03_Parse.j2 : Nat → ByteArray → ByteArray → ByteArray → ByteArray → Bool → Option (Int × Int × Int)
 | 0, _, _, _, _, _ => none
 | k + 1, x0, x4, x5, x6, x40 => if x40 = true then (some (0, 0, 5)) else ((accountingref03_common.f k x5 x6).bind fun t263 => ((accountingref03_divide.f k x5 t263).bind fun bt264 => ((accountingref03_divide.f k x6 t263).bind fun bt266 => (if (bt264.1.size : Int) > 7 then (accountingref03_Parse.j3 k x0 x4 bt264.1 bt266.1 true) else (accountingref03_Parse.j3 k x0 x4 bt264.1 bt266.1 (decide ((bt266.1.size : Int) > 7)))))))
def accountingref03_Parse.j3 : Nat → ByteArray → ByteArray → ByteArray → ByteArray → Bool → Option (Int × Int × Int)
 | 0, _, _, _, _, _ => none
 | k + 1, x0, x4, x5, x6, x64 => if x64 = true then (some (0, 0, 4)) else ((accountingref03_number.f k x5).bind fun t268 => ((accountingref03_number.f k x6).bind fun t269 => ((accountingref03_Make.f k t268 t269).bind fun bt270 => (if (x4.size : Int) < (x0.size : Int) then ((accountingref03_Neg.f bt270.1 bt270.2.1).bind fun bt274 => (if bt270.2.2 = 0 then (some (bt274.1, bt274.2, 0)) else (some (0, 0, bt270.2.2)))) else (if bt270.2.2 = 0 then (some (bt270.1, bt270.2.1, 0)) else (some (0, 0, bt270.2.2)))))))
end
def accountingref03_Parse.f (k : Nat) (a0 : ByteArray) : Option (Int × Int × Int) := if (a0.size : Int) > 0 then (if 0 < (a0.size : Int) then (accountingref03_Parse.j0 k a0 a0 ((bt a0 0) == 45)) else (none)) else (accountingref03_Parse.j0 k a0 a0 false)
theorem accountingref03_Parse.mono_l : ∀ k, (∀ y0 y1 y2, LeO (accountingref03_Parse.j0 k y0 y1 y2) (accountingref03_Parse.j0 (k + 1) y0 y1 y2)) ∧ (∀ y0 y1, LeO (accountingref03_Parse.j1 k y0 y1) (accountingref03_Parse.j1 (k + 1) y0 y1)) ∧ (∀ y0 y1 y2 y3 y4, LeO (accountingref03_Parse.j2 k y0 y1 y2 y3 y4) (accountingref03_Parse.j2 (k + 1) y0 y1 y2 y3 y4)) ∧ (∀ y0 y1 y2 y3 y4, LeO (accountingref03_Parse.j3 k y0 y1 y2 y3 y4) (accountingref03_Parse.j3 (k + 1) y0 y1 y2 y3 y4))
 | 0 => ⟨fun _ _ _ r h => by simp [accountingref03_Parse.j0] at h, fun _ _ r h => by simp [accountingref03_Parse.j1] at h, fun _ _ _ _ _ r h => by simp [accountingref03_Parse.j2] at h, fun _ _ _ _ _ r h => by simp [accountingref03_Parse.j3] at h⟩
 | k + 1 => by
  obtain ⟨ih0, ih1, ih2, ih3⟩ := accountingref03_Parse.mono_l k
  refine ⟨?_, ?_, ?_, ?_⟩
  ·intro y0 y1 y2
   unfold accountingref03_Parse.j0
   repeat' first
   | (with_reducible exact ih0 _ _ _)
   | (with_reducible exact ih1 _ _)
   | (with_reducible exact ih2 _ _ _ _ _)
   | (with_reducible exact ih3 _ _ _ _ _)
   | (with_reducible exact accountingref03_Make.mono _ _ _)
   | (with_reducible exact accountingref03_common.mono _ _ _)
   | (with_reducible exact accountingref03_divide.mono _ _ _)
   | (with_reducible exact accountingref03_number.mono _ _)
   | (with_reducible exact accountingref03_split.mono _ _)
   | (with_reducible exact LeO.refl _)
   | (with_reducible exact LeO.none _)
   | (with_reducible refine LeO.ite ?_ ?_)
   | (with_reducible refine LeO.bind ?_ (fun _ => ?_))
   | exact ih0 _ _ _
   | exact ih1 _ _
   | exact ih2 _ _ _ _ _
   | exact ih3 _ _ _ _ _
   | exact accountingref03_Make.mono _ _ _
   | exact accountingref03_common.mono _ _ _
   | exact accountingref03_divide.mono _ _ _
   | exact accountingref03_number.mono _ _
   | exact accountingref03_split.mono _ _
   | exact LeO.none _
   | refine LeO.ite ?_ ?_
   | refine LeO.bind ?_ (fun _ => ?_)
  ·intro y0 y1
   unfold accountingref03_Parse.j1
   repeat' first
   | (with_reducible exact ih0 _ _ _)
   | (with_reducible exact ih1 _ _)
   | (with_reducible exact ih2 _ _ _ _ _)
   | (with_reducible exact ih3 _ _ _ _ _)
   | (with_reducible exact accountingref03_Make.mono _ _ _)
   | (with_reducible exact accountingref03_common.mono _ _ _)
   | (with_reducible exact accountingref03_divide.mono _ _ _)
   | (with_reducible exact accountingref03_number.mono _ _)
   | (with_reducible exact accountingref03_split.mono _ _)
   | (with_reducible exact LeO.refl _)
   | (with_reducible exact LeO.none _)
   | (with_reducible refine LeO.ite ?_ ?_)
   | (with_reducible refine LeO.bind ?_ (fun _ => ?_))
   | exact ih0 _ _ _
   | exact ih1 _ _
   | exact ih2 _ _ _ _ _
   | exact ih3 _ _ _ _ _
   | exact accountingref03_Make.mono _ _ _
   | exact accountingref03_common.mono _ _ _
   | exact accountingref03_divide.mono _ _ _
   | exact accountingref03_number.mono _ _
   | exact accountingref03_split.mono _ _
   | exact LeO.none _
   | refine LeO.ite ?_ ?_
   | refine LeO.bind ?_ (fun _ => ?_)
  ·intro y0 y1 y2 y3 y4
   unfold accountingref03_Parse.j2
   repeat' first
   | (with_reducible exact ih0 _ _ _)
   | (with_reducible exact ih1 _ _)
   | (with_reducible exact ih2 _ _ _ _ _)
   | (with_reducible exact ih3 _ _ _ _ _)
   | (with_reducible exact accountingref03_Make.mono _ _ _)
   | (with_reducible exact accountingref03_common.mono _ _ _)
   | (with_reducible exact accountingref03_divide.mono _ _ _)
   | (with_reducible exact accountingref03_number.mono _ _)
   | (with_reducible exact accountingref03_split.mono _ _)
   | (with_reducible exact LeO.refl _)
   | (with_reducible exact LeO.none _)
   | (with_reducible refine LeO.ite ?_ ?_)
   | (with_reducible refine LeO.bind ?_ (fun _ => ?_))
   | exact ih0 _ _ _
   | exact ih1 _ _
   | exact ih2 _ _ _ _ _
   | exact ih3 _ _ _ _ _
   | exact accountingref03_Make.mono _ _ _
   | exact accountingref03_common.mono _ _ _
   | exact accountingref03_divide.mono _ _ _
   | exact accountingref03_number.mono _ _
   | exact accountingref03_split.mono _ _
   | exact LeO.none _
   | refine LeO.ite ?_ ?_
   | refine LeO.bind ?_ (fun _ => ?_)
  ·intro y0 y1 y2 y3 y4
   unfold accountingref03_Parse.j3
   repeat' first
   | (with_reducible exact ih0 _ _ _)
   | (with_reducible exact ih1 _ _)
   | (with_reducible exact ih2 _ _ _ _ _)
   | (with_reducible exact ih3 _ _ _ _ _)
   | (with_reducible exact accountingref03_Make.mono _ _ _)
   | (with_reducible exact accountingref03_common.mono _ _ _)
   | (with_reducible exact accountingref03_divide.mono _ _ _)
   | (with_reducible exact accountingref03_number.mono _ _)
   | (with_reducible exact accountingref03_split.mono _ _)
   | (with_reducible exact LeO.refl _)
   | (with_reducible exact LeO.none _)
   | (with_reducible refine LeO.ite ?_ ?_)
   | (with_reducible refine LeO.bind ?_ (fun _ => ?_))
   | exact ih0 _ _ _
   | exact ih1 _ _
   | exact ih2 _ _ _ _ _
   | exact ih3 _ _ _ _ _
   | exact accountingref03_Make.mono _ _ _
   | exact accountingref03_common.mono _ _ _
   | exact accountingref03_divide.mono _ _ _
   | exact accountingref03_number.mono _ _
   | exact accountingref03_split.mono _ _
   | exact LeO.none _
   | refine LeO.ite ?_ ?_
   | refine LeO.bind ?_ (fun _ => ?_)
theorem accountingref03_Parse.mono : ∀ a0 k, LeO (accountingref03_Parse.f k a0) (accountingref03_Parse.f (k + 1) a0) := by
 intro a0 k
 obtain ⟨ih0, ih1, ih2, ih3⟩ := accountingref03_Parse.mono_l k
 unfold accountingref03_Parse.f
 repeat' first
   | (with_reducible exact ih0 _ _ _)
   | (with_reducible exact ih1 _ _)
   | (with_reducible exact ih2 _ _ _ _ _)
   | (with_reducible exact ih3 _ _ _ _ _)
   | (with_reducible exact accountingref03_Make.mono _ _ _)
   | (with_reducible exact accountingref03_common.mono _ _ _)
   | (with_reducible exact accountingref03_divide.mono _ _ _)
   | (with_reducible exact accountingref03_number.mono _ _)
   | (with_reducible exact accountingref03_split.mono _ _)
   | (with_reducible exact LeO.refl _)
   | (with_reducible exact LeO.none _)
   | (with_reducible refine LeO.ite ?_ ?_)
   | (with_reducible refine LeO.bind ?_ (fun _ => ?_))
   | exact ih0 _ _ _
   | exact ih1 _ _
   | exact ih2 _ _ _ _ _
   | exact ih3 _ _ _ _ _
   | exact accountingref03_Make.mono _ _ _
   | exact accountingref03_common.mono _ _ _
   | exact accountingref03_divide.mono _ _ _
   | exact accountingref03_number.mono _ _
   | exact accountingref03_split.mono _ _
   | exact LeO.none _
   | refine LeO.ite ?_ ?_
   | refine LeO.bind ?_ (fun _ => ?_)
set_option maxHeartbeats 8000000 in
set_option maxRecDepth 100000 in
theorem accountingref03_Parse.calls (k : Nat) (a0 : ByteArray) (r1 : Int) (r2 : Int) (r3 : Int) (w : World) (h : accountingref03_Parse.f k a0 = some (r1, r2, r3)) :
  Calls Try.prog 22 #[.string a0] w fun e w' => e = .returned (.tuple #[.agg #[.int .i64 r1, .int .i64 r2], .int .i64 r3]) ∧ Below w.heap.size w w' := by
 have hu23 := Try.underlying23
 have HB := Aside0.mk (Below.refl w.heap.size w)
 have H : (if (a0.size : Int) > 0 then (if 0 < (a0.size : Int) then (accountingref03_Parse.j0 k a0 a0 ((bt a0 0) == 45)) else (none)) else (accountingref03_Parse.j0 k a0 a0 false)) = some (r1, r2, r3) := h
 clear h
 have HC2 := Aside0.mk H
 clear H
 go_enter Try.func22, Try.ntmps22
 go_upto_region 2 with (first | ((with_reducible refine gate_dst (N := 2) rfl ?_); (try (refine gate_guard (by rfl) ?_; dsimp only)); refine box_event ?hg (N := 2) ?hd (cs := #[.int .i64 0, .int .i64 0]) (t := 23) ?hr ?_; (case hd => rfl); (case hg => rfl); (case hr => first | (go_simp; done) | (go_simp; rfl)); intro gb259 hg w3 hbox hb; have n0_ := Aside0.mk (below_step q11 hb); have n1_ := Aside0.mk (hbox); have n2_ := Aside0.mk ((q12 : w.heap.size ≤ gb259)); have n3_ := Aside0.mk ((q12 : w.heap.size ≤ gb259)); clear HB; have HB := n0_; have BK259 := n1_; have GW259 := n2_; have GE259 := n3_; clear n0_ n1_ n2_ n3_; clear hb hbox hg))
 (try simp only [Act.put, List.setIfInBounds_toArray, List.set_cons_zero, List.set_cons_succ])
 go_cut [19] (fun v19 wc => ∃ (kq : Nat) (x19_1 : Bool), v19 = .bool x19_1 ∧ Aside0 (accountingref03_Parse.j0 kq a0 a0 x19_1 = some (r1, r2, r3)) ∧ Aside0 (kq ≤ k) ∧ Aside0 (wc.heap[gb259]? = some (.cells #[.int .i64 0, .int .i64 0] 23 (0, 0))) ∧ Aside0 (Below w.heap.size w wc))
 case first =>
  have H := HC2.out
  clear HC2
  by_cases c4 : (a0.size : Int) > 0
  ·rw [if_pos c4] at H
   have c4b0 : decide (0 < (a0.size : Int)) = true := decide_eq_true c4
   have c4b1 : decide (0 < a0.size) = true := decide_eq_true (by omega)
   clear c4
   (first | rw [c4b0] | (simp only [i64_w, i32_w]; rw [c4b0]) | skip)
   by_cases c5 : 0 < (a0.size : Int)
   ·rw [if_pos c5] at H
    have c5b0 : decide (0 < (a0.size : Int)) = true := decide_eq_true c5
    have c5b1 : decide (0 < a0.size) = true := decide_eq_true (by omega)
    clear c5
    have H' := Aside0.mk H
    clear H
    have p6 : 0 ≤ (0 : Int) := (by omega)
    have q6 : 0 < a0.size := (by have : (0 : Int) < (a0.size : Int) := of_decide_eq_true q78; omega)
    have hx6 : ∀ h : 0 < a0.size, ((a0[0]'h).toNat : Int) = bt a0 0 := bt_at a0 0
    clear p6
    have qi6 : (0 < (a0.size : Int)) = True := eq_true (of_decide_eq_true q78)
    replace q6 := eq_true q6
    go_wp2
    go_meet
    case rel => exact ⟨_, (((bt a0 0) == 45)), q9, H', ⟨by first | omega | exact Nat.le_refl _⟩, ⟨q83⟩, ⟨q84⟩⟩
   ·rw [if_neg c5] at H
    exact absurd H (by simp)
  ·rw [if_neg c4] at H
   have c4b0 : decide (0 < (a0.size : Int)) = false := decide_eq_false c4
   have c4b1 : decide (0 < a0.size) = false := decide_eq_false (by omega)
   clear c4
   (first | rw [c4b0] | (simp only [i64_w, i32_w]; rw [c4b0]) | skip)
   have H' := Aside0.mk H
   clear H
   go_wp2
   go_meet
   case rel => exact ⟨_, (false), q9, H', ⟨by first | omega | exact Nat.le_refl _⟩, ⟨q83⟩, ⟨q84⟩⟩
 case rest =>
  clear HC2
  try clear c2
  try clear p2
  try clear c4
  try clear c4b0
  try clear c4b1
  try clear c5
  try clear c5b0
  try clear c5b1
  try clear p6
  try clear q6
  try clear hx6
  try clear qi6
  try clear p6
  try clear q6
  obtain ⟨kq, x19_1, rfl, HA, HJ1, BK259, HB⟩ := hcut
  cases kq with
  | zero => exact absurd HA.out (by simp [accountingref03_Parse.j0])
  | succ kj1 =>
   have H := HA.out
   clear HA
   simp only [accountingref03_Parse.j0] at H
   have HC7 := Aside0.mk H
   clear H
   go_upto_if 19 with (fail)
   go_cut [4] (fun v4 wc => ∃ (kq : Nat) (x4_6 : ByteArray), v4 = .string x4_6 ∧ Aside0 (accountingref03_Parse.j1 kq a0 x4_6 = some (r1, r2, r3)) ∧ Aside0 (kq ≤ kj1) ∧ Aside0 (wc.heap[gb259]? = some (.cells #[.int .i64 0, .int .i64 0] 23 (0, 0))) ∧ Aside0 (Below w.heap.size w wc))
   case first =>
    have H := HC7.out
    clear HC7
    by_cases c8 : x19_1 = true
    ·subst c8
     have H1 : (if 1 ≤ (a0.size : Int) then (accountingref03_Parse.j1 kj1 a0 (a0.extract 1 a0.size)) else (none)) = some (r1, r2, r3) := by rw [if_pos rfl] at H; exact H
     clear H
     have H := H1
     clear H1
     by_cases c9 : 1 ≤ (a0.size : Int)
     ·rw [if_pos c9] at H
      have c9b0 := eq_true c9
      have c9b1 : decide (1 ≤ (a0.size : Int)) = true := decide_eq_true c9
      clear c9
      have H' := Aside0.mk H
      clear H
      go_wp2
      go_meet
      case rel => exact ⟨_, (a0.extract 1 a0.size), q9, H', ⟨q85⟩, ⟨q83⟩, ⟨q84⟩⟩
     ·rw [if_neg c9] at H
      exact absurd H (by simp)
    ·replace c8 := Bool.eq_false_iff.mpr c8
     subst c8
     have H1 : (accountingref03_Parse.j1 kj1 a0 a0) = some (r1, r2, r3) := by rw [if_neg (show ¬ (false = true) by decide)] at H; exact H
     clear H
     have H := H1
     clear H1
     have H' := Aside0.mk H
     clear H
     go_wp2
     go_meet
     case rel => exact ⟨_, (a0), q9, H', ⟨q85⟩, ⟨q83⟩, ⟨q84⟩⟩
   case rest =>
    clear HC7
    try clear c2
    try clear p2
    try clear c4
    try clear c4b0
    try clear c4b1
    try clear c5
    try clear c5b0
    try clear c5b1
    try clear p6
    try clear q6
    try clear hx6
    try clear qi6
    try clear c8
    try clear c9
    try clear c9b0
    try clear c9b1
    try clear p2
    try clear p6
    try clear q6
    obtain ⟨kq, x4_6, rfl, HA, HJ6, BK259, HB⟩ := hcut
    cases kq with
    | zero => exact absurd HA.out (by simp [accountingref03_Parse.j1])
    | succ kj6 =>
     have H := HA.out
     clear HA
     simp only [accountingref03_Parse.j1] at H
     replace H := Option.bind_eq_some_iff.mp H
     obtain ⟨⟨t260, t261, t262⟩, A100, H⟩ := H
     replace H : (if t262 = true then (if (x4_6.size : Int) < (a0.size : Int) then (accountingref03_Parse.j2 kj6 a0 x4_6 t260 t261 (t260.toList == ([] : List UInt8))) else (accountingref03_Parse.j2 kj6 a0 x4_6 t260 t261 false)) else (accountingref03_Parse.j2 kj6 a0 x4_6 t260 t261 true)) = some (r1, r2, r3) := H
     have A10 := Aside0.mk A100
     clear A100
     have HC11 := Aside0.mk H
     clear H
     go_upto_region 5 with (first | ((with_reducible refine gate_callee (f := 44) rfl ?_); refine goesL_ (some 24) rfl rfl Try.func44 (by kernel_rfl) rfl #[.string x4_6] rfl q20 ?_; (with_reducible refine (accountingref03_split.calls kj6 x4_6 t260 t261 t262 _ A10.out).mono ?_); rintro e w' ⟨rfl, ⟨nd, rfl⟩⟩; refine ⟨_, rfl, ?_⟩))
     (try simp only [Act.put, List.setIfInBounds_toArray, List.set_cons_zero, List.set_cons_succ])
     go_cut [40] (fun v40 wc => ∃ (kq : Nat) (x40_10 : Bool), v40 = .bool x40_10 ∧ Aside0 (accountingref03_Parse.j2 kq a0 x4_6 t260 t261 x40_10 = some (r1, r2, r3)) ∧ Aside0 (kq ≤ kj6) ∧ Aside0 (wc.heap[gb259]? = some (.cells #[.int .i64 0, .int .i64 0] 23 (0, 0))) ∧ Aside0 (Below w.heap.size w wc))
     case first =>
      have H := HC11.out
      clear HC11
      by_cases c12 : t262 = true
      ·subst c12
       have H1 : (if (x4_6.size : Int) < (a0.size : Int) then (accountingref03_Parse.j2 kj6 a0 x4_6 t260 t261 (t260.toList == ([] : List UInt8))) else (accountingref03_Parse.j2 kj6 a0 x4_6 t260 t261 false)) = some (r1, r2, r3) := by rw [if_pos rfl] at H; exact H
       clear H
       have H := H1
       clear H1
       by_cases c13 : (x4_6.size : Int) < (a0.size : Int)
       ·rw [if_pos c13] at H
        have c13b0 : decide ((x4_6.size : Int) < (a0.size : Int)) = true := decide_eq_true c13
        have c13b1 : decide (x4_6.size < a0.size) = true := decide_eq_true (Int.ofNat_lt.mp c13)
        clear c13
        (first | rw [c13b0] | (simp only [i64_w, i32_w]; rw [c13b0]) | skip)
        have H' := Aside0.mk H
        clear H
        go_wp2
        go_meet
        case rel => exact ⟨_, ((t260.toList == ([] : List UInt8))), q9, H', ⟨q86⟩, ⟨q83⟩, ⟨q84⟩⟩
       ·rw [if_neg c13] at H
        have c13b0 : decide ((x4_6.size : Int) < (a0.size : Int)) = false := decide_eq_false c13
        have c13b1 : decide (x4_6.size < a0.size) = false := decide_eq_false (fun h => c13 (Int.ofNat_lt.mpr h))
        clear c13
        (first | rw [c13b0] | (simp only [i64_w, i32_w]; rw [c13b0]) | skip)
        have H' := Aside0.mk H
        clear H
        go_wp2
        go_meet
        case rel => exact ⟨_, (false), q9, H', ⟨q86⟩, ⟨q83⟩, ⟨q84⟩⟩
      ·replace c12 := Bool.eq_false_iff.mpr c12
       subst c12
       have H1 : (accountingref03_Parse.j2 kj6 a0 x4_6 t260 t261 true) = some (r1, r2, r3) := by rw [if_neg (show ¬ (false = true) by decide)] at H; exact H
       clear H
       have H := H1
       clear H1
       have H' := Aside0.mk H
       clear H
       go_wp2
       go_meet
       case rel => exact ⟨_, (true), q9, H', ⟨q86⟩, ⟨q83⟩, ⟨q84⟩⟩
     case rest =>
      clear HC11
      try clear c1
      try clear c2
      try clear p2
      try clear c4
      try clear c4b0
      try clear c4b1
      try clear c5
      try clear c5b0
      try clear c5b1
      try clear p6
      try clear q6
      try clear hx6
      try clear qi6
      try clear c8
      try clear c9
      try clear c9b0
      try clear c9b1
      try clear c12
      try clear c13
      try clear c13b0
      try clear c13b1
      try clear p2
      try clear p6
      try clear q6
      obtain ⟨kq, x40_10, rfl, HA, HJ10, BK259, HB⟩ := hcut
      cases kq with
      | zero => exact absurd HA.out (by simp [accountingref03_Parse.j2])
      | succ kj10 =>
       have H := HA.out
       clear HA
       simp only [accountingref03_Parse.j2] at H
       by_cases c14 : x40_10 = true
       ·subst c14
        have H1 : (some (0, 0, 5)) = some (r1, r2, r3) := by rw [if_pos rfl] at H; exact H
        clear H
        have H := H1
        clear H1
        simp only [Option.some.injEq, Prod.mk.injEq] at H
        obtain ⟨rfl, rfl, rfl⟩ := H
        have hcz15_0 : wc.cell? ⟨gb259, 0, none⟩ = some (.int .i64 0) := (blk_cell BK259.out 0).trans rfl
        have hcz15_1 : wc.cell? ⟨gb259, 1, none⟩ = some (.int .i64 0) := (blk_cell BK259.out 1).trans rfl
        have hfz15_0 := blk_frozen BK259.out 0
        have hfz15_1 := blk_frozen BK259.out 1
        go_wp2
        refine bodyPost_ret (results_ct rfl _ _ gb259 23 #[.int .i64 0, .int .i64 0] (0, 0) _ rfl (by (with_reducible repeat (first | refine blk_drewN ?_ _ | refine blk_drew ?_ | refine blk_alloc ?_ _)); refine blk_put (cs := #[.int .i64 0, .int .i64 0]) ?_ 1 _ rfl; (with_reducible repeat (first | refine blk_drewN ?_ _ | refine blk_drew ?_ | refine blk_alloc ?_ _)); refine blk_put (cs := #[.int .i64 0, .int .i64 0]) ?_ 0 _ rfl; (with_reducible repeat (first | refine blk_drewN ?_ _ | refine blk_drew ?_ | refine blk_alloc ?_ _)); exact BK259.out) Try.underlying23 rfl (by kernel_rfl)) rfl ?_
        exact ⟨q13, q84⟩
       ·replace c14 := Bool.eq_false_iff.mpr c14
        subst c14
        have H1 : ((accountingref03_common.f kj10 t260 t261).bind fun t263 => ((accountingref03_divide.f kj10 t260 t263).bind fun bt264 => ((accountingref03_divide.f kj10 t261 t263).bind fun bt266 => (if (bt264.1.size : Int) > 7 then (accountingref03_Parse.j3 kj10 a0 x4_6 bt264.1 bt266.1 true) else (accountingref03_Parse.j3 kj10 a0 x4_6 bt264.1 bt266.1 (decide ((bt266.1.size : Int) > 7))))))) = some (r1, r2, r3) := by rw [if_neg (show ¬ (false = true) by decide)] at H; exact H
        clear H
        have H := H1
        clear H1
        replace H := Option.bind_eq_some_iff.mp H
        obtain ⟨t263, A160, H⟩ := H
        replace H : ((accountingref03_divide.f kj10 t260 t263).bind fun bt264 => ((accountingref03_divide.f kj10 t261 t263).bind fun bt266 => (if (bt264.1.size : Int) > 7 then (accountingref03_Parse.j3 kj10 a0 x4_6 bt264.1 bt266.1 true) else (accountingref03_Parse.j3 kj10 a0 x4_6 bt264.1 bt266.1 (decide ((bt266.1.size : Int) > 7)))))) = some (r1, r2, r3) := H
        have A16 := Aside0.mk A160
        clear A160
        replace H := Option.bind_eq_some_iff.mp H
        obtain ⟨⟨t264, t265⟩, A170, H⟩ := H
        replace H : ((accountingref03_divide.f kj10 t261 t263).bind fun bt266 => (if (t264.size : Int) > 7 then (accountingref03_Parse.j3 kj10 a0 x4_6 t264 bt266.1 true) else (accountingref03_Parse.j3 kj10 a0 x4_6 t264 bt266.1 (decide ((bt266.1.size : Int) > 7))))) = some (r1, r2, r3) := H
        have A17 := Aside0.mk A170
        clear A170
        replace H := Option.bind_eq_some_iff.mp H
        obtain ⟨⟨t266, t267⟩, A180, H⟩ := H
        replace H : (if (t264.size : Int) > 7 then (accountingref03_Parse.j3 kj10 a0 x4_6 t264 t266 true) else (accountingref03_Parse.j3 kj10 a0 x4_6 t264 t266 (decide ((t266.size : Int) > 7)))) = some (r1, r2, r3) := H
        have A18 := Aside0.mk A180
        clear A180
        have HC19 := Aside0.mk H
        clear H
        go_upto_region 10 with (first | ((with_reducible refine gate_callee (f := 45) rfl ?_); refine goesL_ (some 44) rfl rfl Try.func45 (by kernel_rfl) rfl #[.string t260, .string t261] rfl q20 ?_; (with_reducible refine (accountingref03_common.calls kj10 t260 t261 t263 _ A16.out).mono ?_); rintro e w20 ⟨rfl, hb⟩; refine ⟨_, rfl, ?_⟩; have n0_ := Aside0.mk (blk_below (g := gb259) (o := .cells #[.int .i64 0, .int .i64 0] 23 (0, 0)) q83 hb); have n1_ := Aside0.mk (below_step q84 hb); clear BK259; clear HB; have BK259 := n0_; have HB := n1_; clear n0_ n1_; (try clear hb); (try clear hb2); (try clear hk); (try clear hi)) | ((with_reducible refine gate_callee (f := 46) rfl ?_); refine goesL_ (some 48) rfl rfl Try.func46 (by kernel_rfl) rfl #[.string t260, .string t263] rfl q20 ?_; (with_reducible refine (accountingref03_divide.calls kj10 t260 t263 t264 t265 _ A17.out).mono ?_); rintro e w21 ⟨rfl, hb⟩; refine ⟨_, rfl, ?_⟩; have n0_ := Aside0.mk (blk_below (g := gb259) (o := .cells #[.int .i64 0, .int .i64 0] 23 (0, 0)) q83 hb); have n1_ := Aside0.mk (below_step q84 hb); clear BK259; clear HB; have BK259 := n0_; have HB := n1_; clear n0_ n1_; (try clear hb); (try clear hb2); (try clear hk); (try clear hi)) | ((with_reducible refine gate_callee (f := 46) rfl ?_); refine goesL_ (some 54) rfl rfl Try.func46 (by kernel_rfl) rfl #[.string t261, .string t263] rfl q20 ?_; (with_reducible refine (accountingref03_divide.calls kj10 t261 t263 t266 t267 _ A18.out).mono ?_); rintro e w22 ⟨rfl, hb⟩; refine ⟨_, rfl, ?_⟩; have n0_ := Aside0.mk (blk_below (g := gb259) (o := .cells #[.int .i64 0, .int .i64 0] 23 (0, 0)) q83 hb); have n1_ := Aside0.mk (below_step q84 hb); clear BK259; clear HB; have BK259 := n0_; have HB := n1_; clear n0_ n1_; (try clear hb); (try clear hb2); (try clear hk); (try clear hi)))
        (try simp only [Act.put, List.setIfInBounds_toArray, List.set_cons_zero, List.set_cons_succ])
        go_cut [64] (fun v64 wc => ∃ (kq : Nat) (x64_18 : Bool), v64 = .bool x64_18 ∧ Aside0 (accountingref03_Parse.j3 kq a0 x4_6 t264 t266 x64_18 = some (r1, r2, r3)) ∧ Aside0 (kq ≤ kj10) ∧ Aside0 (wc.heap[gb259]? = some (.cells #[.int .i64 0, .int .i64 0] 23 (0, 0))) ∧ Aside0 (Below w.heap.size w wc))
        case first =>
         have H := HC19.out
         clear HC19
         by_cases c23 : (t264.size : Int) > 7
         ·rw [if_pos c23] at H
          have c23b0 : decide (7 < (t264.size : Int)) = true := decide_eq_true c23
          have c23b1 : decide (7 < t264.size) = true := decide_eq_true (by omega)
          clear c23
          (first | rw [c23b0] | (simp only [i64_w, i32_w]; rw [c23b0]) | skip)
          have H' := Aside0.mk H
          clear H
          go_wp2
          go_meet
          case rel => exact ⟨_, (true), q9, H', ⟨by have := HJ1.out; have := HJ6.out; have := HJ10.out; first | omega | exact Nat.le_refl _⟩, ⟨q83⟩, ⟨q84⟩⟩
         ·rw [if_neg c23] at H
          have c23b0 : decide (7 < (t264.size : Int)) = false := decide_eq_false c23
          have c23b1 : decide (7 < t264.size) = false := decide_eq_false (by omega)
          clear c23
          (first | rw [c23b0] | (simp only [i64_w, i32_w]; rw [c23b0]) | skip)
          have H' := Aside0.mk H
          clear H
          go_wp2
          go_meet
          case rel => exact ⟨_, (decide ((t266.size : Int) > 7)), q9, H', ⟨by have := HJ1.out; have := HJ6.out; have := HJ10.out; first | omega | exact Nat.le_refl _⟩, ⟨q83⟩, ⟨q84⟩⟩
        case rest =>
         clear HC19
         try clear c1
         try clear c2
         try clear p2
         try clear c4
         try clear c4b0
         try clear c4b1
         try clear c5
         try clear c5b0
         try clear c5b1
         try clear p6
         try clear q6
         try clear hx6
         try clear qi6
         try clear c8
         try clear c9
         try clear c9b0
         try clear c9b1
         try clear c12
         try clear c13
         try clear c13b0
         try clear c13b1
         try clear c14
         try clear c22
         try clear c23
         try clear c23b0
         try clear c23b1
         try clear hcz15_0
         try clear hcz15_1
         try clear hfz15_0
         try clear hfz15_1
         try clear p2
         try clear p6
         try clear q6
         obtain ⟨kq, x64_18, rfl, HA, HJ18, BK259, HB⟩ := hcut
         cases kq with
         | zero => exact absurd HA.out (by simp [accountingref03_Parse.j3])
         | succ kj18 =>
          have H := HA.out
          clear HA
          simp only [accountingref03_Parse.j3] at H
          by_cases c24 : x64_18 = true
          ·subst c24
           have H1 : (some (0, 0, 4)) = some (r1, r2, r3) := by rw [if_pos rfl] at H; exact H
           clear H
           have H := H1
           clear H1
           simp only [Option.some.injEq, Prod.mk.injEq] at H
           obtain ⟨rfl, rfl, rfl⟩ := H
           have hcz25_0 : wc.cell? ⟨gb259, 0, none⟩ = some (.int .i64 0) := (blk_cell BK259.out 0).trans rfl
           have hcz25_1 : wc.cell? ⟨gb259, 1, none⟩ = some (.int .i64 0) := (blk_cell BK259.out 1).trans rfl
           have hfz25_0 := blk_frozen BK259.out 0
           have hfz25_1 := blk_frozen BK259.out 1
           go_wp2
           refine bodyPost_ret (results_ct rfl _ _ gb259 23 #[.int .i64 0, .int .i64 0] (0, 0) _ rfl (by (with_reducible repeat (first | refine blk_drewN ?_ _ | refine blk_drew ?_ | refine blk_alloc ?_ _)); refine blk_put (cs := #[.int .i64 0, .int .i64 0]) ?_ 1 _ rfl; (with_reducible repeat (first | refine blk_drewN ?_ _ | refine blk_drew ?_ | refine blk_alloc ?_ _)); refine blk_put (cs := #[.int .i64 0, .int .i64 0]) ?_ 0 _ rfl; (with_reducible repeat (first | refine blk_drewN ?_ _ | refine blk_drew ?_ | refine blk_alloc ?_ _)); exact BK259.out) Try.underlying23 rfl (by kernel_rfl)) rfl ?_
           exact ⟨q13, q84⟩
          ·replace c24 := Bool.eq_false_iff.mpr c24
           subst c24
           have H1 : ((accountingref03_number.f kj18 t264).bind fun t268 => ((accountingref03_number.f kj18 t266).bind fun t269 => ((accountingref03_Make.f kj18 t268 t269).bind fun bt270 => (if (x4_6.size : Int) < (a0.size : Int) then ((accountingref03_Neg.f bt270.1 bt270.2.1).bind fun bt274 => (if bt270.2.2 = 0 then (some (bt274.1, bt274.2, 0)) else (some (0, 0, bt270.2.2)))) else (if bt270.2.2 = 0 then (some (bt270.1, bt270.2.1, 0)) else (some (0, 0, bt270.2.2))))))) = some (r1, r2, r3) := by rw [if_neg (show ¬ (false = true) by decide)] at H; exact H
           clear H
           have H := H1
           clear H1
           replace H := Option.bind_eq_some_iff.mp H
           obtain ⟨t268, A260, H⟩ := H
           replace H : ((accountingref03_number.f kj18 t266).bind fun t269 => ((accountingref03_Make.f kj18 t268 t269).bind fun bt270 => (if (x4_6.size : Int) < (a0.size : Int) then ((accountingref03_Neg.f bt270.1 bt270.2.1).bind fun bt274 => (if bt270.2.2 = 0 then (some (bt274.1, bt274.2, 0)) else (some (0, 0, bt270.2.2)))) else (if bt270.2.2 = 0 then (some (bt270.1, bt270.2.1, 0)) else (some (0, 0, bt270.2.2)))))) = some (r1, r2, r3) := H
           have A26 := Aside0.mk A260
           clear A260
           replace H := Option.bind_eq_some_iff.mp H
           obtain ⟨t269, A270, H⟩ := H
           replace H : ((accountingref03_Make.f kj18 t268 t269).bind fun bt270 => (if (x4_6.size : Int) < (a0.size : Int) then ((accountingref03_Neg.f bt270.1 bt270.2.1).bind fun bt274 => (if bt270.2.2 = 0 then (some (bt274.1, bt274.2, 0)) else (some (0, 0, bt270.2.2)))) else (if bt270.2.2 = 0 then (some (bt270.1, bt270.2.1, 0)) else (some (0, 0, bt270.2.2))))) = some (r1, r2, r3) := H
           have A27 := Aside0.mk A270
           clear A270
           replace H := Option.bind_eq_some_iff.mp H
           obtain ⟨⟨t270, t271, t272⟩, A280, H⟩ := H
           replace H : (if (x4_6.size : Int) < (a0.size : Int) then ((accountingref03_Neg.f t270 t271).bind fun bt274 => (if t272 = 0 then (some (bt274.1, bt274.2, 0)) else (some (0, 0, t272)))) else (if t272 = 0 then (some (t270, t271, 0)) else (some (0, 0, t272)))) = some (r1, r2, r3) := H
           have A28 := Aside0.mk A280
           clear A280
           by_cases c29 : (x4_6.size : Int) < (a0.size : Int)
           ·rw [if_pos c29] at H
            have c29b0 : decide ((x4_6.size : Int) < (a0.size : Int)) = true := decide_eq_true c29
            have c29b1 : decide (x4_6.size < a0.size) = true := decide_eq_true (Int.ofNat_lt.mp c29)
            clear c29
            replace H := Option.bind_eq_some_iff.mp H
            obtain ⟨⟨t274, t275⟩, A300, H⟩ := H
            replace H : (if t272 = 0 then (some (t274, t275, 0)) else (some (0, 0, t272))) = some (r1, r2, r3) := H
            have A30 := Aside0.mk A300
            clear A300
            by_cases c31 : t272 = 0
            ·rw [if_pos c31] at H
             have c31b0 : (t272 == 0) = true := beq_iff_eq.mpr c31
             have c31b1 : (t272 != 0) = false := bne_eq_false_iff_eq.mpr c31
             clear c31
             simp only [Option.some.injEq, Prod.mk.injEq] at H
             obtain ⟨rfl, rfl, rfl⟩ := H
             go_wp2_with (first | ((with_reducible refine gate_callee (f := 47) rfl ?_); refine goesL_ (some 68) rfl rfl Try.func47 (by kernel_rfl) rfl #[.string t264] rfl q20 ?_; (with_reducible refine (accountingref03_number.calls kj18 t264 t268 _ A26.out).mono ?_); rintro e w' ⟨rfl, ⟨nd, rfl⟩⟩; refine ⟨_, rfl, ?_⟩; (try (rw [drewN_self wc]; generalize hq_ : World.drewN wc _ = wc; have n0_ : Aside0 (wc.heap[gb259]? = some (.cells #[.int .i64 0, .int .i64 0] 23 (0, 0))) := ⟨q87⟩; have n1_ : Aside0 (Below w.heap.size w wc) := ⟨q88⟩; clear BK259 HB hq_; have BK259 := n0_; have HB := n1_; clear n0_ n1_))) | ((with_reducible refine gate_callee (f := 47) rfl ?_); refine goesL_ (some 70) rfl rfl Try.func47 (by kernel_rfl) rfl #[.string t266] rfl q20 ?_; (with_reducible refine (accountingref03_number.calls kj18 t266 t269 _ A27.out).mono ?_); rintro e w' ⟨rfl, ⟨nd, rfl⟩⟩; refine ⟨_, rfl, ?_⟩; (try (rw [drewN_self wc]; generalize hq_ : World.drewN wc _ = wc; have n0_ : Aside0 (wc.heap[gb259]? = some (.cells #[.int .i64 0, .int .i64 0] 23 (0, 0))) := ⟨q87⟩; have n1_ : Aside0 (Below w.heap.size w wc) := ⟨q88⟩; clear BK259 HB hq_; have BK259 := n0_; have HB := n1_; clear n0_ n1_))) | ((with_reducible refine gate_callee (f := 16) rfl ?_); refine goesL_ (some 71) rfl rfl Try.func16 (by kernel_rfl) rfl #[.int .i64 t268, .int .i64 t269] rfl q20 ?_; (with_reducible refine (accountingref03_Make.calls kj18 t268 t269 t270 t271 t272 _ A28.out).mono ?_); rintro e w32 ⟨rfl, hb⟩; refine ⟨_, rfl, ?_⟩; have n0_ := Aside0.mk (blk_below (g := gb259) (o := .cells #[.int .i64 0, .int .i64 0] 23 (0, 0)) q83 hb); have n1_ := Aside0.mk (below_step q84 hb); clear BK259; clear HB; have BK259 := n0_; have HB := n1_; clear n0_ n1_; (try clear hb); (try clear hb2); (try clear hk); (try clear hi)) | ((with_reducible refine gate_dst (N := 9) rfl ?_); (try (refine gate_guard (by rfl) ?_; dsimp only)); refine box_event ?hg (N := 9) ?hd (cs := #[.int .i64 0, .int .i64 0]) (t := 23) ?hr ?_; (case hd => rfl); (case hg => rfl); (case hr => first | (go_simp; done) | (go_simp; rfl)); intro gb273 hg w33 hbox hb; have n0_ := Aside0.mk (blk_below (g := gb259) (o := .cells #[.int .i64 0, .int .i64 0] 23 (0, 0)) q83 hb); have n1_ := Aside0.mk (below_step q84 hb); have n2_ := Aside0.mk (hbox); have n3_ := Aside0.mk ((q89 : w.heap.size ≤ gb273)); have n4_ := Aside0.mk ((q89 : w.heap.size ≤ gb273)); have n5_ := Aside0.mk ((q90 : gb259 ≠ gb273)); have n6_ := Aside0.mk ((q91 : gb273 ≠ gb259)); clear BK259; clear HB; have BK259 := n0_; have HB := n1_; have BK273 := n2_; have GW273 := n3_; have GE273 := n4_; have NB259_273 := n5_; have NB273_259 := n6_; clear n0_ n1_ n2_ n3_ n4_ n5_ n6_; clear hb hbox hg; have hnb34 := NB273_259.out; have hnc34 := NB259_273.out; have hcz35_0 : w33.cell? ⟨gb273, 0, none⟩ = some (.int .i64 0) := (blk_cell BK273.out 0).trans rfl; have hcz35_1 : w33.cell? ⟨gb273, 1, none⟩ = some (.int .i64 0) := (blk_cell BK273.out 1).trans rfl; have hfz35_0 := blk_frozen BK273.out 0; have hfz35_1 := blk_frozen BK273.out 1) | ((with_reducible refine gate_callee (f := 48) rfl ?_); refine goesL_ (some 80) rfl rfl Try.func48 (by kernel_rfl) rfl #[.agg #[.int .i64 t270, .int .i64 t271]] rfl q20 ?_; (with_reducible refine (accountingref03_Neg.calls t270 t271 t274 t275 _ A30.out).mono ?_); rintro e w36 ⟨rfl, hb⟩; refine ⟨_, rfl, ?_⟩; have n0_ := Aside0.mk (blk_below (g := gb259) (o := .cells #[.int .i64 0, .int .i64 0] 23 (0, 0)) (by (with_reducible repeat (first | refine blk_drewN ?_ _ | refine blk_drew ?_ | refine blk_alloc ?_ _)); refine blk_far ?_ NB259_273.out _; (with_reducible repeat (first | refine blk_drewN ?_ _ | refine blk_drew ?_ | refine blk_alloc ?_ _)); refine blk_far ?_ NB259_273.out _; (with_reducible repeat (first | refine blk_drewN ?_ _ | refine blk_drew ?_ | refine blk_alloc ?_ _)); exact BK259.out) hb); have n1_ := Aside0.mk (blk_below (g := gb273) (o := .cells #[.int .i64 t270, .int .i64 t271] 23 (0, 0)) (by (with_reducible repeat (first | refine blk_drewN ?_ _ | refine blk_drew ?_ | refine blk_alloc ?_ _)); refine blk_put (cs := #[.int .i64 t270, .int .i64 0]) ?_ 1 _ rfl; (with_reducible repeat (first | refine blk_drewN ?_ _ | refine blk_drew ?_ | refine blk_alloc ?_ _)); refine blk_put (cs := #[.int .i64 0, .int .i64 0]) ?_ 0 _ rfl; (with_reducible repeat (first | refine blk_drewN ?_ _ | refine blk_drew ?_ | refine blk_alloc ?_ _)); exact BK273.out) hb); have n2_ := Aside0.mk (below_step q92 hb); clear BK259; clear BK273; clear HB; have BK259 := n0_; have BK273 := n1_; have HB := n2_; clear n0_ n1_ n2_; (try clear hb); (try clear hb2); (try clear hk); (try clear hi); have hcz37_0 : w36.cell? ⟨gb273, 0, none⟩ = some (.int .i64 t270) := (blk_cell BK273.out 0).trans rfl; have hcz37_1 : w36.cell? ⟨gb273, 1, none⟩ = some (.int .i64 t271) := (blk_cell BK273.out 1).trans rfl; have hfz37_0 := blk_frozen BK273.out 0; have hfz37_1 := blk_frozen BK273.out 1; have hcz38_0 : w36.cell? ⟨gb259, 0, none⟩ = some (.int .i64 0) := (blk_cell BK259.out 0).trans rfl; have hcz38_1 : w36.cell? ⟨gb259, 1, none⟩ = some (.int .i64 0) := (blk_cell BK259.out 1).trans rfl; have hfz38_0 := blk_frozen BK259.out 0; have hfz38_1 := blk_frozen BK259.out 1))
             refine bodyPost_ret (results_ct rfl _ _ gb259 23 #[.int .i64 t274, .int .i64 t275] (0, 0) _ rfl (by (with_reducible repeat (first | refine blk_drewN ?_ _ | refine blk_drew ?_ | refine blk_alloc ?_ _)); refine blk_put (cs := #[.int .i64 t274, .int .i64 0]) ?_ 1 _ rfl; (with_reducible repeat (first | refine blk_drewN ?_ _ | refine blk_drew ?_ | refine blk_alloc ?_ _)); refine blk_put (cs := #[.int .i64 0, .int .i64 0]) ?_ 0 _ rfl; (with_reducible repeat (first | refine blk_drewN ?_ _ | refine blk_drew ?_ | refine blk_alloc ?_ _)); refine blk_far ?_ NB259_273.out _; (with_reducible repeat (first | refine blk_drewN ?_ _ | refine blk_drew ?_ | refine blk_alloc ?_ _)); refine blk_far ?_ NB259_273.out _; (with_reducible repeat (first | refine blk_drewN ?_ _ | refine blk_drew ?_ | refine blk_alloc ?_ _)); exact BK259.out) Try.underlying23 rfl (by kernel_rfl)) rfl ?_
             exact ⟨q13, q92⟩
            ·rw [if_neg c31] at H
             have c31b0 : (t272 == 0) = false := beq_eq_false_iff_ne.mpr c31
             have c31b1 : (t272 != 0) = true := bne_iff_ne.mpr c31
             simp only [Option.some.injEq, Prod.mk.injEq] at H
             obtain ⟨rfl, rfl, rfl⟩ := H
             go_wp2_with (first | ((with_reducible refine gate_callee (f := 47) rfl ?_); refine goesL_ (some 68) rfl rfl Try.func47 (by kernel_rfl) rfl #[.string t264] rfl q20 ?_; (with_reducible refine (accountingref03_number.calls kj18 t264 t268 _ A26.out).mono ?_); rintro e w' ⟨rfl, ⟨nd, rfl⟩⟩; refine ⟨_, rfl, ?_⟩; (try (rw [drewN_self wc]; generalize hq_ : World.drewN wc _ = wc; have n0_ : Aside0 (wc.heap[gb259]? = some (.cells #[.int .i64 0, .int .i64 0] 23 (0, 0))) := ⟨q87⟩; have n1_ : Aside0 (Below w.heap.size w wc) := ⟨q88⟩; clear BK259 HB hq_; have BK259 := n0_; have HB := n1_; clear n0_ n1_))) | ((with_reducible refine gate_callee (f := 47) rfl ?_); refine goesL_ (some 70) rfl rfl Try.func47 (by kernel_rfl) rfl #[.string t266] rfl q20 ?_; (with_reducible refine (accountingref03_number.calls kj18 t266 t269 _ A27.out).mono ?_); rintro e w' ⟨rfl, ⟨nd, rfl⟩⟩; refine ⟨_, rfl, ?_⟩; (try (rw [drewN_self wc]; generalize hq_ : World.drewN wc _ = wc; have n0_ : Aside0 (wc.heap[gb259]? = some (.cells #[.int .i64 0, .int .i64 0] 23 (0, 0))) := ⟨q87⟩; have n1_ : Aside0 (Below w.heap.size w wc) := ⟨q88⟩; clear BK259 HB hq_; have BK259 := n0_; have HB := n1_; clear n0_ n1_))) | ((with_reducible refine gate_callee (f := 16) rfl ?_); refine goesL_ (some 71) rfl rfl Try.func16 (by kernel_rfl) rfl #[.int .i64 t268, .int .i64 t269] rfl q20 ?_; (with_reducible refine (accountingref03_Make.calls kj18 t268 t269 t270 t271 t272 _ A28.out).mono ?_); rintro e w39 ⟨rfl, hb⟩; refine ⟨_, rfl, ?_⟩; have n0_ := Aside0.mk (blk_below (g := gb259) (o := .cells #[.int .i64 0, .int .i64 0] 23 (0, 0)) q83 hb); have n1_ := Aside0.mk (below_step q84 hb); clear BK259; clear HB; have BK259 := n0_; have HB := n1_; clear n0_ n1_; (try clear hb); (try clear hb2); (try clear hk); (try clear hi)) | ((with_reducible refine gate_dst (N := 9) rfl ?_); (try (refine gate_guard (by rfl) ?_; dsimp only)); refine box_event ?hg (N := 9) ?hd (cs := #[.int .i64 0, .int .i64 0]) (t := 23) ?hr ?_; (case hd => rfl); (case hg => rfl); (case hr => first | (go_simp; done) | (go_simp; rfl)); intro gb273 hg w40 hbox hb; have n0_ := Aside0.mk (blk_below (g := gb259) (o := .cells #[.int .i64 0, .int .i64 0] 23 (0, 0)) q83 hb); have n1_ := Aside0.mk (below_step q84 hb); have n2_ := Aside0.mk (hbox); have n3_ := Aside0.mk ((q89 : w.heap.size ≤ gb273)); have n4_ := Aside0.mk ((q89 : w.heap.size ≤ gb273)); have n5_ := Aside0.mk ((q90 : gb259 ≠ gb273)); have n6_ := Aside0.mk ((q91 : gb273 ≠ gb259)); clear BK259; clear HB; have BK259 := n0_; have HB := n1_; have BK273 := n2_; have GW273 := n3_; have GE273 := n4_; have NB259_273 := n5_; have NB273_259 := n6_; clear n0_ n1_ n2_ n3_ n4_ n5_ n6_; clear hb hbox hg; have hnb41 := NB273_259.out; have hnc41 := NB259_273.out; have hcz42_0 : w40.cell? ⟨gb273, 0, none⟩ = some (.int .i64 0) := (blk_cell BK273.out 0).trans rfl; have hcz42_1 : w40.cell? ⟨gb273, 1, none⟩ = some (.int .i64 0) := (blk_cell BK273.out 1).trans rfl; have hfz42_0 := blk_frozen BK273.out 0; have hfz42_1 := blk_frozen BK273.out 1) | ((with_reducible refine gate_callee (f := 48) rfl ?_); refine goesL_ (some 80) rfl rfl Try.func48 (by kernel_rfl) rfl #[.agg #[.int .i64 t270, .int .i64 t271]] rfl q20 ?_; (with_reducible refine (accountingref03_Neg.calls t270 t271 t274 t275 _ A30.out).mono ?_); rintro e w43 ⟨rfl, hb⟩; refine ⟨_, rfl, ?_⟩; have n0_ := Aside0.mk (blk_below (g := gb259) (o := .cells #[.int .i64 0, .int .i64 0] 23 (0, 0)) (by (with_reducible repeat (first | refine blk_drewN ?_ _ | refine blk_drew ?_ | refine blk_alloc ?_ _)); refine blk_far ?_ NB259_273.out _; (with_reducible repeat (first | refine blk_drewN ?_ _ | refine blk_drew ?_ | refine blk_alloc ?_ _)); refine blk_far ?_ NB259_273.out _; (with_reducible repeat (first | refine blk_drewN ?_ _ | refine blk_drew ?_ | refine blk_alloc ?_ _)); exact BK259.out) hb); have n1_ := Aside0.mk (blk_below (g := gb273) (o := .cells #[.int .i64 t270, .int .i64 t271] 23 (0, 0)) (by (with_reducible repeat (first | refine blk_drewN ?_ _ | refine blk_drew ?_ | refine blk_alloc ?_ _)); refine blk_put (cs := #[.int .i64 t270, .int .i64 0]) ?_ 1 _ rfl; (with_reducible repeat (first | refine blk_drewN ?_ _ | refine blk_drew ?_ | refine blk_alloc ?_ _)); refine blk_put (cs := #[.int .i64 0, .int .i64 0]) ?_ 0 _ rfl; (with_reducible repeat (first | refine blk_drewN ?_ _ | refine blk_drew ?_ | refine blk_alloc ?_ _)); exact BK273.out) hb); have n2_ := Aside0.mk (below_step q92 hb); clear BK259; clear BK273; clear HB; have BK259 := n0_; have BK273 := n1_; have HB := n2_; clear n0_ n1_ n2_; (try clear hb); (try clear hb2); (try clear hk); (try clear hi); have hcz44_0 : w43.cell? ⟨gb273, 0, none⟩ = some (.int .i64 t270) := (blk_cell BK273.out 0).trans rfl; have hcz44_1 : w43.cell? ⟨gb273, 1, none⟩ = some (.int .i64 t271) := (blk_cell BK273.out 1).trans rfl; have hfz44_0 := blk_frozen BK273.out 0; have hfz44_1 := blk_frozen BK273.out 1; have hcz45_0 : w43.cell? ⟨gb259, 0, none⟩ = some (.int .i64 0) := (blk_cell BK259.out 0).trans rfl; have hcz45_1 : w43.cell? ⟨gb259, 1, none⟩ = some (.int .i64 0) := (blk_cell BK259.out 1).trans rfl; have hfz45_0 := blk_frozen BK259.out 0; have hfz45_1 := blk_frozen BK259.out 1))
             refine bodyPost_ret (results_ct rfl _ _ gb259 23 #[.int .i64 0, .int .i64 0] (0, 0) _ rfl (by (with_reducible repeat (first | refine blk_drewN ?_ _ | refine blk_drew ?_ | refine blk_alloc ?_ _)); refine blk_put (cs := #[.int .i64 0, .int .i64 0]) ?_ 1 _ rfl; (with_reducible repeat (first | refine blk_drewN ?_ _ | refine blk_drew ?_ | refine blk_alloc ?_ _)); refine blk_put (cs := #[.int .i64 0, .int .i64 0]) ?_ 0 _ rfl; (with_reducible repeat (first | refine blk_drewN ?_ _ | refine blk_drew ?_ | refine blk_alloc ?_ _)); refine blk_far ?_ NB259_273.out _; (with_reducible repeat (first | refine blk_drewN ?_ _ | refine blk_drew ?_ | refine blk_alloc ?_ _)); refine blk_far ?_ NB259_273.out _; (with_reducible repeat (first | refine blk_drewN ?_ _ | refine blk_drew ?_ | refine blk_alloc ?_ _)); exact BK259.out) Try.underlying23 rfl (by kernel_rfl)) rfl ?_
             exact ⟨q13, q92⟩
           ·rw [if_neg c29] at H
            have c29b0 : decide ((x4_6.size : Int) < (a0.size : Int)) = false := decide_eq_false c29
            have c29b1 : decide (x4_6.size < a0.size) = false := decide_eq_false (fun h => c29 (Int.ofNat_lt.mpr h))
            clear c29
            by_cases c46 : t272 = 0
            ·rw [if_pos c46] at H
             have c46b0 : (t272 == 0) = true := beq_iff_eq.mpr c46
             have c46b1 : (t272 != 0) = false := bne_eq_false_iff_eq.mpr c46
             clear c46
             simp only [Option.some.injEq, Prod.mk.injEq] at H
             obtain ⟨rfl, rfl, rfl⟩ := H
             go_wp2_with (first | ((with_reducible refine gate_callee (f := 47) rfl ?_); refine goesL_ (some 68) rfl rfl Try.func47 (by kernel_rfl) rfl #[.string t264] rfl q20 ?_; (with_reducible refine (accountingref03_number.calls kj18 t264 t268 _ A26.out).mono ?_); rintro e w' ⟨rfl, ⟨nd, rfl⟩⟩; refine ⟨_, rfl, ?_⟩; (try (rw [drewN_self wc]; generalize hq_ : World.drewN wc _ = wc; have n0_ : Aside0 (wc.heap[gb259]? = some (.cells #[.int .i64 0, .int .i64 0] 23 (0, 0))) := ⟨q87⟩; have n1_ : Aside0 (Below w.heap.size w wc) := ⟨q88⟩; clear BK259 HB hq_; have BK259 := n0_; have HB := n1_; clear n0_ n1_))) | ((with_reducible refine gate_callee (f := 47) rfl ?_); refine goesL_ (some 70) rfl rfl Try.func47 (by kernel_rfl) rfl #[.string t266] rfl q20 ?_; (with_reducible refine (accountingref03_number.calls kj18 t266 t269 _ A27.out).mono ?_); rintro e w' ⟨rfl, ⟨nd, rfl⟩⟩; refine ⟨_, rfl, ?_⟩; (try (rw [drewN_self wc]; generalize hq_ : World.drewN wc _ = wc; have n0_ : Aside0 (wc.heap[gb259]? = some (.cells #[.int .i64 0, .int .i64 0] 23 (0, 0))) := ⟨q87⟩; have n1_ : Aside0 (Below w.heap.size w wc) := ⟨q88⟩; clear BK259 HB hq_; have BK259 := n0_; have HB := n1_; clear n0_ n1_))) | ((with_reducible refine gate_callee (f := 16) rfl ?_); refine goesL_ (some 71) rfl rfl Try.func16 (by kernel_rfl) rfl #[.int .i64 t268, .int .i64 t269] rfl q20 ?_; (with_reducible refine (accountingref03_Make.calls kj18 t268 t269 t270 t271 t272 _ A28.out).mono ?_); rintro e w47 ⟨rfl, hb⟩; refine ⟨_, rfl, ?_⟩; have n0_ := Aside0.mk (blk_below (g := gb259) (o := .cells #[.int .i64 0, .int .i64 0] 23 (0, 0)) q83 hb); have n1_ := Aside0.mk (below_step q84 hb); clear BK259; clear HB; have BK259 := n0_; have HB := n1_; clear n0_ n1_; (try clear hb); (try clear hb2); (try clear hk); (try clear hi)) | ((with_reducible refine gate_dst (N := 9) rfl ?_); (try (refine gate_guard (by rfl) ?_; dsimp only)); refine box_event ?hg (N := 9) ?hd (cs := #[.int .i64 0, .int .i64 0]) (t := 23) ?hr ?_; (case hd => rfl); (case hg => rfl); (case hr => first | (go_simp; done) | (go_simp; rfl)); intro gb273 hg w48 hbox hb; have n0_ := Aside0.mk (blk_below (g := gb259) (o := .cells #[.int .i64 0, .int .i64 0] 23 (0, 0)) q83 hb); have n1_ := Aside0.mk (below_step q84 hb); have n2_ := Aside0.mk (hbox); have n3_ := Aside0.mk ((q89 : w.heap.size ≤ gb273)); have n4_ := Aside0.mk ((q89 : w.heap.size ≤ gb273)); have n5_ := Aside0.mk ((q90 : gb259 ≠ gb273)); have n6_ := Aside0.mk ((q91 : gb273 ≠ gb259)); clear BK259; clear HB; have BK259 := n0_; have HB := n1_; have BK273 := n2_; have GW273 := n3_; have GE273 := n4_; have NB259_273 := n5_; have NB273_259 := n6_; clear n0_ n1_ n2_ n3_ n4_ n5_ n6_; clear hb hbox hg; have hnb49 := NB273_259.out; have hnc49 := NB259_273.out; have hcz50_0 : w48.cell? ⟨gb273, 0, none⟩ = some (.int .i64 0) := (blk_cell BK273.out 0).trans rfl; have hcz50_1 : w48.cell? ⟨gb273, 1, none⟩ = some (.int .i64 0) := (blk_cell BK273.out 1).trans rfl; have hfz50_0 := blk_frozen BK273.out 0; have hfz50_1 := blk_frozen BK273.out 1; have hcz51_0 : w48.cell? ⟨gb259, 0, none⟩ = some (.int .i64 0) := (blk_cell BK259.out 0).trans rfl; have hcz51_1 : w48.cell? ⟨gb259, 1, none⟩ = some (.int .i64 0) := (blk_cell BK259.out 1).trans rfl; have hfz51_0 := blk_frozen BK259.out 0; have hfz51_1 := blk_frozen BK259.out 1))
             refine bodyPost_ret (results_ct rfl _ _ gb259 23 #[.int .i64 t270, .int .i64 t271] (0, 0) _ rfl (by (with_reducible repeat (first | refine blk_drewN ?_ _ | refine blk_drew ?_ | refine blk_alloc ?_ _)); refine blk_put (cs := #[.int .i64 t270, .int .i64 0]) ?_ 1 _ rfl; (with_reducible repeat (first | refine blk_drewN ?_ _ | refine blk_drew ?_ | refine blk_alloc ?_ _)); refine blk_put (cs := #[.int .i64 0, .int .i64 0]) ?_ 0 _ rfl; (with_reducible repeat (first | refine blk_drewN ?_ _ | refine blk_drew ?_ | refine blk_alloc ?_ _)); refine blk_far ?_ NB259_273.out _; (with_reducible repeat (first | refine blk_drewN ?_ _ | refine blk_drew ?_ | refine blk_alloc ?_ _)); refine blk_far ?_ NB259_273.out _; (with_reducible repeat (first | refine blk_drewN ?_ _ | refine blk_drew ?_ | refine blk_alloc ?_ _)); exact BK259.out) Try.underlying23 rfl (by kernel_rfl)) rfl ?_
             exact ⟨q13, q92⟩
            ·rw [if_neg c46] at H
             have c46b0 : (t272 == 0) = false := beq_eq_false_iff_ne.mpr c46
             have c46b1 : (t272 != 0) = true := bne_iff_ne.mpr c46
             simp only [Option.some.injEq, Prod.mk.injEq] at H
             obtain ⟨rfl, rfl, rfl⟩ := H
             go_wp2_with (first | ((with_reducible refine gate_callee (f := 47) rfl ?_); refine goesL_ (some 68) rfl rfl Try.func47 (by kernel_rfl) rfl #[.string t264] rfl q20 ?_; (with_reducible refine (accountingref03_number.calls kj18 t264 t268 _ A26.out).mono ?_); rintro e w' ⟨rfl, ⟨nd, rfl⟩⟩; refine ⟨_, rfl, ?_⟩; (try (rw [drewN_self wc]; generalize hq_ : World.drewN wc _ = wc; have n0_ : Aside0 (wc.heap[gb259]? = some (.cells #[.int .i64 0, .int .i64 0] 23 (0, 0))) := ⟨q87⟩; have n1_ : Aside0 (Below w.heap.size w wc) := ⟨q88⟩; clear BK259 HB hq_; have BK259 := n0_; have HB := n1_; clear n0_ n1_))) | ((with_reducible refine gate_callee (f := 47) rfl ?_); refine goesL_ (some 70) rfl rfl Try.func47 (by kernel_rfl) rfl #[.string t266] rfl q20 ?_; (with_reducible refine (accountingref03_number.calls kj18 t266 t269 _ A27.out).mono ?_); rintro e w' ⟨rfl, ⟨nd, rfl⟩⟩; refine ⟨_, rfl, ?_⟩; (try (rw [drewN_self wc]; generalize hq_ : World.drewN wc _ = wc; have n0_ : Aside0 (wc.heap[gb259]? = some (.cells #[.int .i64 0, .int .i64 0] 23 (0, 0))) := ⟨q87⟩; have n1_ : Aside0 (Below w.heap.size w wc) := ⟨q88⟩; clear BK259 HB hq_; have BK259 := n0_; have HB := n1_; clear n0_ n1_))) | ((with_reducible refine gate_callee (f := 16) rfl ?_); refine goesL_ (some 71) rfl rfl Try.func16 (by kernel_rfl) rfl #[.int .i64 t268, .int .i64 t269] rfl q20 ?_; (with_reducible refine (accountingref03_Make.calls kj18 t268 t269 t270 t271 t272 _ A28.out).mono ?_); rintro e w52 ⟨rfl, hb⟩; refine ⟨_, rfl, ?_⟩; have n0_ := Aside0.mk (blk_below (g := gb259) (o := .cells #[.int .i64 0, .int .i64 0] 23 (0, 0)) q83 hb); have n1_ := Aside0.mk (below_step q84 hb); clear BK259; clear HB; have BK259 := n0_; have HB := n1_; clear n0_ n1_; (try clear hb); (try clear hb2); (try clear hk); (try clear hi)) | ((with_reducible refine gate_dst (N := 9) rfl ?_); (try (refine gate_guard (by rfl) ?_; dsimp only)); refine box_event ?hg (N := 9) ?hd (cs := #[.int .i64 0, .int .i64 0]) (t := 23) ?hr ?_; (case hd => rfl); (case hg => rfl); (case hr => first | (go_simp; done) | (go_simp; rfl)); intro gb273 hg w53 hbox hb; have n0_ := Aside0.mk (blk_below (g := gb259) (o := .cells #[.int .i64 0, .int .i64 0] 23 (0, 0)) q83 hb); have n1_ := Aside0.mk (below_step q84 hb); have n2_ := Aside0.mk (hbox); have n3_ := Aside0.mk ((q89 : w.heap.size ≤ gb273)); have n4_ := Aside0.mk ((q89 : w.heap.size ≤ gb273)); have n5_ := Aside0.mk ((q90 : gb259 ≠ gb273)); have n6_ := Aside0.mk ((q91 : gb273 ≠ gb259)); clear BK259; clear HB; have BK259 := n0_; have HB := n1_; have BK273 := n2_; have GW273 := n3_; have GE273 := n4_; have NB259_273 := n5_; have NB273_259 := n6_; clear n0_ n1_ n2_ n3_ n4_ n5_ n6_; clear hb hbox hg; have hnb54 := NB273_259.out; have hnc54 := NB259_273.out; have hcz55_0 : w53.cell? ⟨gb273, 0, none⟩ = some (.int .i64 0) := (blk_cell BK273.out 0).trans rfl; have hcz55_1 : w53.cell? ⟨gb273, 1, none⟩ = some (.int .i64 0) := (blk_cell BK273.out 1).trans rfl; have hfz55_0 := blk_frozen BK273.out 0; have hfz55_1 := blk_frozen BK273.out 1; have hcz56_0 : w53.cell? ⟨gb259, 0, none⟩ = some (.int .i64 0) := (blk_cell BK259.out 0).trans rfl; have hcz56_1 : w53.cell? ⟨gb259, 1, none⟩ = some (.int .i64 0) := (blk_cell BK259.out 1).trans rfl; have hfz56_0 := blk_frozen BK259.out 0; have hfz56_1 := blk_frozen BK259.out 1))
             refine bodyPost_ret (results_ct rfl _ _ gb259 23 #[.int .i64 0, .int .i64 0] (0, 0) _ rfl (by (with_reducible repeat (first | refine blk_drewN ?_ _ | refine blk_drew ?_ | refine blk_alloc ?_ _)); refine blk_put (cs := #[.int .i64 0, .int .i64 0]) ?_ 1 _ rfl; (with_reducible repeat (first | refine blk_drewN ?_ _ | refine blk_drew ?_ | refine blk_alloc ?_ _)); refine blk_put (cs := #[.int .i64 0, .int .i64 0]) ?_ 0 _ rfl; (with_reducible repeat (first | refine blk_drewN ?_ _ | refine blk_drew ?_ | refine blk_alloc ?_ _)); refine blk_far ?_ NB259_273.out _; (with_reducible repeat (first | refine blk_drewN ?_ _ | refine blk_drew ?_ | refine blk_alloc ?_ _)); refine blk_far ?_ NB259_273.out _; (with_reducible repeat (first | refine blk_drewN ?_ _ | refine blk_drew ?_ | refine blk_alloc ?_ _)); exact BK259.out) Try.underlying23 rfl (by kernel_rfl)) rfl ?_
             exact ⟨q13, q92⟩

end Go.Proofs.Ytoenhagbgfkihaa.A
