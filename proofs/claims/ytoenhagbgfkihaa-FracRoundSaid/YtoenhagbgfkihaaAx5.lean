-- By gen.py, a program of this session's, over the print's forms: not the print's own text.
import Derived.Test.YtoenhagbgfkihaaAx0
import Derived.Test.YtoenhagbgfkihaaQ
import Derived.Test.YtoenhagbgfkihaaAx4
namespace Go.Proofs.Ytoenhagbgfkihaa.A
open Go.RowKit Go.Proofs.Ytoenhagbgfkihaa.B Go.Proofs.YtoenhagbgfkihaaW.PrintWords Go.Proofs.YtoenhagbgfkihaaW.PrintLast Go.Proofs.YtoenhagbgfkihaaW.PrintMore
attribute [local go_sem] max2_int min2_int max_two min_two max_three min_three max_four min_four   -- for this text's walks alone
set_option linter.unusedVariables false
set_option linter.unusedSimpArgs false

/-! ### frac_split: function 41 -/
mutual
def frac_split.j0 : Nat → List Int → ByteArray → Bool → Option (List Int × List Int × Bool)
 | 0, _, _, _ => none
 | k + 1, x2, x5, x26 => if x26 = true then (some (([] : List Int), ([] : List Int), false)) else (if x5.toList = ([] : List UInt8) then (some (x2, (([1] : List Int)), true)) else (if 1 ≤ (x5.size : Int) then ((frac_scan.f k (x5.extract 1 x5.size)).bind fun bt133 => (if (bt133.1.length : Int) = 0 then (frac_split.j1 k x2 x5 bt133.1 true) else (frac_split.j1 k x2 x5 bt133.1 (bt133.2.toList != ([] : List UInt8))))) else (none)))
def frac_split.j1 : Nat → List Int → ByteArray → List Int → Bool → Option (List Int × List Int × Bool)
 | 0, _, _, _, _ => none
 | k + 1, x2, x5, x6, x43 => if x43 = true then (some (([] : List Int), ([] : List Int), false)) else (if 0 < (x5.size : Int) then (if (bt x5 0) = 47 then (if 0 < (x6.length : Int) then (some (x2, x6, ((rd x6 0) != 0))) else (none)) else (if (bt x5 0) = 46 then (frac_split.l0 k x2 (([1] : List Int)) x6 (x6.length : Int) 0) else (some (([] : List Int), ([] : List Int), false)))) else (none))
def frac_split.l0 : Nat → List Int → List Int → List Int → Int → Int → Option (List Int × List Int × Bool)
 | 0, _, _, _, _, _ => none
 | k + 1, x2, x3, x6, x58, x59 => if x59 < x58 then (if x3.length < 140737488355328 then (frac_split.l0 k x2 (x3 ++ [0]) x6 x58 (wrap64 (x59 + 1))) else (none)) else (if x2.length + x6.length < 140737488355328 then (some ((x2 ++ x6), x3, decide ((x6.length : Int) ≤ 6))) else (none))
end
def frac_split.f (k : Nat) (a0 : ByteArray) : Option (List Int × List Int × Bool) := (frac_scan.f k a0).bind fun bt125 => (if (bt125.1.length : Int) = 0 then (frac_split.j0 k bt125.1 bt125.2 true) else (if (bt125.1.length : Int) > 1 then (if 0 < (bt125.1.length : Int) then (frac_split.j0 k bt125.1 bt125.2 ((rd bt125.1 0) == 0)) else (none)) else (frac_split.j0 k bt125.1 bt125.2 false)))
theorem frac_split.mono_l : ∀ k, (∀ y0 y1 y2, LeO (frac_split.j0 k y0 y1 y2) (frac_split.j0 (k + 1) y0 y1 y2)) ∧ (∀ y0 y1 y2 y3, LeO (frac_split.j1 k y0 y1 y2 y3) (frac_split.j1 (k + 1) y0 y1 y2 y3)) ∧ (∀ y0 y1 y2 y3 y4, LeO (frac_split.l0 k y0 y1 y2 y3 y4) (frac_split.l0 (k + 1) y0 y1 y2 y3 y4))
 | 0 => ⟨fun _ _ _ r h => by simp [frac_split.j0] at h, fun _ _ _ _ r h => by simp [frac_split.j1] at h, fun _ _ _ _ _ r h => by simp [frac_split.l0] at h⟩
 | k + 1 => by
  obtain ⟨ih0, ih1, ih2⟩ := frac_split.mono_l k
  refine ⟨?_, ?_, ?_⟩
  ·intro y0 y1 y2
   unfold frac_split.j0
   repeat' first
   | (with_reducible exact ih0 _ _ _)
   | (with_reducible exact ih1 _ _ _ _)
   | (with_reducible exact ih2 _ _ _ _ _)
   | (with_reducible exact frac_scan.mono _ _)
   | (with_reducible exact LeO.refl _)
   | (with_reducible exact LeO.none _)
   | (with_reducible refine LeO.ite ?_ ?_)
   | (with_reducible refine LeO.bind ?_ (fun _ => ?_))
   | exact ih0 _ _ _
   | exact ih1 _ _ _ _
   | exact ih2 _ _ _ _ _
   | exact frac_scan.mono _ _
   | exact LeO.none _
   | refine LeO.ite ?_ ?_
   | refine LeO.bind ?_ (fun _ => ?_)
  ·intro y0 y1 y2 y3
   unfold frac_split.j1
   repeat' first
   | (with_reducible exact ih0 _ _ _)
   | (with_reducible exact ih1 _ _ _ _)
   | (with_reducible exact ih2 _ _ _ _ _)
   | (with_reducible exact frac_scan.mono _ _)
   | (with_reducible exact LeO.refl _)
   | (with_reducible exact LeO.none _)
   | (with_reducible refine LeO.ite ?_ ?_)
   | (with_reducible refine LeO.bind ?_ (fun _ => ?_))
   | exact ih0 _ _ _
   | exact ih1 _ _ _ _
   | exact ih2 _ _ _ _ _
   | exact frac_scan.mono _ _
   | exact LeO.none _
   | refine LeO.ite ?_ ?_
   | refine LeO.bind ?_ (fun _ => ?_)
  ·intro y0 y1 y2 y3 y4
   unfold frac_split.l0
   repeat' first
   | (with_reducible exact ih0 _ _ _)
   | (with_reducible exact ih1 _ _ _ _)
   | (with_reducible exact ih2 _ _ _ _ _)
   | (with_reducible exact frac_scan.mono _ _)
   | (with_reducible exact LeO.refl _)
   | (with_reducible exact LeO.none _)
   | (with_reducible refine LeO.ite ?_ ?_)
   | (with_reducible refine LeO.bind ?_ (fun _ => ?_))
   | exact ih0 _ _ _
   | exact ih1 _ _ _ _
   | exact ih2 _ _ _ _ _
   | exact frac_scan.mono _ _
   | exact LeO.none _
   | refine LeO.ite ?_ ?_
   | refine LeO.bind ?_ (fun _ => ?_)
theorem frac_split.mono : ∀ a0 k, LeO (frac_split.f k a0) (frac_split.f (k + 1) a0) := by
 intro a0 k
 obtain ⟨ih0, ih1, ih2⟩ := frac_split.mono_l k
 unfold frac_split.f
 repeat' first
   | (with_reducible exact ih0 _ _ _)
   | (with_reducible exact ih1 _ _ _ _)
   | (with_reducible exact ih2 _ _ _ _ _)
   | (with_reducible exact frac_scan.mono _ _)
   | (with_reducible exact LeO.refl _)
   | (with_reducible exact LeO.none _)
   | (with_reducible refine LeO.ite ?_ ?_)
   | (with_reducible refine LeO.bind ?_ (fun _ => ?_))
   | exact ih0 _ _ _
   | exact ih1 _ _ _ _
   | exact ih2 _ _ _ _ _
   | exact frac_scan.mono _ _
   | exact LeO.none _
   | refine LeO.ite ?_ ?_
   | refine LeO.bind ?_ (fun _ => ?_)
set_option maxHeartbeats 8000000 in
set_option maxRecDepth 100000 in
theorem frac_split.calls (k : Nat) (a0 : ByteArray) (r1 : List Int) (r2 : List Int) (r3 : Bool) (w : World) (h : frac_split.f k a0 = some (r1, r2, r3)) :
  Calls Try.prog 41 #[.string a0] w fun e w' => ∃ v0_ v1_ : Value, e = .returned (.tuple #[v0_, v1_, .bool r3]) ∧ Kd.R (Kd.int .u8) 5 w' w.heap.size (fun k_ => some k_ ≠ (v1_ : Value).ownBlock) v0_ r1 ∧ Kd.R (Kd.int .u8) 5 w' w.heap.size (fun k_ => some k_ ≠ (v0_ : Value).ownBlock) v1_ r2 ∧ Below w.heap.size w w' := by
 have HB := Aside0.mk (Below.refl w.heap.size w)
 have H : ((frac_scan.f k a0).bind fun bt125 => (if (bt125.1.length : Int) = 0 then (frac_split.j0 k bt125.1 bt125.2 true) else (if (bt125.1.length : Int) > 1 then (if 0 < (bt125.1.length : Int) then (frac_split.j0 k bt125.1 bt125.2 ((rd bt125.1 0) == 0)) else (none)) else (frac_split.j0 k bt125.1 bt125.2 false)))) = some (r1, r2, r3) := h
 clear h
 replace H := Option.bind_eq_some_iff.mp H
 obtain ⟨⟨t125, t126⟩, A20, H⟩ := H
 replace H : (if (t125.length : Int) = 0 then (frac_split.j0 k t125 t126 true) else (if (t125.length : Int) > 1 then (if 0 < (t125.length : Int) then (frac_split.j0 k t125 t126 ((rd t125 0) == 0)) else (none)) else (frac_split.j0 k t125 t126 false))) = some (r1, r2, r3) := H
 have A2 := Aside0.mk A20
 clear A20
 have HC3 := Aside0.mk H
 clear H
 go_enter Try.func41, Try.ntmps41
 go_upto_region 2 with (first | (go_at_call 65; (with_reducible refine (frac_scan.calls k a0 t125 t126 _ A2.out).mono ?_); rintro e w4 ⟨v127, rfl, ho0, hb⟩; have n0_ := Aside0.mk (Kd.R_lower ho0 (below_size q11)); have n1_ := Aside0.mk (below_step q11 hb); clear HB; have HO128 := n0_; have HB := n1_; clear n0_ n1_; (try clear hb); (try clear hb2); (try clear hk); (try clear hi); (try clear ho0)))
 repeat (go_quiet (first | (go_at_call 65; (with_reducible refine (frac_scan.calls k a0 t125 t126 _ A2.out).mono ?_); rintro e w4 ⟨v127, rfl, ho0, hb⟩; have n0_ := Aside0.mk (Kd.R_lower ho0 (below_size q11)); have n1_ := Aside0.mk (below_step q11 hb); clear HB; have HO128 := n0_; have HB := n1_; clear n0_ n1_; (try clear hb); (try clear hb2); (try clear hk); (try clear hi); (try clear ho0))); go_upto_region 2 with (first | (go_at_call 65; (with_reducible refine (frac_scan.calls k a0 t125 t126 _ A2.out).mono ?_); rintro e w4 ⟨v127, rfl, ho0, hb⟩; have n0_ := Aside0.mk (Kd.R_lower ho0 (below_size q11)); have n1_ := Aside0.mk (below_step q11 hb); clear HB; have HO128 := n0_; have HB := n1_; clear n0_ n1_; (try clear hb); (try clear hb2); (try clear hk); (try clear hi); (try clear ho0))))
 (try simp only [Act.put, List.setIfInBounds_toArray, List.set_cons_zero, List.set_cons_succ])
 go_cut [26] (fun v26 wc => ∃ (kq : Nat) (x26_2 : Bool), v26 = .bool x26_2 ∧ Aside0 (frac_split.j0 kq t125 t126 x26_2 = some (r1, r2, r3)) ∧ Aside0 (kq ≤ k) ∧ Aside0 (Kd.R (Kd.int .u8) 5 wc w.heap.size (fun _ => True) v127 t125) ∧ Aside0 (Below w.heap.size w wc))
 case first =>
  have H := HC3.out
  clear HC3
  by_cases c5 : (t125.length : Int) = 0
  ·rw [if_pos c5] at H
   have c5b0 : ((t125.length : Int) == 0) = true := beq_iff_eq.mpr c5
   have c5b1 : ((t125.length : Int) != 0) = false := bne_eq_false_iff_eq.mpr c5
   clear c5
   (first | rw [c5b0] | (simp only [i64_w, i32_w]; rw [c5b0]) | skip)
   have H' := Aside0.mk H
   clear H
   obtain ⟨Ao6, co6, eo6⟩ := Kd.R_slice HO128.out
   subst eo6
   go_wp2
   repeat (go_quiet (fail); try go_wp2)
   go_meet
   case rel => exact ⟨_, (true), q9, H', ⟨by first | omega | exact Nat.le_refl _⟩, ⟨q191⟩, ⟨q11⟩⟩
  ·rw [if_neg c5] at H
   have c5b0 : ((t125.length : Int) == 0) = false := beq_eq_false_iff_ne.mpr c5
   have c5b1 : ((t125.length : Int) != 0) = true := bne_iff_ne.mpr c5
   have c5b2 : ¬ (t125 = []) := fun h_ => c5 (by rw [h_]; rfl)
   (first | rw [c5b0] | (simp only [i64_w, i32_w]; rw [c5b0]) | skip)
   by_cases c7 : (t125.length : Int) > 1
   ·rw [if_pos c7] at H
    have c7b0 : decide (1 < (t125.length : Int)) = true := decide_eq_true c7
    have c7b1 : decide (1 < t125.length) = true := decide_eq_true (by omega)
    clear c7
    by_cases c8 : 0 < (t125.length : Int)
    ·rw [if_pos c8] at H
     have c8b0 : decide (0 < (t125.length : Int)) = true := decide_eq_true c8
     have c8b1 : decide (0 < t125.length) = true := decide_eq_true (by omega)
     clear c8
     have H' := Aside0.mk H
     clear H
     obtain ⟨Ao9, co9, eo9⟩ := Kd.R_slice HO128.out
     subst eo9
     have p129 : 0 ≤ (0 : Int) := (by omega)
     have q129 : 0 < (t125.length : Int) := of_decide_eq_true q78
     obtain ⟨ad129, e129, hx129_0⟩ := Kd.at_int (Kd.R_reads' HO128.out).2.2 0 p129 q129
     cases e129
     have qi129 : (0 < t125.length) = True := eq_true (by omega)
     (try rw [show ((0 : Int)).toNat = 0 from rfl] at hx129_0)
     (try rw [Addr.add_zero'] at hx129_0)
     replace p129 := eq_true p129
     replace q129 := eq_true q129
     go_wp2
     repeat (go_quiet (fail); try go_wp2)
     go_meet
     case rel => exact ⟨_, (((rd t125 0) == 0)), q9, H', ⟨by first | omega | exact Nat.le_refl _⟩, ⟨q191⟩, ⟨q11⟩⟩
    ·rw [if_neg c8] at H
     exact absurd H (by simp)
   ·rw [if_neg c7] at H
    have c7b0 : decide (1 < (t125.length : Int)) = false := decide_eq_false c7
    have c7b1 : decide (1 < t125.length) = false := decide_eq_false (by omega)
    clear c7
    have H' := Aside0.mk H
    clear H
    obtain ⟨Ao10, co10, eo10⟩ := Kd.R_slice HO128.out
    subst eo10
    go_wp2
    repeat (go_quiet (fail); try go_wp2)
    go_meet
    case rel => exact ⟨_, (false), q9, H', ⟨by first | omega | exact Nat.le_refl _⟩, ⟨q191⟩, ⟨q11⟩⟩
 case rest =>
  clear HC3
  try clear p1
  try clear q1
  try clear hx1
  try clear qi1
  try clear p2
  try clear c4
  try clear c5
  try clear c5b0
  try clear c5b1
  try clear c5b2
  try clear c7
  try clear c7b0
  try clear c7b1
  try clear c8
  try clear c8b0
  try clear c8b1
  try clear hx129_0
  try clear p129
  try clear q129
  obtain ⟨kq, x26_2, rfl, HA, HJ2, HO_2, HB⟩ := hcut
  cases kq with
  | zero => exact absurd HA.out (by simp [frac_split.j0])
  | succ kj2 =>
   have H := HA.out
   clear HA
   simp only [frac_split.j0] at H
   by_cases c11 : x26_2 = true
   ·subst c11
    have H1 : (some (([] : List Int), ([] : List Int), false)) = some (r1, r2, r3) := by rw [if_pos rfl] at H; exact H
    clear H
    have H := H1
    clear H1
    simp only [Option.some.injEq, Prod.mk.injEq] at H
    obtain ⟨rfl, rfl, rfl⟩ := H
    go_wp2
    repeat (go_quiet (fail); try go_wp2)
    go_ret3
    exact ⟨_, _, q13, q80, q80, q11⟩
   ·replace c11 := Bool.eq_false_iff.mpr c11
    subst c11
    have H1 : (if t126.toList = ([] : List UInt8) then (some (t125, (([1] : List Int)), true)) else (if 1 ≤ (t126.size : Int) then ((frac_scan.f kj2 (t126.extract 1 t126.size)).bind fun bt133 => (if (bt133.1.length : Int) = 0 then (frac_split.j1 kj2 t125 t126 bt133.1 true) else (frac_split.j1 kj2 t125 t126 bt133.1 (bt133.2.toList != ([] : List UInt8))))) else (none))) = some (r1, r2, r3) := by rw [if_neg (show ¬ (false = true) by decide)] at H; exact H
    clear H
    have H := H1
    clear H1
    by_cases c12 : t126.toList = ([] : List UInt8)
    ·rw [if_pos c12] at H
     have c12b0 : (t126.toList == ([] : List UInt8)) = true := beq_iff_eq.mpr c12
     have c12b1 : (t126.toList != ([] : List UInt8)) = false := bne_eq_false_iff_eq.mpr c12
     clear c12
     obtain ⟨y130, hy130⟩ : ∃ y_ : List Int, y_ = (([1] : List Int)) := ⟨_, rfl⟩
     replace H : (some (t125, y130, true)) = some (r1, r2, r3) := by first | (rw [hy130]; with_reducible exact H) | (have H2_ := (Option.bind_some _ _).symm.trans H; rw [hy130]; with_reducible exact H2_) | (have H2_ := (Option.bind_some _ _).symm.trans H; with_reducible exact H2_) | with_reducible exact H | (rw [hy130]; exact H) | exact H
     have Ny130 := Aside0.mk hy130
     clear hy130
     simp only [Option.some.injEq, Prod.mk.injEq] at H
     obtain ⟨rfl, rfl, rfl⟩ := H
     go_wp2_with (first | ((with_reducible refine gate_dst (N := 30) rfl ?_); (try (refine gate_guard (by rfl) ?_; dsimp only)); refine Kd.R_lit (Kd.int .u8) _ 5 ?hg (N := 30) ?hd (xs := ([1] : List Int)) (inner := [.int .u8 1]) (ok := fun _ => True) (okp := fun _ => True) ?hr ?hp (fun _ hk => hk) trivial (Below.refl _ _) (Nat.le_refl _) (by simp) ?_; (case hd => rfl); (case hg => rfl); (case hr => first | (go_simp; done) | (go_simp; rfl)); (case hp => exact (Reps.one (show Kd.M (Kd.int .u8) _ _ _ 1 [.int .u8 1] from rfl) (Reps.none _ _))); intro v131 w13 ho14 hb hg_ hnew_; clear hg_ hnew_; (first | rw [← Ny130.out] at ho14 | (simp only [Int.reduceToNat] at ho14; rw [← Ny130.out] at ho14)); have n0_ := Aside0.mk (Kd.R_elder' q192 (Kd.R_base ho14) hb); have n1_ := Aside0.mk (Kd.R_lower (Kd.R_new' ho14 (Kd.R_lt q192)) (below_size q11)); have n2_ := Aside0.mk (below_step q11 hb); clear HO_2; clear HB; have HO_2 := n0_; have HO132 := n1_; have HB := n2_; clear n0_ n1_ n2_; clear hb ho14))
     repeat (go_quiet (first | ((with_reducible refine gate_dst (N := 30) rfl ?_); (try (refine gate_guard (by rfl) ?_; dsimp only)); refine Kd.R_lit (Kd.int .u8) _ 5 ?hg (N := 30) ?hd (xs := ([1] : List Int)) (inner := [.int .u8 1]) (ok := fun _ => True) (okp := fun _ => True) ?hr ?hp (fun _ hk => hk) trivial (Below.refl _ _) (Nat.le_refl _) (by simp) ?_; (case hd => rfl); (case hg => rfl); (case hr => first | (go_simp; done) | (go_simp; rfl)); (case hp => exact (Reps.one (show Kd.M (Kd.int .u8) _ _ _ 1 [.int .u8 1] from rfl) (Reps.none _ _))); intro v131 w13 ho14 hb hg_ hnew_; clear hg_ hnew_; (first | rw [← Ny130.out] at ho14 | (simp only [Int.reduceToNat] at ho14; rw [← Ny130.out] at ho14)); have n0_ := Aside0.mk (Kd.R_elder' q192 (Kd.R_base ho14) hb); have n1_ := Aside0.mk (Kd.R_lower (Kd.R_new' ho14 (Kd.R_lt q192)) (below_size q11)); have n2_ := Aside0.mk (below_step q11 hb); clear HO_2; clear HB; have HO_2 := n0_; have HO132 := n1_; have HB := n2_; clear n0_ n1_ n2_; clear hb ho14)); try go_wp2_with (first | ((with_reducible refine gate_dst (N := 30) rfl ?_); (try (refine gate_guard (by rfl) ?_; dsimp only)); refine Kd.R_lit (Kd.int .u8) _ 5 ?hg (N := 30) ?hd (xs := ([1] : List Int)) (inner := [.int .u8 1]) (ok := fun _ => True) (okp := fun _ => True) ?hr ?hp (fun _ hk => hk) trivial (Below.refl _ _) (Nat.le_refl _) (by simp) ?_; (case hd => rfl); (case hg => rfl); (case hr => first | (go_simp; done) | (go_simp; rfl)); (case hp => exact (Reps.one (show Kd.M (Kd.int .u8) _ _ _ 1 [.int .u8 1] from rfl) (Reps.none _ _))); intro v131 w13 ho14 hb hg_ hnew_; clear hg_ hnew_; (first | rw [← Ny130.out] at ho14 | (simp only [Int.reduceToNat] at ho14; rw [← Ny130.out] at ho14)); have n0_ := Aside0.mk (Kd.R_elder' q192 (Kd.R_base ho14) hb); have n1_ := Aside0.mk (Kd.R_lower (Kd.R_new' ho14 (Kd.R_lt q192)) (below_size q11)); have n2_ := Aside0.mk (below_step q11 hb); clear HO_2; clear HB; have HO_2 := n0_; have HO132 := n1_; have HB := n2_; clear n0_ n1_ n2_; clear hb ho14)))
     go_ret3
     exact ⟨_, _, q13, q193, by (with_reducible repeat (first | apply Kd.R_alloc | apply Kd.R_drewN | apply Kd.R_drew)); exact Kd.R_mono HO132.out (fun _ hk => hk.2), q11⟩
    ·rw [if_neg c12] at H
     have c12b0 : (t126.toList == ([] : List UInt8)) = false := beq_eq_false_iff_ne.mpr c12
     have c12b1 : (t126.toList != ([] : List UInt8)) = true := bne_iff_ne.mpr c12
     by_cases c15 : 1 ≤ (t126.size : Int)
     ·rw [if_pos c15] at H
      have c15b0 := eq_true c15
      have c15b1 : decide (1 ≤ (t126.size : Int)) = true := decide_eq_true c15
      clear c15
      replace H := Option.bind_eq_some_iff.mp H
      obtain ⟨⟨t133, t134⟩, A160, H⟩ := H
      replace H : (if (t133.length : Int) = 0 then (frac_split.j1 kj2 t125 t126 t133 true) else (frac_split.j1 kj2 t125 t126 t133 (t134.toList != ([] : List UInt8)))) = some (r1, r2, r3) := H
      have A16 := Aside0.mk A160
      clear A160
      have HC17 := Aside0.mk H
      clear H
      go_upto_region 7 with (first | (go_at_call 65; (with_reducible refine (frac_scan.calls kj2 (t126.extract 1 t126.size) t133 t134 _ A16.out).mono ?_); rintro e w18 ⟨v135, rfl, ho0, hb⟩; have n0_ := Aside0.mk (Kd.R_elder' q192 (Kd.R_base ho0) hb); have n1_ := Aside0.mk (Kd.R_lower (Kd.R_new' ho0 (Kd.R_lt q192)) (below_size q11)); have n2_ := Aside0.mk (below_step q11 hb); clear HO_2; clear HB; have HO_2 := n0_; have HO136 := n1_; have HB := n2_; clear n0_ n1_ n2_; (try clear hb); (try clear hb2); (try clear hk); (try clear hi); (try clear ho0)))
      repeat (go_quiet (first | (go_at_call 65; (with_reducible refine (frac_scan.calls kj2 (t126.extract 1 t126.size) t133 t134 _ A16.out).mono ?_); rintro e w18 ⟨v135, rfl, ho0, hb⟩; have n0_ := Aside0.mk (Kd.R_elder' q192 (Kd.R_base ho0) hb); have n1_ := Aside0.mk (Kd.R_lower (Kd.R_new' ho0 (Kd.R_lt q192)) (below_size q11)); have n2_ := Aside0.mk (below_step q11 hb); clear HO_2; clear HB; have HO_2 := n0_; have HO136 := n1_; have HB := n2_; clear n0_ n1_ n2_; (try clear hb); (try clear hb2); (try clear hk); (try clear hi); (try clear ho0))); go_upto_region 7 with (first | (go_at_call 65; (with_reducible refine (frac_scan.calls kj2 (t126.extract 1 t126.size) t133 t134 _ A16.out).mono ?_); rintro e w18 ⟨v135, rfl, ho0, hb⟩; have n0_ := Aside0.mk (Kd.R_elder' q192 (Kd.R_base ho0) hb); have n1_ := Aside0.mk (Kd.R_lower (Kd.R_new' ho0 (Kd.R_lt q192)) (below_size q11)); have n2_ := Aside0.mk (below_step q11 hb); clear HO_2; clear HB; have HO_2 := n0_; have HO136 := n1_; have HB := n2_; clear n0_ n1_ n2_; (try clear hb); (try clear hb2); (try clear hk); (try clear hi); (try clear ho0))))
      (try simp only [Act.put, List.setIfInBounds_toArray, List.set_cons_zero, List.set_cons_succ])
      go_cut [43] (fun v43 wc => ∃ (kq : Nat) (x43_16 : Bool), v43 = .bool x43_16 ∧ Aside0 (frac_split.j1 kq t125 t126 t133 x43_16 = some (r1, r2, r3)) ∧ Aside0 (kq ≤ kj2) ∧ Aside0 (Kd.R (Kd.int .u8) 5 wc w.heap.size (fun k_ => some k_ ≠ (v135 : Value).ownBlock) v127 t125) ∧ Aside0 (Kd.R (Kd.int .u8) 5 wc w.heap.size (fun k_ => some k_ ≠ (v127 : Value).ownBlock) v135 t133) ∧ Aside0 (Below w.heap.size w wc))
      case first =>
       have H := HC17.out
       clear HC17
       by_cases c19 : (t133.length : Int) = 0
       ·rw [if_pos c19] at H
        have c19b0 : ((t133.length : Int) == 0) = true := beq_iff_eq.mpr c19
        have c19b1 : ((t133.length : Int) != 0) = false := bne_eq_false_iff_eq.mpr c19
        clear c19
        (first | rw [c19b0] | (simp only [i64_w, i32_w]; rw [c19b0]) | skip)
        have H' := Aside0.mk H
        clear H
        obtain ⟨Ao20, co20, eo20⟩ := Kd.R_slice HO136.out
        subst eo20
        go_wp2
        repeat (go_quiet (fail); try go_wp2)
        go_meet
        case rel => exact ⟨_, (true), q9, H', ⟨by have := HJ2.out; first | omega | exact Nat.le_refl _⟩, ⟨q193⟩, ⟨by (with_reducible repeat (first | apply Kd.R_alloc | apply Kd.R_drewN | apply Kd.R_drew)); exact Kd.R_mono HO136.out (fun _ hk => hk.2)⟩, ⟨q11⟩⟩
       ·rw [if_neg c19] at H
        have c19b0 : ((t133.length : Int) == 0) = false := beq_eq_false_iff_ne.mpr c19
        have c19b1 : ((t133.length : Int) != 0) = true := bne_iff_ne.mpr c19
        have c19b2 : ¬ (t133 = []) := fun h_ => c19 (by rw [h_]; rfl)
        (first | rw [c19b0] | (simp only [i64_w, i32_w]; rw [c19b0]) | skip)
        have H' := Aside0.mk H
        clear H
        obtain ⟨Ao21, co21, eo21⟩ := Kd.R_slice HO136.out
        subst eo21
        go_wp2
        repeat (go_quiet (fail); try go_wp2)
        go_meet
        case rel => exact ⟨_, ((t134.toList != ([] : List UInt8))), q9, H', ⟨by have := HJ2.out; first | omega | exact Nat.le_refl _⟩, ⟨q193⟩, ⟨by (with_reducible repeat (first | apply Kd.R_alloc | apply Kd.R_drewN | apply Kd.R_drew)); exact Kd.R_mono HO136.out (fun _ hk => hk.2)⟩, ⟨q11⟩⟩
      case rest =>
       clear HC17
       try clear c1
       try clear p1
       try clear q1
       try clear hx1
       try clear qi1
       try clear p2
       try clear c4
       try clear c5
       try clear c5b0
       try clear c5b1
       try clear c5b2
       try clear c7
       try clear c7b0
       try clear c7b1
       try clear c8
       try clear c8b0
       try clear c8b1
       try clear c11
       try clear c12
       try clear c12b0
       try clear c12b1
       try clear p12
       try clear q12
       try clear hx12
       try clear qi12
       try clear c15
       try clear c15b0
       try clear c15b1
       try clear c19
       try clear c19b0
       try clear c19b1
       try clear c19b2
       try clear hx129_0
       try clear p1
       try clear p129
       try clear p2
       try clear q1
       try clear q129
       obtain ⟨kq, x43_16, rfl, HA, HJ16, HO_2, HO_6, HB⟩ := hcut
       cases kq with
       | zero => exact absurd HA.out (by simp [frac_split.j1])
       | succ kj16 =>
        have H := HA.out
        clear HA
        simp only [frac_split.j1] at H
        by_cases c22 : x43_16 = true
        ·subst c22
         have H1 : (some (([] : List Int), ([] : List Int), false)) = some (r1, r2, r3) := by rw [if_pos rfl] at H; exact H
         clear H
         have H := H1
         clear H1
         simp only [Option.some.injEq, Prod.mk.injEq] at H
         obtain ⟨rfl, rfl, rfl⟩ := H
         go_wp2
         repeat (go_quiet (fail); try go_wp2)
         go_ret3
         exact ⟨_, _, q13, q80, q80, q11⟩
        ·replace c22 := Bool.eq_false_iff.mpr c22
         subst c22
         have H1 : (if 0 < (t126.size : Int) then (if (bt t126 0) = 47 then (if 0 < (t133.length : Int) then (some (t125, t133, ((rd t133 0) != 0))) else (none)) else (if (bt t126 0) = 46 then (frac_split.l0 kj16 t125 (([1] : List Int)) t133 (t133.length : Int) 0) else (some (([] : List Int), ([] : List Int), false)))) else (none)) = some (r1, r2, r3) := by rw [if_neg (show ¬ (false = true) by decide)] at H; exact H
         clear H
         have H := H1
         clear H1
         by_cases c23 : 0 < (t126.size : Int)
         ·rw [if_pos c23] at H
          have c23b0 : decide (0 < (t126.size : Int)) = true := decide_eq_true c23
          have c23b1 : decide (0 < t126.size) = true := decide_eq_true (by omega)
          clear c23
          by_cases c25 : (bt t126 0) = 47
          ·rw [if_pos c25] at H
           have c25b0 : ((bt t126 0) == 47) = true := beq_iff_eq.mpr c25
           have c25b1 : ((bt t126 0) != 47) = false := bne_eq_false_iff_eq.mpr c25
           clear c25
           by_cases c26 : 0 < (t133.length : Int)
           ·rw [if_pos c26] at H
            have c26b0 : decide (0 < (t133.length : Int)) = true := decide_eq_true c26
            have c26b1 : decide (0 < t133.length) = true := decide_eq_true (by omega)
            clear c26
            simp only [Option.some.injEq, Prod.mk.injEq] at H
            obtain ⟨rfl, rfl, rfl⟩ := H
            have p24 : 0 ≤ (0 : Int) := (by omega)
            have q24 : 0 < t126.size := (by have : (0 : Int) < (t126.size : Int) := of_decide_eq_true q78; omega)
            have hx24 : ∀ h : 0 < t126.size, ((t126[0]'h).toNat : Int) = bt t126 0 := bt_at t126 0
            clear p24
            have qi24 : (0 < (t126.size : Int)) = True := eq_true (of_decide_eq_true q78)
            replace q24 := eq_true q24
            obtain ⟨Ao27, co27, eo27⟩ := Kd.R_slice HO_6.out
            subst eo27
            have p137 : 0 ≤ (0 : Int) := (by omega)
            have q137 : 0 < (t133.length : Int) := of_decide_eq_true q78
            obtain ⟨ad137, e137, hx137_0⟩ := Kd.at_int (Kd.R_reads' HO_6.out).2.2 0 p137 q137
            cases e137
            have qi137 : (0 < t133.length) = True := eq_true (by omega)
            (try rw [show ((0 : Int)).toNat = 0 from rfl] at hx137_0)
            (try rw [Addr.add_zero'] at hx137_0)
            replace p137 := eq_true p137
            replace q137 := eq_true q137
            go_wp2
            repeat (go_quiet (fail); try go_wp2)
            go_ret3
            exact ⟨_, _, q13, q192, q81, q11⟩
           ·rw [if_neg c26] at H
            exact absurd H (by simp)
          ·rw [if_neg c25] at H
           have c25b0 : ((bt t126 0) == 47) = false := beq_eq_false_iff_ne.mpr c25
           have c25b1 : ((bt t126 0) != 47) = true := bne_iff_ne.mpr c25
           by_cases c28 : (bt t126 0) = 46
           ·rw [if_pos c28] at H
            have c28b0 : ((bt t126 0) == 46) = true := beq_iff_eq.mpr c28
            have c28b1 : ((bt t126 0) != 46) = false := bne_eq_false_iff_eq.mpr c28
            clear c28
            obtain ⟨y138, hy138⟩ : ∃ y_ : List Int, y_ = (([1] : List Int)) := ⟨_, rfl⟩
            replace H : (frac_split.l0 kj16 t125 y138 t133 (t133.length : Int) 0) = some (r1, r2, r3) := by first | (rw [hy138]; with_reducible exact H) | (have H2_ := (Option.bind_some _ _).symm.trans H; rw [hy138]; with_reducible exact H2_) | (have H2_ := (Option.bind_some _ _).symm.trans H; with_reducible exact H2_) | with_reducible exact H | (rw [hy138]; exact H) | exact H
            have Ny138 := Aside0.mk hy138
            clear hy138
            have H' := Aside0.mk H
            clear H
            have p24 : 0 ≤ (0 : Int) := (by omega)
            have q24 : 0 < t126.size := (by have : (0 : Int) < (t126.size : Int) := of_decide_eq_true q78; omega)
            have hx24 : ∀ h : 0 < t126.size, ((t126[0]'h).toNat : Int) = bt t126 0 := bt_at t126 0
            clear p24
            have qi24 : (0 < (t126.size : Int)) = True := eq_true (of_decide_eq_true q78)
            replace q24 := eq_true q24
            go_wp2_with (first | ((with_reducible refine gate_dst (N := 56) rfl ?_); (try (refine gate_guard (by rfl) ?_; dsimp only)); refine Kd.R_lit (Kd.int .u8) _ 5 ?hg (N := 56) ?hd (xs := ([1] : List Int)) (inner := [.int .u8 1]) (ok := fun _ => True) (okp := fun _ => True) ?hr ?hp (fun _ hk => hk) trivial (Below.refl _ _) (Nat.le_refl _) (by simp) ?_; (case hd => rfl); (case hg => rfl); (case hr => first | (go_simp; done) | (go_simp; rfl)); (case hp => exact (Reps.one (show Kd.M (Kd.int .u8) _ _ _ 1 [.int .u8 1] from rfl) (Reps.none _ _))); intro v139 w29 ho30 hb hg_ hnew_; clear hg_ hnew_; (first | rw [← Ny138.out] at ho30 | (simp only [Int.reduceToNat] at ho30; rw [← Ny138.out] at ho30)); have n0_ := Aside0.mk (Kd.R_elder' q192 (Kd.R_base ho30) hb); have n1_ := Aside0.mk (Kd.R_elder' q81 (Kd.R_base ho30) hb); have n2_ := Aside0.mk (Kd.R_lower (Kd.R_new' (Kd.R_new' ho30 (Kd.R_lt q192)) (Kd.R_lt q81)) (below_size q11)); have n3_ := Aside0.mk (below_step q11 hb); clear HO_2; clear HO_6; clear HB; have HO_2 := n0_; have HO_6 := n1_; have HO140 := n2_; have HB := n3_; clear n0_ n1_ n2_ n3_; clear hb ho30; obtain ⟨Ao31, co31, eo31⟩ := Kd.R_slice HO_6.out; subst eo31))
            repeat (go_quiet (first | ((with_reducible refine gate_dst (N := 56) rfl ?_); (try (refine gate_guard (by rfl) ?_; dsimp only)); refine Kd.R_lit (Kd.int .u8) _ 5 ?hg (N := 56) ?hd (xs := ([1] : List Int)) (inner := [.int .u8 1]) (ok := fun _ => True) (okp := fun _ => True) ?hr ?hp (fun _ hk => hk) trivial (Below.refl _ _) (Nat.le_refl _) (by simp) ?_; (case hd => rfl); (case hg => rfl); (case hr => first | (go_simp; done) | (go_simp; rfl)); (case hp => exact (Reps.one (show Kd.M (Kd.int .u8) _ _ _ 1 [.int .u8 1] from rfl) (Reps.none _ _))); intro v139 w29 ho30 hb hg_ hnew_; clear hg_ hnew_; (first | rw [← Ny138.out] at ho30 | (simp only [Int.reduceToNat] at ho30; rw [← Ny138.out] at ho30)); have n0_ := Aside0.mk (Kd.R_elder' q192 (Kd.R_base ho30) hb); have n1_ := Aside0.mk (Kd.R_elder' q81 (Kd.R_base ho30) hb); have n2_ := Aside0.mk (Kd.R_lower (Kd.R_new' (Kd.R_new' ho30 (Kd.R_lt q192)) (Kd.R_lt q81)) (below_size q11)); have n3_ := Aside0.mk (below_step q11 hb); clear HO_2; clear HO_6; clear HB; have HO_2 := n0_; have HO_6 := n1_; have HO140 := n2_; have HB := n3_; clear n0_ n1_ n2_ n3_; clear hb ho30; obtain ⟨Ao31, co31, eo31⟩ := Kd.R_slice HO_6.out; subst eo31)); try go_wp2_with (first | ((with_reducible refine gate_dst (N := 56) rfl ?_); (try (refine gate_guard (by rfl) ?_; dsimp only)); refine Kd.R_lit (Kd.int .u8) _ 5 ?hg (N := 56) ?hd (xs := ([1] : List Int)) (inner := [.int .u8 1]) (ok := fun _ => True) (okp := fun _ => True) ?hr ?hp (fun _ hk => hk) trivial (Below.refl _ _) (Nat.le_refl _) (by simp) ?_; (case hd => rfl); (case hg => rfl); (case hr => first | (go_simp; done) | (go_simp; rfl)); (case hp => exact (Reps.one (show Kd.M (Kd.int .u8) _ _ _ 1 [.int .u8 1] from rfl) (Reps.none _ _))); intro v139 w29 ho30 hb hg_ hnew_; clear hg_ hnew_; (first | rw [← Ny138.out] at ho30 | (simp only [Int.reduceToNat] at ho30; rw [← Ny138.out] at ho30)); have n0_ := Aside0.mk (Kd.R_elder' q192 (Kd.R_base ho30) hb); have n1_ := Aside0.mk (Kd.R_elder' q81 (Kd.R_base ho30) hb); have n2_ := Aside0.mk (Kd.R_lower (Kd.R_new' (Kd.R_new' ho30 (Kd.R_lt q192)) (Kd.R_lt q81)) (below_size q11)); have n3_ := Aside0.mk (below_step q11 hb); clear HO_2; clear HO_6; clear HB; have HO_2 := n0_; have HO_6 := n1_; have HO140 := n2_; have HB := n3_; clear n0_ n1_ n2_ n3_; clear hb ho30; obtain ⟨Ao31, co31, eo31⟩ := Kd.R_slice HO_6.out; subst eo31)))
            go_loopg [3, 59] kj16 (fun kq v3 v59 w' => ∃ (x3_3 : List Int) (x59_3 : Int), v59 = .int .i64 x59_3 ∧ Aside0 (frac_split.l0 kq t125 x3_3 t133 (t133.length : Int) x59_3 = some (r1, r2, r3)) ∧ Aside0 (kq ≤ kj16) ∧ Aside0 (Kd.R (Kd.int .u8) 5 w' w.heap.size (fun k_ => some k_ ≠ (v3 : Value).ownBlock ∧ some k_ ≠ ((.slice Ao31 t133.length co31) : Value).ownBlock) v127 t125) ∧ Aside0 (Kd.R (Kd.int .u8) 5 w' w.heap.size (fun k_ => some k_ ≠ (v127 : Value).ownBlock ∧ some k_ ≠ ((.slice Ao31 t133.length co31) : Value).ownBlock) v3 x3_3) ∧ Aside0 (Kd.R (Kd.int .u8) 5 w' w.heap.size (fun k_ => some k_ ≠ (v127 : Value).ownBlock ∧ some k_ ≠ (v3 : Value).ownBlock) (.slice Ao31 t133.length co31) t133) ∧ Aside0 (Below w.heap.size w w'))
            case atStart => exact ⟨(y138), (0), q9, H', ⟨Nat.le_refl _⟩, ⟨q194⟩, ⟨by (with_reducible repeat (first | apply Kd.R_alloc | apply Kd.R_drewN | apply Kd.R_drew)); exact Kd.R_mono HO140.out (fun _ hk => ⟨hk.1.2, hk.2⟩)⟩, ⟨q81⟩, ⟨q11⟩⟩
            case round =>
             clear H'
             try clear c1
             try clear p1
             try clear q1
             try clear hx1
             try clear qi1
             try clear c2
             try clear p2
             try clear q2
             try clear hx2
             try clear qi2
             try clear c4
             try clear c5
             try clear c5b0
             try clear c5b1
             try clear c5b2
             try clear c7
             try clear c7b0
             try clear c7b1
             try clear c8
             try clear c8b0
             try clear c8b1
             try clear c11
             try clear c12
             try clear c12b0
             try clear c12b1
             try clear p12
             try clear q12
             try clear hx12
             try clear qi12
             try clear p13
             try clear q13
             try clear hx13
             try clear qi13
             try clear c15
             try clear c15b0
             try clear c15b1
             try clear c19
             try clear c19b0
             try clear c19b1
             try clear c19b2
             try clear c22
             try clear c23
             try clear c23b0
             try clear c23b1
             try clear p24
             try clear q24
             try clear hx24
             try clear qi24
             try clear c25
             try clear c25b0
             try clear c25b1
             try clear c26
             try clear c26b0
             try clear c26b1
             try clear c28
             try clear c28b0
             try clear c28b1
             try clear hx129_0
             try clear hx137_0
             try clear p1
             try clear p12
             try clear p129
             try clear p137
             try clear p2
             try clear p24
             try clear q1
             try clear q12
             try clear q129
             try clear q137
             try clear q24
             obtain ⟨x3_3, x59_3, rfl, HA, HK3, HO_2, HO_3, HO_6, HB⟩ := hrel
             cases gk with
             | zero => exact absurd HA.out (by simp [frac_split.l0])
             | succ k3 =>
              have H := HA.out
              clear HA
              simp only [frac_split.l0] at H
              by_cases c32 : x59_3 < (t133.length : Int)
              ·rw [if_pos c32] at H
               have c32b0 : decide (x59_3 < (t133.length : Int)) = true := decide_eq_true c32
               clear c32
               by_cases c33 : x3_3.length < 140737488355328
               ·rw [if_pos c33] at H
                have LMc33 := Aside0.mk c33
                clear c33
                obtain ⟨y141, hy141⟩ : ∃ y_ : List Int, y_ = (x3_3 ++ [0]) := ⟨_, rfl⟩
                replace H : (frac_split.l0 k3 t125 y141 t133 (t133.length : Int) (wrap64 (x59_3 + 1))) = some (r1, r2, r3) := by first | (rw [hy141]; with_reducible exact H) | (have H2_ := (Option.bind_some _ _).symm.trans H; rw [hy141]; with_reducible exact H2_) | (have H2_ := (Option.bind_some _ _).symm.trans H; with_reducible exact H2_) | with_reducible exact H | (rw [hy141]; exact H) | exact H
                have Ny141 := Aside0.mk hy141
                clear hy141
                have H' := Aside0.mk H
                clear H
                go_wp2_with (first | ((with_reducible refine gate_builtin (b := .append) (xs := #[.tmp 61, .tmp 62]) rfl ?_); (try (refine gate_guard (by rfl) ?_; dsimp only)); at_builtin; refine Kd.R_append (Kd.int .u8) (w0 := w) w.heap.size rfl (.tmp 61) (.tmp 62) 56 5 (.int .u8 0) 1 rfl Try.underlying56 info5 rfl (by decide) (by omega) u3 x3_3 0 [.int .u8 0] (fun k_ => some k_ ≠ (v127 : Value).ownBlock ∧ some k_ ≠ (.slice Ao31 t133.length co31 : Value).ownBlock) (fun _ => False) rfl rfl ?aP (fun _ hk => hk.elim) ?aF ?aO ?aB ?aS ?aL ?_; (case aP => exact rfl); (case aB => exact q11); (case aF => exact (fun k_ hk => ⟨Kd.fresh' (Kd.R_lt q192) k_ hk, Kd.fresh' (Kd.R_lt q81) k_ hk⟩)); (case aO => exact q195); (case aS => exact (below_size q11)); (case aL => have := LMc33.out; omega); intro v142 w34 ho hb hg hat; rw [← Ny141.out] at ho; have n0_ := Aside0.mk (Kd.R_after (ok := (fun k_ => some k_ ≠ (.slice Ao31 t133.length co31 : Value).ownBlock)) q194 hg hat); have n1_ := Aside0.mk (Kd.R_after (ok := (fun k_ => some k_ ≠ (v127 : Value).ownBlock)) q81 hg hat); have n2_ := Aside0.mk (hb); have n3_ := Aside0.mk (ho); clear HO_2; clear HO_6; clear HB; clear HO_3; have HO_2 := n0_; have HO_6 := n1_; have HB := n2_; have HO143 := n3_; clear n0_ n1_ n2_ n3_; clear ho hb hg hat))
                repeat (go_quiet (first | ((with_reducible refine gate_builtin (b := .append) (xs := #[.tmp 61, .tmp 62]) rfl ?_); (try (refine gate_guard (by rfl) ?_; dsimp only)); at_builtin; refine Kd.R_append (Kd.int .u8) (w0 := w) w.heap.size rfl (.tmp 61) (.tmp 62) 56 5 (.int .u8 0) 1 rfl Try.underlying56 info5 rfl (by decide) (by omega) u3 x3_3 0 [.int .u8 0] (fun k_ => some k_ ≠ (v127 : Value).ownBlock ∧ some k_ ≠ (.slice Ao31 t133.length co31 : Value).ownBlock) (fun _ => False) rfl rfl ?aP (fun _ hk => hk.elim) ?aF ?aO ?aB ?aS ?aL ?_; (case aP => exact rfl); (case aB => exact q11); (case aF => exact (fun k_ hk => ⟨Kd.fresh' (Kd.R_lt q192) k_ hk, Kd.fresh' (Kd.R_lt q81) k_ hk⟩)); (case aO => exact q195); (case aS => exact (below_size q11)); (case aL => have := LMc33.out; omega); intro v142 w34 ho hb hg hat; rw [← Ny141.out] at ho; have n0_ := Aside0.mk (Kd.R_after (ok := (fun k_ => some k_ ≠ (.slice Ao31 t133.length co31 : Value).ownBlock)) q194 hg hat); have n1_ := Aside0.mk (Kd.R_after (ok := (fun k_ => some k_ ≠ (v127 : Value).ownBlock)) q81 hg hat); have n2_ := Aside0.mk (hb); have n3_ := Aside0.mk (ho); clear HO_2; clear HO_6; clear HB; clear HO_3; have HO_2 := n0_; have HO_6 := n1_; have HB := n2_; have HO143 := n3_; clear n0_ n1_ n2_ n3_; clear ho hb hg hat)); try go_wp2_with (first | ((with_reducible refine gate_builtin (b := .append) (xs := #[.tmp 61, .tmp 62]) rfl ?_); (try (refine gate_guard (by rfl) ?_; dsimp only)); at_builtin; refine Kd.R_append (Kd.int .u8) (w0 := w) w.heap.size rfl (.tmp 61) (.tmp 62) 56 5 (.int .u8 0) 1 rfl Try.underlying56 info5 rfl (by decide) (by omega) u3 x3_3 0 [.int .u8 0] (fun k_ => some k_ ≠ (v127 : Value).ownBlock ∧ some k_ ≠ (.slice Ao31 t133.length co31 : Value).ownBlock) (fun _ => False) rfl rfl ?aP (fun _ hk => hk.elim) ?aF ?aO ?aB ?aS ?aL ?_; (case aP => exact rfl); (case aB => exact q11); (case aF => exact (fun k_ hk => ⟨Kd.fresh' (Kd.R_lt q192) k_ hk, Kd.fresh' (Kd.R_lt q81) k_ hk⟩)); (case aO => exact q195); (case aS => exact (below_size q11)); (case aL => have := LMc33.out; omega); intro v142 w34 ho hb hg hat; rw [← Ny141.out] at ho; have n0_ := Aside0.mk (Kd.R_after (ok := (fun k_ => some k_ ≠ (.slice Ao31 t133.length co31 : Value).ownBlock)) q194 hg hat); have n1_ := Aside0.mk (Kd.R_after (ok := (fun k_ => some k_ ≠ (v127 : Value).ownBlock)) q81 hg hat); have n2_ := Aside0.mk (hb); have n3_ := Aside0.mk (ho); clear HO_2; clear HO_6; clear HB; clear HO_3; have HO_2 := n0_; have HO_6 := n1_; have HB := n2_; have HO143 := n3_; clear n0_ n1_ n2_ n3_; clear ho hb hg hat)))
                go_roundg k3
                case measure => have := HJ2.out; have := HJ16.out; have := HK3.out; omega
                case rel => exact ⟨(y141), (wrap64 (x59_3 + 1)), q9, H', ⟨by have := HJ2.out; have := HJ16.out; have := HK3.out; omega⟩, ⟨q194⟩, ⟨by (with_reducible repeat (first | apply Kd.R_alloc | apply Kd.R_drewN | apply Kd.R_drew)); exact HO143.out⟩, ⟨q81⟩, ⟨q11⟩⟩
               ·rw [if_neg c33] at H
                exact absurd H (by simp)
              ·rw [if_neg c32] at H
               have c32b0 : decide (x59_3 < (t133.length : Int)) = false := decide_eq_false c32
               clear c32
               by_cases c35 : t125.length + t133.length < 140737488355328
               ·rw [if_pos c35] at H
                have LMc35 := Aside0.mk c35
                clear c35
                obtain ⟨y144, hy144⟩ : ∃ y_ : List Int, y_ = (t125 ++ t133) := ⟨_, rfl⟩
                replace H : (some (y144, x3_3, decide ((t133.length : Int) ≤ 6))) = some (r1, r2, r3) := by first | (rw [hy144]; with_reducible exact H) | (have H2_ := (Option.bind_some _ _).symm.trans H; rw [hy144]; with_reducible exact H2_) | (have H2_ := (Option.bind_some _ _).symm.trans H; with_reducible exact H2_) | with_reducible exact H | (rw [hy144]; exact H) | exact H
                have Ny144 := Aside0.mk hy144
                clear hy144
                simp only [Option.some.injEq, Prod.mk.injEq] at H
                obtain ⟨rfl, rfl, rfl⟩ := H
                go_wp2_with (first | ((with_reducible refine gate_builtin (b := .append) (xs := #[.tmp 65, .tmp 66]) rfl ?_); (try (refine gate_guard (by rfl) ?_; dsimp only)); at_builtin; refine Kd.R_append_rows (Kd.int .u8) (w0 := w) w.heap.size rfl (.tmp 65) (.tmp 66) 56 5 (.int .u8 0) 1 rfl Try.underlying56 info5 rfl (by decide) (by omega) v127 t125 t133 _ _ _ (fun k_ => some k_ ≠ (u3 : Value).ownBlock ∧ some k_ ≠ (.slice Ao31 t133.length co31 : Value).ownBlock) (fun _ => False) rfl rfl ?aO ?aR (fun _ _ h => h) (fun _ h => h.elim) ?aF ?aB ?aS ?aL ?_; (case aR => repeat (first | exact (Kd.R_reads' HO_6.out).2.2 | (with_reducible refine Kd.C_alloc ?_ _) | (with_reducible refine Kd.C_drewN ?_ _) | (with_reducible refine Kd.C_drew ?_))); (case aB => exact q11); (case aF => exact (fun k_ hk => ⟨Kd.fresh' (Kd.R_lt q195) k_ hk, Kd.fresh' (Kd.R_lt q81) k_ hk⟩)); (case aO => exact q192); (case aS => exact (below_size q11)); (case aL => have := LMc35.out; omega); intro v145 w36 ho hb hg hat; rw [← Ny144.out] at ho; have n0_ := Aside0.mk (Kd.R_after (ok := (fun k_ => some k_ ≠ (.slice Ao31 t133.length co31 : Value).ownBlock)) q196 hg hat); have n1_ := Aside0.mk (Kd.R_after (ok := (fun k_ => some k_ ≠ (u3 : Value).ownBlock)) q197 hg hat); have n2_ := Aside0.mk (hb); have n3_ := Aside0.mk (ho); clear HO_3; clear HO_6; clear HB; clear HO_2; have HO_3 := n0_; have HO_6 := n1_; have HB := n2_; have HO146 := n3_; clear n0_ n1_ n2_ n3_; clear ho hb hg hat))
                repeat (go_quiet (first | ((with_reducible refine gate_builtin (b := .append) (xs := #[.tmp 65, .tmp 66]) rfl ?_); (try (refine gate_guard (by rfl) ?_; dsimp only)); at_builtin; refine Kd.R_append_rows (Kd.int .u8) (w0 := w) w.heap.size rfl (.tmp 65) (.tmp 66) 56 5 (.int .u8 0) 1 rfl Try.underlying56 info5 rfl (by decide) (by omega) v127 t125 t133 _ _ _ (fun k_ => some k_ ≠ (u3 : Value).ownBlock ∧ some k_ ≠ (.slice Ao31 t133.length co31 : Value).ownBlock) (fun _ => False) rfl rfl ?aO ?aR (fun _ _ h => h) (fun _ h => h.elim) ?aF ?aB ?aS ?aL ?_; (case aR => repeat (first | exact (Kd.R_reads' HO_6.out).2.2 | (with_reducible refine Kd.C_alloc ?_ _) | (with_reducible refine Kd.C_drewN ?_ _) | (with_reducible refine Kd.C_drew ?_))); (case aB => exact q11); (case aF => exact (fun k_ hk => ⟨Kd.fresh' (Kd.R_lt q195) k_ hk, Kd.fresh' (Kd.R_lt q81) k_ hk⟩)); (case aO => exact q192); (case aS => exact (below_size q11)); (case aL => have := LMc35.out; omega); intro v145 w36 ho hb hg hat; rw [← Ny144.out] at ho; have n0_ := Aside0.mk (Kd.R_after (ok := (fun k_ => some k_ ≠ (.slice Ao31 t133.length co31 : Value).ownBlock)) q196 hg hat); have n1_ := Aside0.mk (Kd.R_after (ok := (fun k_ => some k_ ≠ (u3 : Value).ownBlock)) q197 hg hat); have n2_ := Aside0.mk (hb); have n3_ := Aside0.mk (ho); clear HO_3; clear HO_6; clear HB; clear HO_2; have HO_3 := n0_; have HO_6 := n1_; have HB := n2_; have HO146 := n3_; clear n0_ n1_ n2_ n3_; clear ho hb hg hat)); try go_wp2_with (first | ((with_reducible refine gate_builtin (b := .append) (xs := #[.tmp 65, .tmp 66]) rfl ?_); (try (refine gate_guard (by rfl) ?_; dsimp only)); at_builtin; refine Kd.R_append_rows (Kd.int .u8) (w0 := w) w.heap.size rfl (.tmp 65) (.tmp 66) 56 5 (.int .u8 0) 1 rfl Try.underlying56 info5 rfl (by decide) (by omega) v127 t125 t133 _ _ _ (fun k_ => some k_ ≠ (u3 : Value).ownBlock ∧ some k_ ≠ (.slice Ao31 t133.length co31 : Value).ownBlock) (fun _ => False) rfl rfl ?aO ?aR (fun _ _ h => h) (fun _ h => h.elim) ?aF ?aB ?aS ?aL ?_; (case aR => repeat (first | exact (Kd.R_reads' HO_6.out).2.2 | (with_reducible refine Kd.C_alloc ?_ _) | (with_reducible refine Kd.C_drewN ?_ _) | (with_reducible refine Kd.C_drew ?_))); (case aB => exact q11); (case aF => exact (fun k_ hk => ⟨Kd.fresh' (Kd.R_lt q195) k_ hk, Kd.fresh' (Kd.R_lt q81) k_ hk⟩)); (case aO => exact q192); (case aS => exact (below_size q11)); (case aL => have := LMc35.out; omega); intro v145 w36 ho hb hg hat; rw [← Ny144.out] at ho; have n0_ := Aside0.mk (Kd.R_after (ok := (fun k_ => some k_ ≠ (.slice Ao31 t133.length co31 : Value).ownBlock)) q196 hg hat); have n1_ := Aside0.mk (Kd.R_after (ok := (fun k_ => some k_ ≠ (u3 : Value).ownBlock)) q197 hg hat); have n2_ := Aside0.mk (hb); have n3_ := Aside0.mk (ho); clear HO_3; clear HO_6; clear HB; clear HO_2; have HO_3 := n0_; have HO_6 := n1_; have HB := n2_; have HO146 := n3_; clear n0_ n1_ n2_ n3_; clear ho hb hg hat)))
                go_ret3
                exact ⟨_, _, q13, by (with_reducible repeat (first | apply Kd.R_alloc | apply Kd.R_drewN | apply Kd.R_drew)); exact Kd.R_mono HO146.out (fun _ hk => hk.1), by (with_reducible repeat (first | apply Kd.R_alloc | apply Kd.R_drewN | apply Kd.R_drew)); exact Kd.R_mono HO_3.out (fun _ hk => hk.2), q11⟩
               ·rw [if_neg c35] at H
                exact absurd H (by simp)
           ·rw [if_neg c28] at H
            have c28b0 : ((bt t126 0) == 46) = false := beq_eq_false_iff_ne.mpr c28
            have c28b1 : ((bt t126 0) != 46) = true := bne_iff_ne.mpr c28
            simp only [Option.some.injEq, Prod.mk.injEq] at H
            obtain ⟨rfl, rfl, rfl⟩ := H
            have p24 : 0 ≤ (0 : Int) := (by omega)
            have q24 : 0 < t126.size := (by have : (0 : Int) < (t126.size : Int) := of_decide_eq_true q78; omega)
            have hx24 : ∀ h : 0 < t126.size, ((t126[0]'h).toNat : Int) = bt t126 0 := bt_at t126 0
            clear p24
            have qi24 : (0 < (t126.size : Int)) = True := eq_true (of_decide_eq_true q78)
            replace q24 := eq_true q24
            go_wp2
            repeat (go_quiet (fail); try go_wp2)
            go_ret3
            exact ⟨_, _, q13, q80, q80, q11⟩
         ·rw [if_neg c23] at H
          exact absurd H (by simp)
     ·rw [if_neg c15] at H
      exact absurd H (by simp)

end Go.Proofs.Ytoenhagbgfkihaa.A
