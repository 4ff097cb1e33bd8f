-- By gen.py, a program of this session's, over the print's forms: not the print's own text.
import Derived.Test.YtoenhagbgfkihaaAx0
import Derived.Test.YtoenhagbgfkihaaQ
import Derived.Test.YtoenhagbgfkihaaAx5
import Derived.Test.YtoenhagbgfkihaaAx6
import Derived.Test.YtoenhagbgfkihaaAx7
namespace Go.Proofs.Ytoenhagbgfkihaa.A
open Go.RowKit Go.Proofs.Ytoenhagbgfkihaa.B Go.Proofs.YtoenhagbgfkihaaW.PrintWords Go.Proofs.YtoenhagbgfkihaaW.PrintLast Go.Proofs.YtoenhagbgfkihaaW.PrintMore
attribute [local go_sem] max2_int min2_int max_two min_two max_three min_three max_four min_four   -- for this text's walks alone
set_option linter.unusedVariables false
set_option linter.unusedSimpArgs false

/-! ### frac_Parse: function 21 -/
mutual
def frac_Parse.j0 : Nat → ByteArray → Bool → Int → Int → Option (Int × Int × Int)
 | 0, _, _, _, _ => none
 | k + 1, x0, x4, x183000, x183001 => if x4 = true then (if 1 ≤ (x0.size : Int) then (frac_Parse.j1 k (x0.extract 1 x0.size) x4 x183000 x183001) else (none)) else (frac_Parse.j1 k x0 x4 x183000 x183001)
def frac_Parse.j1 : Nat → ByteArray → Bool → Int → Int → Option (Int × Int × Int)
 | 0, _, _, _, _ => none
 | k + 1, x0, x4, x183000, x183001 => (frac_split.f k x0).bind fun bt183 => (if bt183.2.2 = true then (if x4 = true then ((frac_digits_trim.f k bt183.1).bind fun t190 => (frac_Parse.j2 k x4 bt183.1 bt183.2.1 ((t190.length : Int) == 0) x183000 x183001)) else (frac_Parse.j2 k x4 bt183.1 bt183.2.1 false x183000 x183001)) else (frac_Parse.j2 k x4 bt183.1 bt183.2.1 true x183000 x183001))
def frac_Parse.j2 : Nat → Bool → List Int → List Int → Bool → Int → Int → Option (Int × Int × Int)
 | 0, _, _, _, _, _, _ => none
 | k + 1, x4, x5, x6, x36, x183000, x183001 => if x36 = true then (some (x183000, x183001, 5)) else ((frac_digits_trim.f k x5).bind fun t193 => ((frac_digits_trim.f k x6).bind fun t196 => ((frac_reduce.f k t193 t196).bind fun bt199 => (if bt199.2.2 = true then (if x4 = true then (some (wrap64 (-bt199.1), bt199.2.1, 0)) else (some (bt199.1, bt199.2.1, 0))) else (some (x183000, x183001, 4))))))
end
def frac_Parse.f (k : Nat) (a0 : ByteArray) : Option (Int × Int × Int) := if a0.toList = ([] : List UInt8) then (frac_Parse.j0 k a0 false 0 0) else (if 0 < (a0.size : Int) then (frac_Parse.j0 k a0 ((bt a0 0) == 45) 0 0) else (none))
theorem frac_Parse.mono_l : ∀ k, (∀ y0 y1 y2 y3, LeO (frac_Parse.j0 k y0 y1 y2 y3) (frac_Parse.j0 (k + 1) y0 y1 y2 y3)) ∧ (∀ y0 y1 y2 y3, LeO (frac_Parse.j1 k y0 y1 y2 y3) (frac_Parse.j1 (k + 1) y0 y1 y2 y3)) ∧ (∀ y0 y1 y2 y3 y4 y5, LeO (frac_Parse.j2 k y0 y1 y2 y3 y4 y5) (frac_Parse.j2 (k + 1) y0 y1 y2 y3 y4 y5))
 | 0 => ⟨fun _ _ _ _ r h => by simp [frac_Parse.j0] at h, fun _ _ _ _ r h => by simp [frac_Parse.j1] at h, fun _ _ _ _ _ _ r h => by simp [frac_Parse.j2] at h⟩
 | k + 1 => by
  obtain ⟨ih0, ih1, ih2⟩ := frac_Parse.mono_l k
  refine ⟨?_, ?_, ?_⟩
  ·intro y0 y1 y2 y3
   unfold frac_Parse.j0
   repeat' first
   | (with_reducible exact ih0 _ _ _ _)
   | (with_reducible exact ih1 _ _ _ _)
   | (with_reducible exact ih2 _ _ _ _ _ _)
   | (with_reducible exact frac_digits_trim.mono _ _)
   | (with_reducible exact frac_reduce.mono _ _ _)
   | (with_reducible exact frac_split.mono _ _)
   | (with_reducible exact LeO.refl _)
   | (with_reducible exact LeO.none _)
   | (with_reducible refine LeO.ite ?_ ?_)
   | (with_reducible refine LeO.bind ?_ (fun _ => ?_))
   | exact ih0 _ _ _ _
   | exact ih1 _ _ _ _
   | exact ih2 _ _ _ _ _ _
   | exact frac_digits_trim.mono _ _
   | exact frac_reduce.mono _ _ _
   | exact frac_split.mono _ _
   | exact LeO.none _
   | refine LeO.ite ?_ ?_
   | refine LeO.bind ?_ (fun _ => ?_)
  ·intro y0 y1 y2 y3
   unfold frac_Parse.j1
   repeat' first
   | (with_reducible exact ih0 _ _ _ _)
   | (with_reducible exact ih1 _ _ _ _)
   | (with_reducible exact ih2 _ _ _ _ _ _)
   | (with_reducible exact frac_digits_trim.mono _ _)
   | (with_reducible exact frac_reduce.mono _ _ _)
   | (with_reducible exact frac_split.mono _ _)
   | (with_reducible exact LeO.refl _)
   | (with_reducible exact LeO.none _)
   | (with_reducible refine LeO.ite ?_ ?_)
   | (with_reducible refine LeO.bind ?_ (fun _ => ?_))
   | exact ih0 _ _ _ _
   | exact ih1 _ _ _ _
   | exact ih2 _ _ _ _ _ _
   | exact frac_digits_trim.mono _ _
   | exact frac_reduce.mono _ _ _
   | exact frac_split.mono _ _
   | exact LeO.none _
   | refine LeO.ite ?_ ?_
   | refine LeO.bind ?_ (fun _ => ?_)
  ·intro y0 y1 y2 y3 y4 y5
   unfold frac_Parse.j2
   repeat' first
   | (with_reducible exact ih0 _ _ _ _)
   | (with_reducible exact ih1 _ _ _ _)
   | (with_reducible exact ih2 _ _ _ _ _ _)
   | (with_reducible exact frac_digits_trim.mono _ _)
   | (with_reducible exact frac_reduce.mono _ _ _)
   | (with_reducible exact frac_split.mono _ _)
   | (with_reducible exact LeO.refl _)
   | (with_reducible exact LeO.none _)
   | (with_reducible refine LeO.ite ?_ ?_)
   | (with_reducible refine LeO.bind ?_ (fun _ => ?_))
   | exact ih0 _ _ _ _
   | exact ih1 _ _ _ _
   | exact ih2 _ _ _ _ _ _
   | exact frac_digits_trim.mono _ _
   | exact frac_reduce.mono _ _ _
   | exact frac_split.mono _ _
   | exact LeO.none _
   | refine LeO.ite ?_ ?_
   | refine LeO.bind ?_ (fun _ => ?_)
theorem frac_Parse.mono : ∀ a0 k, LeO (frac_Parse.f k a0) (frac_Parse.f (k + 1) a0) := by
 intro a0 k
 obtain ⟨ih0, ih1, ih2⟩ := frac_Parse.mono_l k
 unfold frac_Parse.f
 repeat' first
   | (with_reducible exact ih0 _ _ _ _)
   | (with_reducible exact ih1 _ _ _ _)
   | (with_reducible exact ih2 _ _ _ _ _ _)
   | (with_reducible exact frac_digits_trim.mono _ _)
   | (with_reducible exact frac_reduce.mono _ _ _)
   | (with_reducible exact frac_split.mono _ _)
   | (with_reducible exact LeO.refl _)
   | (with_reducible exact LeO.none _)
   | (with_reducible refine LeO.ite ?_ ?_)
   | (with_reducible refine LeO.bind ?_ (fun _ => ?_))
   | exact ih0 _ _ _ _
   | exact ih1 _ _ _ _
   | exact ih2 _ _ _ _ _ _
   | exact frac_digits_trim.mono _ _
   | exact frac_reduce.mono _ _ _
   | exact frac_split.mono _ _
   | exact LeO.none _
   | refine LeO.ite ?_ ?_
   | refine LeO.bind ?_ (fun _ => ?_)
set_option maxHeartbeats 8000000 in
set_option maxRecDepth 100000 in
theorem frac_Parse.calls (k : Nat) (a0 : ByteArray) (r1 : Int) (r2 : Int) (r3 : Int) (w : World) (h : frac_Parse.f k a0 = some (r1, r2, r3)) :
  Calls Try.prog 21 #[.string a0] w fun e w' => e = .returned (.tuple #[.agg #[.int .i64 r1, .int .i64 r2], .int .i64 r3]) ∧ Below w.heap.size w w' := by
 have hu23 := Try.underlying23
 have HB := Aside0.mk (Below.refl w.heap.size w)
 have H : (if a0.toList = ([] : List UInt8) then (frac_Parse.j0 k a0 false 0 0) else (if 0 < (a0.size : Int) then (frac_Parse.j0 k a0 ((bt a0 0) == 45) 0 0) else (none))) = some (r1, r2, r3) := h
 clear h
 have HC2 := Aside0.mk H
 clear H
 go_enter Try.func21, Try.ntmps21
 go_upto_region 1 with (first | ((with_reducible refine gate_dst (N := 2) rfl ?_); (try (refine gate_guard (by rfl) ?_; dsimp only)); refine box_event ?hg (N := 2) ?hd (cs := #[.int .i64 0, .int .i64 0]) (t := 23) ?hr ?_; (case hd => rfl); (case hg => rfl); (case hr => first | (go_simp; done) | (go_simp; rfl)); intro gb182 hg w3 hbox hb; have n0_ := Aside0.mk (below_step q11 hb); have n1_ := Aside0.mk (hbox); have n2_ := Aside0.mk ((q12 : w.heap.size ≤ gb182)); have n3_ := Aside0.mk ((q12 : w.heap.size ≤ gb182)); clear HB; have HB := n0_; have BK182 := n1_; have GW182 := n2_; have GE182 := n3_; clear n0_ n1_ n2_ n3_; clear hb hbox hg))
 (try simp only [Act.put, List.setIfInBounds_toArray, List.set_cons_zero, List.set_cons_succ])
 go_cut [4] (fun v4 wc => ∃ (kq : Nat) (x4_1 : Bool), v4 = .bool x4_1 ∧ Aside0 (frac_Parse.j0 kq a0 x4_1 0 0 = some (r1, r2, r3)) ∧ Aside0 (kq ≤ k) ∧ Aside0 (wc.heap[gb182]? = some (.cells #[.int .i64 0, .int .i64 0] 23 (0, 0))) ∧ Aside0 (Below w.heap.size w wc))
 case first =>
  have H := HC2.out
  clear HC2
  by_cases c4 : a0.toList = ([] : List UInt8)
  ·rw [if_pos c4] at H
   have c4b0 : (a0.toList == ([] : List UInt8)) = true := beq_iff_eq.mpr c4
   have c4b1 : (a0.toList != ([] : List UInt8)) = false := bne_eq_false_iff_eq.mpr c4
   clear c4
   (first | rw [c4b0] | (simp only [i64_w, i32_w]; rw [c4b0]) | skip)
   have H' := Aside0.mk H
   clear H
   go_wp2
   go_meet
   case rel => exact ⟨_, (false), q9, H', ⟨by first | omega | exact Nat.le_refl _⟩, ⟨q200⟩, ⟨q201⟩⟩
  ·rw [if_neg c4] at H
   have c4b0 : (a0.toList == ([] : List UInt8)) = false := beq_eq_false_iff_ne.mpr c4
   have c4b1 : (a0.toList != ([] : List UInt8)) = true := bne_iff_ne.mpr c4
   (first | rw [c4b0] | (simp only [i64_w, i32_w]; rw [c4b0]) | skip)
   by_cases c5 : 0 < (a0.size : Int)
   ·rw [if_pos c5] at H
    have c5b0 : decide (0 < (a0.size : Int)) = true := decide_eq_true c5
    have c5b1 : decide (0 < a0.size) = true := decide_eq_true (by omega)
    clear c5
    have H' := Aside0.mk H
    clear H
    have p6 : 0 ≤ (0 : Int) := (by omega)
    have q6 : 0 < a0.size := (by have : (0 : Int) < (a0.size : Int) := of_decide_eq_true q78; omega)
    have hx6 : ∀ h : 0 < a0.size, ((a0[0]'h).toNat : Int) = bt a0 0 := bt_at a0 0
    clear p6
    have qi6 : (0 < (a0.size : Int)) = True := eq_true (of_decide_eq_true q78)
    replace q6 := eq_true q6
    go_wp2
    go_meet
    case rel => exact ⟨_, (((bt a0 0) == 45)), q9, H', ⟨by first | omega | exact Nat.le_refl _⟩, ⟨q200⟩, ⟨q201⟩⟩
   ·rw [if_neg c5] at H
    exact absurd H (by simp)
 case rest =>
  clear HC2
  try clear c2
  try clear p2
  try clear c4
  try clear c4b0
  try clear c4b1
  try clear c5
  try clear c5b0
  try clear c5b1
  try clear p6
  try clear q6
  try clear hx6
  try clear qi6
  try clear p6
  try clear q6
  obtain ⟨kq, x4_1, rfl, HA, HJ1, BK182, HB⟩ := hcut
  cases kq with
  | zero => exact absurd HA.out (by simp [frac_Parse.j0])
  | succ kj1 =>
   have H := HA.out
   clear HA
   simp only [frac_Parse.j0] at H
   have HC7 := Aside0.mk H
   clear H
   go_upto_if 17 with (fail)
   go_cut [0] (fun v0 wc => ∃ (kq : Nat) (x0_6 : ByteArray), v0 = .string x0_6 ∧ Aside0 (frac_Parse.j1 kq x0_6 x4_1 0 0 = some (r1, r2, r3)) ∧ Aside0 (kq ≤ kj1) ∧ Aside0 (wc.heap[gb182]? = some (.cells #[.int .i64 0, .int .i64 0] 23 (0, 0))) ∧ Aside0 (Below w.heap.size w wc))
   case first =>
    have H := HC7.out
    clear HC7
    by_cases c8 : x4_1 = true
    ·subst c8
     have H1 : (if 1 ≤ (a0.size : Int) then (frac_Parse.j1 kj1 (a0.extract 1 a0.size) true 0 0) else (none)) = some (r1, r2, r3) := by rw [if_pos rfl] at H; exact H
     clear H
     have H := H1
     clear H1
     by_cases c9 : 1 ≤ (a0.size : Int)
     ·rw [if_pos c9] at H
      have c9b0 := eq_true c9
      have c9b1 : decide (1 ≤ (a0.size : Int)) = true := decide_eq_true c9
      clear c9
      have H' := Aside0.mk H
      clear H
      go_wp2
      go_meet
      case rel => exact ⟨_, (a0.extract 1 a0.size), q9, H', ⟨q85⟩, ⟨q200⟩, ⟨q201⟩⟩
     ·rw [if_neg c9] at H
      exact absurd H (by simp)
    ·replace c8 := Bool.eq_false_iff.mpr c8
     subst c8
     have H1 : (frac_Parse.j1 kj1 a0 false 0 0) = some (r1, r2, r3) := by rw [if_neg (show ¬ (false = true) by decide)] at H; exact H
     clear H
     have H := H1
     clear H1
     have H' := Aside0.mk H
     clear H
     go_wp2
     go_meet
     case rel => exact ⟨_, (a0), q9, H', ⟨q85⟩, ⟨q200⟩, ⟨q201⟩⟩
   case rest =>
    clear HC7
    try clear c2
    try clear p2
    try clear c4
    try clear c4b0
    try clear c4b1
    try clear c5
    try clear c5b0
    try clear c5b1
    try clear p6
    try clear q6
    try clear hx6
    try clear qi6
    try clear c8
    try clear c9
    try clear c9b0
    try clear c9b1
    try clear p2
    try clear p6
    try clear q6
    obtain ⟨kq, x0_6, rfl, HA, HJ6, BK182, HB⟩ := hcut
    cases kq with
    | zero => exact absurd HA.out (by simp [frac_Parse.j1])
    | succ kj6 =>
     have H := HA.out
     clear HA
     simp only [frac_Parse.j1] at H
     replace H := Option.bind_eq_some_iff.mp H
     obtain ⟨⟨t183, t184, t185⟩, A100, H⟩ := H
     replace H : (if t185 = true then (if x4_1 = true then ((frac_digits_trim.f kj6 t183).bind fun t190 => (frac_Parse.j2 kj6 x4_1 t183 t184 ((t190.length : Int) == 0) 0 0)) else (frac_Parse.j2 kj6 x4_1 t183 t184 false 0 0)) else (frac_Parse.j2 kj6 x4_1 t183 t184 true 0 0)) = some (r1, r2, r3) := H
     have A10 := Aside0.mk A100
     clear A100
     have HC11 := Aside0.mk H
     clear H
     go_upto_region 5 with (first | ((with_reducible refine gate_callee (f := 41) rfl ?_); refine goesL_ (some 22) rfl rfl Try.func41 (by kernel_rfl) rfl #[.string x0_6] rfl q20 ?_; (with_reducible refine (frac_split.calls kj6 x0_6 t183 t184 t185 _ A10.out).mono ?_); rintro e w12 ⟨v186, v188, rfl, ho0, ho1, hb⟩; refine ⟨_, rfl, ?_⟩; have n0_ := Aside0.mk (Kd.R_lower ho0 (below_size q201)); have n1_ := Aside0.mk (Kd.R_lower ho1 (below_size q201)); have n2_ := Aside0.mk (blk_below (g := gb182) (o := .cells #[.int .i64 0, .int .i64 0] 23 (0, 0)) q200 hb); have n3_ := Aside0.mk (below_step q201 hb); clear BK182; clear HB; have HO187 := n0_; have HO189 := n1_; have BK182 := n2_; have HB := n3_; clear n0_ n1_ n2_ n3_; (try clear hb); (try clear hb2); (try clear hk); (try clear hi); (try clear ho0); (try clear ho1)))
     (try simp only [Act.put, List.setIfInBounds_toArray, List.set_cons_zero, List.set_cons_succ])
     go_cut [36] (fun v36 wc => ∃ (kq : Nat) (x36_10 : Bool), v36 = .bool x36_10 ∧ Aside0 (frac_Parse.j2 kq x4_1 t183 t184 x36_10 0 0 = some (r1, r2, r3)) ∧ Aside0 (kq ≤ kj6) ∧ Aside0 (Kd.R (Kd.int .u8) 5 wc w.heap.size (fun k_ => some k_ ≠ (v188 : Value).ownBlock) v186 t183) ∧ Aside0 (Kd.R (Kd.int .u8) 5 wc w.heap.size (fun k_ => some k_ ≠ (v186 : Value).ownBlock) v188 t184) ∧ Aside0 (wc.heap[gb182]? = some (.cells #[.int .i64 0, .int .i64 0] 23 (0, 0))) ∧ Aside0 (Below w.heap.size w wc))
     case first =>
      have H := HC11.out
      clear HC11
      by_cases c13 : t185 = true
      ·subst c13
       have H1 : (if x4_1 = true then ((frac_digits_trim.f kj6 t183).bind fun t190 => (frac_Parse.j2 kj6 x4_1 t183 t184 ((t190.length : Int) == 0) 0 0)) else (frac_Parse.j2 kj6 x4_1 t183 t184 false 0 0)) = some (r1, r2, r3) := by rw [if_pos rfl] at H; exact H
       clear H
       have H := H1
       clear H1
       by_cases c14 : x4_1 = true
       ·subst c14
        have H1 : ((frac_digits_trim.f kj6 t183).bind fun t190 => (frac_Parse.j2 kj6 true t183 t184 ((t190.length : Int) == 0) 0 0)) = some (r1, r2, r3) := by rw [if_pos rfl] at H; exact H
        clear H
        have H := H1
        clear H1
        replace H := Option.bind_eq_some_iff.mp H
        obtain ⟨t190, A150, H⟩ := H
        replace H : (frac_Parse.j2 kj6 true t183 t184 ((t190.length : Int) == 0) 0 0) = some (r1, r2, r3) := H
        have A15 := Aside0.mk A150
        clear A150
        have H' := Aside0.mk H
        clear H
        obtain ⟨Ao16, co16, eo16⟩ := Kd.R_slice HO187.out
        subst eo16
        go_wp2_with (first | (go_at_call 42; (with_reducible refine (frac_digits_trim.calls kj6 (fun k_ => some k_ = (.slice Ao16 t183.length co16 : Value).ownBlock) _ _ t183 t190 _ ?side1 A15.out).mono ?_); (case side1 => exact Kd.R_V (Kd.R_tight rfl (Kd.R_types (HO187.out) BK182.out (by decide)))); rintro e w17 ⟨v191, rfl, ho0, hb⟩; have n0_ := Aside0.mk (Kd.R_below q202 hb); have n1_ := Aside0.mk (Kd.R_below q203 hb); have n2_ := Aside0.mk (Kd.V_lower (Kd.V_mono (ok' := fun k_ => some k_ ≠ (v188 : Value).ownBlock ∧ k_ ≠ gb182) ho0 (fun k_ hk_ => ⟨Or.elim hk_ (fun hs_ => ((Kd.R_types (HO187.out) BK182.out (by decide)).1 k_ hs_.symm).1) (fun hn_ => (Kd.fresh' (Kd.R_lt q203) k_ hn_)), Or.elim hk_ (fun hs_ => ((Kd.R_types (HO187.out) BK182.out (by decide)).1 k_ hs_.symm).2) (fun hn_ => (Kd.freshB (g := gb182) (o := .cells #[.int .i64 0, .int .i64 0] 23 (0, 0)) q200 k_ hn_))⟩)) (below_size q201)); have n3_ := Aside0.mk (blk_below (g := gb182) (o := .cells #[.int .i64 0, .int .i64 0] 23 (0, 0)) q200 hb); have n4_ := Aside0.mk (below_step q201 hb); clear HO187; clear HO189; clear BK182; clear HB; have HO187 := n0_; have HO189 := n1_; have HO192 := n2_; have BK182 := n3_; have HB := n4_; clear n0_ n1_ n2_ n3_ n4_; (try clear hb); (try clear hb2); (try clear hk); (try clear hi); (try clear ho0); obtain ⟨Ao18, co18, eo18⟩ := Kd.V_slice HO192.out; subst eo18))
        go_meet
        case rel => exact ⟨_, (((t190.length : Int) == 0)), q9, H', ⟨q86⟩, ⟨q202⟩, ⟨q203⟩, ⟨q200⟩, ⟨q201⟩⟩
       ·replace c14 := Bool.eq_false_iff.mpr c14
        subst c14
        have H1 : (frac_Parse.j2 kj6 false t183 t184 false 0 0) = some (r1, r2, r3) := by rw [if_neg (show ¬ (false = true) by decide)] at H; exact H
        clear H
        have H := H1
        clear H1
        have H' := Aside0.mk H
        clear H
        go_wp2
        go_meet
        case rel => exact ⟨_, (false), q9, H', ⟨q86⟩, ⟨q202⟩, ⟨q203⟩, ⟨q200⟩, ⟨q201⟩⟩
      ·replace c13 := Bool.eq_false_iff.mpr c13
       subst c13
       have H1 : (frac_Parse.j2 kj6 x4_1 t183 t184 true 0 0) = some (r1, r2, r3) := by rw [if_neg (show ¬ (false = true) by decide)] at H; exact H
       clear H
       have H := H1
       clear H1
       have H' := Aside0.mk H
       clear H
       go_wp2
       go_meet
       case rel => exact ⟨_, (true), q9, H', ⟨q86⟩, ⟨q202⟩, ⟨q203⟩, ⟨q200⟩, ⟨q201⟩⟩
     case rest =>
      clear HC11
      try clear c1
      try clear c2
      try clear p2
      try clear c4
      try clear c4b0
      try clear c4b1
      try clear c5
      try clear c5b0
      try clear c5b1
      try clear p6
      try clear q6
      try clear hx6
      try clear qi6
      try clear c8
      try clear c9
      try clear c9b0
      try clear c9b1
      try clear c13
      try clear c14
      try clear p2
      try clear p6
      try clear q6
      obtain ⟨kq, x36_10, rfl, HA, HJ10, HO_5, HO_6, BK182, HB⟩ := hcut
      cases kq with
      | zero => exact absurd HA.out (by simp [frac_Parse.j2])
      | succ kj10 =>
       have H := HA.out
       clear HA
       simp only [frac_Parse.j2] at H
       by_cases c19 : x36_10 = true
       ·subst c19
        have H1 : (some (0, 0, 5)) = some (r1, r2, r3) := by rw [if_pos rfl] at H; exact H
        clear H
        have H := H1
        clear H1
        simp only [Option.some.injEq, Prod.mk.injEq] at H
        obtain ⟨rfl, rfl, rfl⟩ := H
        have hcz20_0 : wc.cell? ⟨gb182, 0, none⟩ = some (.int .i64 0) := (blk_cell BK182.out 0).trans rfl
        have hcz20_1 : wc.cell? ⟨gb182, 1, none⟩ = some (.int .i64 0) := (blk_cell BK182.out 1).trans rfl
        have hfz20_0 := blk_frozen BK182.out 0
        have hfz20_1 := blk_frozen BK182.out 1
        go_wp2
        refine bodyPost_ret (results_ct rfl _ _ gb182 23 #[.int .i64 0, .int .i64 0] (0, 0) _ rfl (by (with_reducible repeat (first | refine blk_drewN ?_ _ | refine blk_drew ?_ | refine blk_alloc ?_ _)); refine blk_put (cs := #[.int .i64 0, .int .i64 0]) ?_ 1 _ rfl; (with_reducible repeat (first | refine blk_drewN ?_ _ | refine blk_drew ?_ | refine blk_alloc ?_ _)); refine blk_put (cs := #[.int .i64 0, .int .i64 0]) ?_ 0 _ rfl; (with_reducible repeat (first | refine blk_drewN ?_ _ | refine blk_drew ?_ | refine blk_alloc ?_ _)); exact BK182.out) Try.underlying23 rfl (by kernel_rfl)) rfl ?_
        exact ⟨q13, q201⟩
       ·replace c19 := Bool.eq_false_iff.mpr c19
        subst c19
        have H1 : ((frac_digits_trim.f kj10 t183).bind fun t193 => ((frac_digits_trim.f kj10 t184).bind fun t196 => ((frac_reduce.f kj10 t193 t196).bind fun bt199 => (if bt199.2.2 = true then (if x4_1 = true then (some (wrap64 (-bt199.1), bt199.2.1, 0)) else (some (bt199.1, bt199.2.1, 0))) else (some (0, 0, 4)))))) = some (r1, r2, r3) := by rw [if_neg (show ¬ (false = true) by decide)] at H; exact H
        clear H
        have H := H1
        clear H1
        replace H := Option.bind_eq_some_iff.mp H
        obtain ⟨t193, A210, H⟩ := H
        replace H : ((frac_digits_trim.f kj10 t184).bind fun t196 => ((frac_reduce.f kj10 t193 t196).bind fun bt199 => (if bt199.2.2 = true then (if x4_1 = true then (some (wrap64 (-bt199.1), bt199.2.1, 0)) else (some (bt199.1, bt199.2.1, 0))) else (some (0, 0, 4))))) = some (r1, r2, r3) := H
        have A21 := Aside0.mk A210
        clear A210
        replace H := Option.bind_eq_some_iff.mp H
        obtain ⟨t196, A220, H⟩ := H
        replace H : ((frac_reduce.f kj10 t193 t196).bind fun bt199 => (if bt199.2.2 = true then (if x4_1 = true then (some (wrap64 (-bt199.1), bt199.2.1, 0)) else (some (bt199.1, bt199.2.1, 0))) else (some (0, 0, 4)))) = some (r1, r2, r3) := H
        have A22 := Aside0.mk A220
        clear A220
        replace H := Option.bind_eq_some_iff.mp H
        obtain ⟨⟨t199, t200, t201⟩, A230, H⟩ := H
        replace H : (if t201 = true then (if x4_1 = true then (some (wrap64 (-t199), t200, 0)) else (some (t199, t200, 0))) else (some (0, 0, 4))) = some (r1, r2, r3) := H
        have A23 := Aside0.mk A230
        clear A230
        by_cases c24 : t201 = true
        ·subst c24
         have H1 : (if x4_1 = true then (some (wrap64 (-t199), t200, 0)) else (some (t199, t200, 0))) = some (r1, r2, r3) := by rw [if_pos rfl] at H; exact H
         clear H
         have H := H1
         clear H1
         by_cases c25 : x4_1 = true
         ·subst c25
          have H1 : (some (wrap64 (-t199), t200, 0)) = some (r1, r2, r3) := by rw [if_pos rfl] at H; exact H
          clear H
          have H := H1
          clear H1
          simp only [Option.some.injEq, Prod.mk.injEq] at H
          obtain ⟨rfl, rfl, rfl⟩ := H
          obtain ⟨Ao26, co26, eo26⟩ := Kd.R_slice HO_5.out
          subst eo26
          go_wp2_with (first | ((with_reducible refine gate_callee (f := 42) rfl ?_); refine goesL_ (some 40) rfl rfl Try.func42 (by kernel_rfl) rfl #[.slice Ao26 t183.length co26] rfl q20 ?_; (with_reducible refine (frac_digits_trim.calls kj10 (fun k_ => some k_ = (.slice Ao26 t183.length co26 : Value).ownBlock) _ _ t183 t193 _ ?side1 A21.out).mono ?_); (case side1 => exact Kd.R_V (Kd.R_tight rfl (Kd.R_types (HO_5.out) BK182.out (by decide)))); rintro e w27 ⟨v194, rfl, ho0, hb⟩; refine ⟨_, rfl, ?_⟩; have n0_ := Aside0.mk (Kd.R_below q198 hb); have n1_ := Aside0.mk (Kd.R_below q81 hb); have n2_ := Aside0.mk (Kd.V_lower (Kd.V_mono (ok' := fun k_ => some k_ ≠ (v188 : Value).ownBlock ∧ k_ ≠ gb182) ho0 (fun k_ hk_ => ⟨Or.elim hk_ (fun hs_ => ((Kd.R_types (HO_5.out) BK182.out (by decide)).1 k_ hs_.symm).1) (fun hn_ => (Kd.fresh' (Kd.R_lt q81) k_ hn_)), Or.elim hk_ (fun hs_ => ((Kd.R_types (HO_5.out) BK182.out (by decide)).1 k_ hs_.symm).2) (fun hn_ => (Kd.freshB (g := gb182) (o := .cells #[.int .i64 0, .int .i64 0] 23 (0, 0)) q200 k_ hn_))⟩)) (below_size q201)); have n3_ := Aside0.mk (blk_below (g := gb182) (o := .cells #[.int .i64 0, .int .i64 0] 23 (0, 0)) q200 hb); have n4_ := Aside0.mk (below_step q201 hb); clear HO_5; clear HO_6; clear BK182; clear HB; have HO_5 := n0_; have HO_6 := n1_; have HO195 := n2_; have BK182 := n3_; have HB := n4_; clear n0_ n1_ n2_ n3_ n4_; (try clear hb); (try clear hb2); (try clear hk); (try clear hi); (try clear ho0); obtain ⟨Ao28, co28, eo28⟩ := Kd.R_slice HO_6.out; subst eo28) | ((with_reducible refine gate_callee (f := 42) rfl ?_); refine goesL_ (some 42) rfl rfl Try.func42 (by kernel_rfl) rfl #[.slice Ao28 t184.length co28] rfl q20 ?_; (with_reducible refine (frac_digits_trim.calls kj10 (fun k_ => some k_ = (.slice Ao28 t184.length co28 : Value).ownBlock) _ _ t184 t196 _ ?side1 A22.out).mono ?_); (case side1 => exact Kd.R_V (Kd.R_tight rfl (Kd.R_types (HO_6.out) BK182.out (by decide)))); rintro e w29 ⟨v197, rfl, ho0, hb⟩; refine ⟨_, rfl, ?_⟩; have n0_ := Aside0.mk (Kd.R_below q198 hb); have n1_ := Aside0.mk (Kd.R_below q81 hb); have n2_ := Aside0.mk (Kd.V_below q204 hb); have n3_ := Aside0.mk (Kd.V_lower (Kd.V_mono (ok' := fun k_ => some k_ ≠ (.slice Ao26 t183.length co26 : Value).ownBlock ∧ k_ ≠ gb182) ho0 (fun k_ hk_ => ⟨Or.elim hk_ (fun hs_ => ((Kd.R_types (HO_6.out) BK182.out (by decide)).1 k_ hs_.symm).1) (fun hn_ => (Kd.fresh' (Kd.R_lt q198) k_ hn_)), Or.elim hk_ (fun hs_ => ((Kd.R_types (HO_6.out) BK182.out (by decide)).1 k_ hs_.symm).2) (fun hn_ => (Kd.freshB (g := gb182) (o := .cells #[.int .i64 0, .int .i64 0] 23 (0, 0)) q200 k_ hn_))⟩)) (below_size q201)); have n4_ := Aside0.mk (blk_below (g := gb182) (o := .cells #[.int .i64 0, .int .i64 0] 23 (0, 0)) q200 hb); have n5_ := Aside0.mk (below_step q201 hb); clear HO_5; clear HO_6; clear HO195; clear BK182; clear HB; have HO_5 := n0_; have HO_6 := n1_; have HO195 := n2_; have HO198 := n3_; have BK182 := n4_; have HB := n5_; clear n0_ n1_ n2_ n3_ n4_ n5_; (try clear hb); (try clear hb2); (try clear hk); (try clear hi); (try clear ho0); obtain ⟨Ao30, co30, eo30⟩ := Kd.V_slice HO195.out; subst eo30; obtain ⟨Ao31, co31, eo31⟩ := Kd.V_slice HO198.out; subst eo31) | ((with_reducible refine gate_callee (f := 43) rfl ?_); refine goesL_ (some 43) rfl rfl Try.func43 (by kernel_rfl) rfl #[.slice Ao30 t193.length co30, .slice Ao31 t196.length co31] rfl q20 ?_; (with_reducible refine (frac_reduce.calls kj10 _ _ t193 _ _ t196 t199 t200 true _ ?side1 ?side2 ?side3 ?side4 A23.out).mono ?_); (case side1 => repeat (first | exact (Kd.V_reads' HO195.out).2.2 | (with_reducible refine Kd.C_alloc ?_ _) | (with_reducible refine Kd.C_drewN ?_ _) | (with_reducible refine Kd.C_drew ?_))); (case side2 => exact (Kd.V_reads' HO195.out).2.1); (case side3 => repeat (first | exact (Kd.V_reads' HO198.out).2.2 | (with_reducible refine Kd.C_alloc ?_ _) | (with_reducible refine Kd.C_drewN ?_ _) | (with_reducible refine Kd.C_drew ?_))); (case side4 => exact (Kd.V_reads' HO198.out).2.1); rintro e w32 ⟨rfl, hb⟩; refine ⟨_, rfl, ?_⟩; have n0_ := Aside0.mk (Kd.R_below q198 hb); have n1_ := Aside0.mk (Kd.R_below q81 hb); have n2_ := Aside0.mk (Kd.V_below q204 hb); have n3_ := Aside0.mk (Kd.V_below q205 hb); have n4_ := Aside0.mk (blk_below (g := gb182) (o := .cells #[.int .i64 0, .int .i64 0] 23 (0, 0)) q200 hb); have n5_ := Aside0.mk (below_step q201 hb); clear HO_5; clear HO_6; clear HO195; clear HO198; clear BK182; clear HB; have HO_5 := n0_; have HO_6 := n1_; have HO195 := n2_; have HO198 := n3_; have BK182 := n4_; have HB := n5_; clear n0_ n1_ n2_ n3_ n4_ n5_; (try clear hb); (try clear hb2); (try clear hk); (try clear hi); have hcz33_0 : w32.cell? ⟨gb182, 0, none⟩ = some (.int .i64 0) := (blk_cell BK182.out 0).trans rfl; have hcz33_1 : w32.cell? ⟨gb182, 1, none⟩ = some (.int .i64 0) := (blk_cell BK182.out 1).trans rfl; have hfz33_0 := blk_frozen BK182.out 0; have hfz33_1 := blk_frozen BK182.out 1))
          refine bodyPost_ret (results_ct rfl _ _ gb182 23 #[.int .i64 (wrap64 (-t199)), .int .i64 t200] (0, 0) _ rfl (by (with_reducible repeat (first | refine blk_drewN ?_ _ | refine blk_drew ?_ | refine blk_alloc ?_ _)); refine blk_put (cs := #[.int .i64 (wrap64 (-t199)), .int .i64 0]) ?_ 1 _ rfl; (with_reducible repeat (first | refine blk_drewN ?_ _ | refine blk_drew ?_ | refine blk_alloc ?_ _)); refine blk_put (cs := #[.int .i64 0, .int .i64 0]) ?_ 0 _ rfl; (with_reducible repeat (first | refine blk_drewN ?_ _ | refine blk_drew ?_ | refine blk_alloc ?_ _)); exact BK182.out) Try.underlying23 rfl (by kernel_rfl)) rfl ?_
          exact ⟨q13, q201⟩
         ·replace c25 := Bool.eq_false_iff.mpr c25
          subst c25
          have H1 : (some (t199, t200, 0)) = some (r1, r2, r3) := by rw [if_neg (show ¬ (false = true) by decide)] at H; exact H
          clear H
          have H := H1
          clear H1
          simp only [Option.some.injEq, Prod.mk.injEq] at H
          obtain ⟨rfl, rfl, rfl⟩ := H
          obtain ⟨Ao34, co34, eo34⟩ := Kd.R_slice HO_5.out
          subst eo34
          go_wp2_with (first | ((with_reducible refine gate_callee (f := 42) rfl ?_); refine goesL_ (some 40) rfl rfl Try.func42 (by kernel_rfl) rfl #[.slice Ao34 t183.length co34] rfl q20 ?_; (with_reducible refine (frac_digits_trim.calls kj10 (fun k_ => some k_ = (.slice Ao34 t183.length co34 : Value).ownBlock) _ _ t183 t193 _ ?side1 A21.out).mono ?_); (case side1 => exact Kd.R_V (Kd.R_tight rfl (Kd.R_types (HO_5.out) BK182.out (by decide)))); rintro e w35 ⟨v194, rfl, ho0, hb⟩; refine ⟨_, rfl, ?_⟩; have n0_ := Aside0.mk (Kd.R_below q198 hb); have n1_ := Aside0.mk (Kd.R_below q81 hb); have n2_ := Aside0.mk (Kd.V_lower (Kd.V_mono (ok' := fun k_ => some k_ ≠ (v188 : Value).ownBlock ∧ k_ ≠ gb182) ho0 (fun k_ hk_ => ⟨Or.elim hk_ (fun hs_ => ((Kd.R_types (HO_5.out) BK182.out (by decide)).1 k_ hs_.symm).1) (fun hn_ => (Kd.fresh' (Kd.R_lt q81) k_ hn_)), Or.elim hk_ (fun hs_ => ((Kd.R_types (HO_5.out) BK182.out (by decide)).1 k_ hs_.symm).2) (fun hn_ => (Kd.freshB (g := gb182) (o := .cells #[.int .i64 0, .int .i64 0] 23 (0, 0)) q200 k_ hn_))⟩)) (below_size q201)); have n3_ := Aside0.mk (blk_below (g := gb182) (o := .cells #[.int .i64 0, .int .i64 0] 23 (0, 0)) q200 hb); have n4_ := Aside0.mk (below_step q201 hb); clear HO_5; clear HO_6; clear BK182; clear HB; have HO_5 := n0_; have HO_6 := n1_; have HO195 := n2_; have BK182 := n3_; have HB := n4_; clear n0_ n1_ n2_ n3_ n4_; (try clear hb); (try clear hb2); (try clear hk); (try clear hi); (try clear ho0); obtain ⟨Ao36, co36, eo36⟩ := Kd.R_slice HO_6.out; subst eo36) | ((with_reducible refine gate_callee (f := 42) rfl ?_); refine goesL_ (some 42) rfl rfl Try.func42 (by kernel_rfl) rfl #[.slice Ao36 t184.length co36] rfl q20 ?_; (with_reducible refine (frac_digits_trim.calls kj10 (fun k_ => some k_ = (.slice Ao36 t184.length co36 : Value).ownBlock) _ _ t184 t196 _ ?side1 A22.out).mono ?_); (case side1 => exact Kd.R_V (Kd.R_tight rfl (Kd.R_types (HO_6.out) BK182.out (by decide)))); rintro e w37 ⟨v197, rfl, ho0, hb⟩; refine ⟨_, rfl, ?_⟩; have n0_ := Aside0.mk (Kd.R_below q198 hb); have n1_ := Aside0.mk (Kd.R_below q81 hb); have n2_ := Aside0.mk (Kd.V_below q204 hb); have n3_ := Aside0.mk (Kd.V_lower (Kd.V_mono (ok' := fun k_ => some k_ ≠ (.slice Ao34 t183.length co34 : Value).ownBlock ∧ k_ ≠ gb182) ho0 (fun k_ hk_ => ⟨Or.elim hk_ (fun hs_ => ((Kd.R_types (HO_6.out) BK182.out (by decide)).1 k_ hs_.symm).1) (fun hn_ => (Kd.fresh' (Kd.R_lt q198) k_ hn_)), Or.elim hk_ (fun hs_ => ((Kd.R_types (HO_6.out) BK182.out (by decide)).1 k_ hs_.symm).2) (fun hn_ => (Kd.freshB (g := gb182) (o := .cells #[.int .i64 0, .int .i64 0] 23 (0, 0)) q200 k_ hn_))⟩)) (below_size q201)); have n4_ := Aside0.mk (blk_below (g := gb182) (o := .cells #[.int .i64 0, .int .i64 0] 23 (0, 0)) q200 hb); have n5_ := Aside0.mk (below_step q201 hb); clear HO_5; clear HO_6; clear HO195; clear BK182; clear HB; have HO_5 := n0_; have HO_6 := n1_; have HO195 := n2_; have HO198 := n3_; have BK182 := n4_; have HB := n5_; clear n0_ n1_ n2_ n3_ n4_ n5_; (try clear hb); (try clear hb2); (try clear hk); (try clear hi); (try clear ho0); obtain ⟨Ao38, co38, eo38⟩ := Kd.V_slice HO195.out; subst eo38; obtain ⟨Ao39, co39, eo39⟩ := Kd.V_slice HO198.out; subst eo39) | ((with_reducible refine gate_callee (f := 43) rfl ?_); refine goesL_ (some 43) rfl rfl Try.func43 (by kernel_rfl) rfl #[.slice Ao38 t193.length co38, .slice Ao39 t196.length co39] rfl q20 ?_; (with_reducible refine (frac_reduce.calls kj10 _ _ t193 _ _ t196 t199 t200 true _ ?side1 ?side2 ?side3 ?side4 A23.out).mono ?_); (case side1 => repeat (first | exact (Kd.V_reads' HO195.out).2.2 | (with_reducible refine Kd.C_alloc ?_ _) | (with_reducible refine Kd.C_drewN ?_ _) | (with_reducible refine Kd.C_drew ?_))); (case side2 => exact (Kd.V_reads' HO195.out).2.1); (case side3 => repeat (first | exact (Kd.V_reads' HO198.out).2.2 | (with_reducible refine Kd.C_alloc ?_ _) | (with_reducible refine Kd.C_drewN ?_ _) | (with_reducible refine Kd.C_drew ?_))); (case side4 => exact (Kd.V_reads' HO198.out).2.1); rintro e w40 ⟨rfl, hb⟩; refine ⟨_, rfl, ?_⟩; have n0_ := Aside0.mk (Kd.R_below q198 hb); have n1_ := Aside0.mk (Kd.R_below q81 hb); have n2_ := Aside0.mk (Kd.V_below q204 hb); have n3_ := Aside0.mk (Kd.V_below q205 hb); have n4_ := Aside0.mk (blk_below (g := gb182) (o := .cells #[.int .i64 0, .int .i64 0] 23 (0, 0)) q200 hb); have n5_ := Aside0.mk (below_step q201 hb); clear HO_5; clear HO_6; clear HO195; clear HO198; clear BK182; clear HB; have HO_5 := n0_; have HO_6 := n1_; have HO195 := n2_; have HO198 := n3_; have BK182 := n4_; have HB := n5_; clear n0_ n1_ n2_ n3_ n4_ n5_; (try clear hb); (try clear hb2); (try clear hk); (try clear hi); have hcz41_0 : w40.cell? ⟨gb182, 0, none⟩ = some (.int .i64 0) := (blk_cell BK182.out 0).trans rfl; have hcz41_1 : w40.cell? ⟨gb182, 1, none⟩ = some (.int .i64 0) := (blk_cell BK182.out 1).trans rfl; have hfz41_0 := blk_frozen BK182.out 0; have hfz41_1 := blk_frozen BK182.out 1))
          refine bodyPost_ret (results_ct rfl _ _ gb182 23 #[.int .i64 t199, .int .i64 t200] (0, 0) _ rfl (by (with_reducible repeat (first | refine blk_drewN ?_ _ | refine blk_drew ?_ | refine blk_alloc ?_ _)); refine blk_put (cs := #[.int .i64 t199, .int .i64 0]) ?_ 1 _ rfl; (with_reducible repeat (first | refine blk_drewN ?_ _ | refine blk_drew ?_ | refine blk_alloc ?_ _)); refine blk_put (cs := #[.int .i64 0, .int .i64 0]) ?_ 0 _ rfl; (with_reducible repeat (first | refine blk_drewN ?_ _ | refine blk_drew ?_ | refine blk_alloc ?_ _)); exact BK182.out) Try.underlying23 rfl (by kernel_rfl)) rfl ?_
          exact ⟨q13, q201⟩
        ·replace c24 := Bool.eq_false_iff.mpr c24
         subst c24
         have H1 : (some (0, 0, 4)) = some (r1, r2, r3) := by rw [if_neg (show ¬ (false = true) by decide)] at H; exact H
         clear H
         have H := H1
         clear H1
         simp only [Option.some.injEq, Prod.mk.injEq] at H
         obtain ⟨rfl, rfl, rfl⟩ := H
         obtain ⟨Ao42, co42, eo42⟩ := Kd.R_slice HO_5.out
         subst eo42
         go_wp2_with (first | ((with_reducible refine gate_callee (f := 42) rfl ?_); refine goesL_ (some 40) rfl rfl Try.func42 (by kernel_rfl) rfl #[.slice Ao42 t183.length co42] rfl q20 ?_; (with_reducible refine (frac_digits_trim.calls kj10 (fun k_ => some k_ = (.slice Ao42 t183.length co42 : Value).ownBlock) _ _ t183 t193 _ ?side1 A21.out).mono ?_); (case side1 => exact Kd.R_V (Kd.R_tight rfl (Kd.R_types (HO_5.out) BK182.out (by decide)))); rintro e w43 ⟨v194, rfl, ho0, hb⟩; refine ⟨_, rfl, ?_⟩; have n0_ := Aside0.mk (Kd.R_below q198 hb); have n1_ := Aside0.mk (Kd.R_below q81 hb); have n2_ := Aside0.mk (Kd.V_lower (Kd.V_mono (ok' := fun k_ => some k_ ≠ (v188 : Value).ownBlock ∧ k_ ≠ gb182) ho0 (fun k_ hk_ => ⟨Or.elim hk_ (fun hs_ => ((Kd.R_types (HO_5.out) BK182.out (by decide)).1 k_ hs_.symm).1) (fun hn_ => (Kd.fresh' (Kd.R_lt q81) k_ hn_)), Or.elim hk_ (fun hs_ => ((Kd.R_types (HO_5.out) BK182.out (by decide)).1 k_ hs_.symm).2) (fun hn_ => (Kd.freshB (g := gb182) (o := .cells #[.int .i64 0, .int .i64 0] 23 (0, 0)) q200 k_ hn_))⟩)) (below_size q201)); have n3_ := Aside0.mk (blk_below (g := gb182) (o := .cells #[.int .i64 0, .int .i64 0] 23 (0, 0)) q200 hb); have n4_ := Aside0.mk (below_step q201 hb); clear HO_5; clear HO_6; clear BK182; clear HB; have HO_5 := n0_; have HO_6 := n1_; have HO195 := n2_; have BK182 := n3_; have HB := n4_; clear n0_ n1_ n2_ n3_ n4_; (try clear hb); (try clear hb2); (try clear hk); (try clear hi); (try clear ho0); obtain ⟨Ao44, co44, eo44⟩ := Kd.R_slice HO_6.out; subst eo44) | ((with_reducible refine gate_callee (f := 42) rfl ?_); refine goesL_ (some 42) rfl rfl Try.func42 (by kernel_rfl) rfl #[.slice Ao44 t184.length co44] rfl q20 ?_; (with_reducible refine (frac_digits_trim.calls kj10 (fun k_ => some k_ = (.slice Ao44 t184.length co44 : Value).ownBlock) _ _ t184 t196 _ ?side1 A22.out).mono ?_); (case side1 => exact Kd.R_V (Kd.R_tight rfl (Kd.R_types (HO_6.out) BK182.out (by decide)))); rintro e w45 ⟨v197, rfl, ho0, hb⟩; refine ⟨_, rfl, ?_⟩; have n0_ := Aside0.mk (Kd.R_below q198 hb); have n1_ := Aside0.mk (Kd.R_below q81 hb); have n2_ := Aside0.mk (Kd.V_below q204 hb); have n3_ := Aside0.mk (Kd.V_lower (Kd.V_mono (ok' := fun k_ => some k_ ≠ (.slice Ao42 t183.length co42 : Value).ownBlock ∧ k_ ≠ gb182) ho0 (fun k_ hk_ => ⟨Or.elim hk_ (fun hs_ => ((Kd.R_types (HO_6.out) BK182.out (by decide)).1 k_ hs_.symm).1) (fun hn_ => (Kd.fresh' (Kd.R_lt q198) k_ hn_)), Or.elim hk_ (fun hs_ => ((Kd.R_types (HO_6.out) BK182.out (by decide)).1 k_ hs_.symm).2) (fun hn_ => (Kd.freshB (g := gb182) (o := .cells #[.int .i64 0, .int .i64 0] 23 (0, 0)) q200 k_ hn_))⟩)) (below_size q201)); have n4_ := Aside0.mk (blk_below (g := gb182) (o := .cells #[.int .i64 0, .int .i64 0] 23 (0, 0)) q200 hb); have n5_ := Aside0.mk (below_step q201 hb); clear HO_5; clear HO_6; clear HO195; clear BK182; clear HB; have HO_5 := n0_; have HO_6 := n1_; have HO195 := n2_; have HO198 := n3_; have BK182 := n4_; have HB := n5_; clear n0_ n1_ n2_ n3_ n4_ n5_; (try clear hb); (try clear hb2); (try clear hk); (try clear hi); (try clear ho0); obtain ⟨Ao46, co46, eo46⟩ := Kd.V_slice HO195.out; subst eo46; obtain ⟨Ao47, co47, eo47⟩ := Kd.V_slice HO198.out; subst eo47) | ((with_reducible refine gate_callee (f := 43) rfl ?_); refine goesL_ (some 43) rfl rfl Try.func43 (by kernel_rfl) rfl #[.slice Ao46 t193.length co46, .slice Ao47 t196.length co47] rfl q20 ?_; (with_reducible refine (frac_reduce.calls kj10 _ _ t193 _ _ t196 t199 t200 false _ ?side1 ?side2 ?side3 ?side4 A23.out).mono ?_); (case side1 => repeat (first | exact (Kd.V_reads' HO195.out).2.2 | (with_reducible refine Kd.C_alloc ?_ _) | (with_reducible refine Kd.C_drewN ?_ _) | (with_reducible refine Kd.C_drew ?_))); (case side2 => exact (Kd.V_reads' HO195.out).2.1); (case side3 => repeat (first | exact (Kd.V_reads' HO198.out).2.2 | (with_reducible refine Kd.C_alloc ?_ _) | (with_reducible refine Kd.C_drewN ?_ _) | (with_reducible refine Kd.C_drew ?_))); (case side4 => exact (Kd.V_reads' HO198.out).2.1); rintro e w48 ⟨rfl, hb⟩; refine ⟨_, rfl, ?_⟩; have n0_ := Aside0.mk (Kd.R_below q198 hb); have n1_ := Aside0.mk (Kd.R_below q81 hb); have n2_ := Aside0.mk (Kd.V_below q204 hb); have n3_ := Aside0.mk (Kd.V_below q205 hb); have n4_ := Aside0.mk (blk_below (g := gb182) (o := .cells #[.int .i64 0, .int .i64 0] 23 (0, 0)) q200 hb); have n5_ := Aside0.mk (below_step q201 hb); clear HO_5; clear HO_6; clear HO195; clear HO198; clear BK182; clear HB; have HO_5 := n0_; have HO_6 := n1_; have HO195 := n2_; have HO198 := n3_; have BK182 := n4_; have HB := n5_; clear n0_ n1_ n2_ n3_ n4_ n5_; (try clear hb); (try clear hb2); (try clear hk); (try clear hi); have hcz49_0 : w48.cell? ⟨gb182, 0, none⟩ = some (.int .i64 0) := (blk_cell BK182.out 0).trans rfl; have hcz49_1 : w48.cell? ⟨gb182, 1, none⟩ = some (.int .i64 0) := (blk_cell BK182.out 1).trans rfl; have hfz49_0 := blk_frozen BK182.out 0; have hfz49_1 := blk_frozen BK182.out 1))
         refine bodyPost_ret (results_ct rfl _ _ gb182 23 #[.int .i64 0, .int .i64 0] (0, 0) _ rfl (by (with_reducible repeat (first | refine blk_drewN ?_ _ | refine blk_drew ?_ | refine blk_alloc ?_ _)); refine blk_put (cs := #[.int .i64 0, .int .i64 0]) ?_ 1 _ rfl; (with_reducible repeat (first | refine blk_drewN ?_ _ | refine blk_drew ?_ | refine blk_alloc ?_ _)); refine blk_put (cs := #[.int .i64 0, .int .i64 0]) ?_ 0 _ rfl; (with_reducible repeat (first | refine blk_drewN ?_ _ | refine blk_drew ?_ | refine blk_alloc ?_ _)); exact BK182.out) Try.underlying23 rfl (by kernel_rfl)) rfl ?_
         exact ⟨q13, q201⟩

/-! ### muldiv_direction: function 71 -/
def muldiv_direction.j0 : Nat → Int → Int → Bool → Option (Int)
 | 0, _, _, _ => none
 | k + 1, x0, x1, x5 => if x5 = true then (some 0) else (if ((decide (x0 < 0)) != (decide (x1 < 0))) = true then (some (-1)) else (some 1))
def muldiv_direction.f (k : Nat) (a0 : Int) (a1 : Int) : Option (Int) := if a0 = 0 then (muldiv_direction.j0 k a0 a1 true) else (muldiv_direction.j0 k a0 a1 (a1 == 0))
theorem muldiv_direction.mono_l : ∀ k, (∀ y0 y1 y2, LeO (muldiv_direction.j0 k y0 y1 y2) (muldiv_direction.j0 (k + 1) y0 y1 y2))
 | 0 => fun _ _ _ r h => by simp [muldiv_direction.j0] at h
 | k + 1 => by
  have ih0 := muldiv_direction.mono_l k
  ·intro y0 y1 y2
   unfold muldiv_direction.j0
   repeat' first
   | (with_reducible exact ih0 _ _ _)
   | (with_reducible exact LeO.refl _)
   | (with_reducible exact LeO.none _)
   | (with_reducible refine LeO.ite ?_ ?_)
   | (with_reducible refine LeO.bind ?_ (fun _ => ?_))
   | exact ih0 _ _ _
   | exact LeO.none _
   | refine LeO.ite ?_ ?_
   | refine LeO.bind ?_ (fun _ => ?_)
theorem muldiv_direction.mono : ∀ a0 a1 k, LeO (muldiv_direction.f k a0 a1) (muldiv_direction.f (k + 1) a0 a1) := by
 intro a0 a1 k
 have ih0 := muldiv_direction.mono_l k
 unfold muldiv_direction.f
 repeat' first
   | (with_reducible exact ih0 _ _ _)
   | (with_reducible exact LeO.refl _)
   | (with_reducible exact LeO.none _)
   | (with_reducible refine LeO.ite ?_ ?_)
   | (with_reducible refine LeO.bind ?_ (fun _ => ?_))
   | exact ih0 _ _ _
   | exact LeO.none _
   | refine LeO.ite ?_ ?_
   | refine LeO.bind ?_ (fun _ => ?_)
set_option maxHeartbeats 8000000 in
set_option maxRecDepth 100000 in
theorem muldiv_direction.calls (k : Nat) (a0 : Int) (a1 : Int) (r : Int) (w : World) (h : muldiv_direction.f k a0 a1 = some r) :
  Calls Try.prog 71 #[.int .i64 a0, .int .i64 a1] w fun e w' => e = .returned (.int .i64 r) ∧ Drawn0 w w' := by
 have H : (if a0 = 0 then (muldiv_direction.j0 k a0 a1 true) else (muldiv_direction.j0 k a0 a1 (a1 == 0))) = some r := h
 clear h
 have HC3 := Aside0.mk H
 clear H
 go_enter Try.func71, Try.ntmps71
 go_upto_region 1 with (fail)
 go_cut [5] (fun v5 wc => ∃ (kq : Nat) (x5_2 : Bool), v5 = .bool x5_2 ∧ Aside0 (muldiv_direction.j0 kq a0 a1 x5_2 = some r) ∧ Aside0 (kq ≤ k) ∧ Drawn0 w wc)
 case first =>
  have H := HC3.out
  clear HC3
  by_cases c4 : a0 = 0
  ·rw [if_pos c4] at H
   have c4b0 : (a0 == 0) = true := beq_iff_eq.mpr c4
   have c4b1 : (a0 != 0) = false := bne_eq_false_iff_eq.mpr c4
   clear c4
   (first | rw [c4b0] | (simp only [i64_w, i32_w]; rw [c4b0]) | skip)
   have H' := Aside0.mk H
   clear H
   go_wp2
   go_meet
   case rel => exact ⟨_, (true), q9, H', ⟨by first | omega | exact Nat.le_refl _⟩, q10⟩
  ·rw [if_neg c4] at H
   have c4b0 : (a0 == 0) = false := beq_eq_false_iff_ne.mpr c4
   have c4b1 : (a0 != 0) = true := bne_iff_ne.mpr c4
   (first | rw [c4b0] | (simp only [i64_w, i32_w]; rw [c4b0]) | skip)
   have H' := Aside0.mk H
   clear H
   go_wp2
   go_meet
   case rel => exact ⟨_, ((a1 == 0)), q9, H', ⟨by first | omega | exact Nat.le_refl _⟩, q10⟩
 case rest =>
  clear HC3
  try clear p2
  try clear c4
  try clear c4b0
  try clear c4b1
  obtain ⟨kq, x5_2, rfl, HA, HJ2, ⟨mc2, rfl⟩⟩ := hcut
  cases kq with
  | zero => exact absurd HA.out (by simp [muldiv_direction.j0])
  | succ kj2 =>
   have H := HA.out
   clear HA
   simp only [muldiv_direction.j0] at H
   by_cases c5 : x5_2 = true
   ·subst c5
    have H1 : (some 0) = some r := by rw [if_pos rfl] at H; exact H
    clear H
    have H := H1
    clear H1
    obtain rfl := Option.some.inj H
    go_wp2
    go_ret
    exact ⟨q9, q10⟩
   ·replace c5 := Bool.eq_false_iff.mpr c5
    subst c5
    have H1 : (if ((decide (a0 < 0)) != (decide (a1 < 0))) = true then (some (-1)) else (some 1)) = some r := by rw [if_neg (show ¬ (false = true) by decide)] at H; exact H
    clear H
    have H := H1
    clear H1
    by_cases c6 : ((decide (a0 < 0)) != (decide (a1 < 0))) = true
    ·rw [if_pos c6] at H
     have c6b0 : ((decide (a0 < 0)) != (decide (a1 < 0))) = true := c6
     (try (have c6b1 : decide ((decide (a0 < 0)) = (decide (a1 < 0))) = false := by simpa using c6))
     (try (have c6b2 : ((decide (a0 < 0)) == (decide (a1 < 0))) = false := by simpa using c6))
     (try (have c6b3 : ¬ ((decide (a0 < 0)) = (decide (a1 < 0))) := by simpa using c6))
     clear c6
     obtain rfl := Option.some.inj H
     go_wp2
     go_ret
     exact ⟨q9, q10⟩
    ·rw [if_neg c6] at H
     have c6b0 : ((decide (a0 < 0)) != (decide (a1 < 0))) = false := by simpa using c6
     (try (have c6b1 : decide ((decide (a0 < 0)) = (decide (a1 < 0))) = true := by simpa using c6))
     (try (have c6b2 : ((decide (a0 < 0)) == (decide (a1 < 0))) = true := by simpa using c6))
     clear c6
     obtain rfl := Option.some.inj H
     go_wp2
     go_ret
     exact ⟨q9, q10⟩

set_option maxHeartbeats 1600000 in
theorem direction_any (a b : Int) (w : World) : Calls Try.prog 71 #[.int .i64 a, .int .i64 b] w fun e w' => e = .returned (.int .i64 (dirS a b)) ∧ w = w' := by
 unfold dirS
 by_cases h1 : a = 0
 ·subst h1
  rw [if_pos (.inl rfl)]
  go_enter Try.func71, Try.ntmps71
  go_wp2
  go_ret
  exact ⟨rfl, rfl⟩
 ·have h1' : (a == 0) = false := by rw [beq_eq_false_iff_ne]; exact h1
  by_cases h2 : b = 0
  ·subst h2
   rw [if_pos (.inr rfl)]
   clear h1
   go_enter Try.func71, Try.ntmps71
   go_wp2
   go_ret
   exact ⟨rfl, rfl⟩
  ·have h2' : (b == 0) = false := by rw [beq_eq_false_iff_ne]; exact h2
   rw [if_neg (fun h => h.elim h1 h2)]
   clear h1 h2
   by_cases ha : a < 0 <;> by_cases hb : b < 0 <;> simp only [ha, hb, decide_true, decide_false, bne_self_eq_false, Bool.false_eq_true, if_false, if_true, Bool.bne_false, Bool.bne_true, Bool.not_false]
   all_goals
    go_enter Try.func71, Try.ntmps71
    go_wp2
    go_ret
    exact ⟨rfl, rfl⟩

/-! ### muldiv_compare: function 72 (by hand) -/
set_option maxHeartbeats 3200000 in
theorem compare_any (a b c d : Int) (w : World) :
  Calls Try.prog 72 #[.agg #[.int .u64 a, .int .u64 b], .agg #[.int .u64 c, .int .u64 d]] w fun e w' => e = .returned (.int .i64 (cmp2 a b c d)) ∧ Below w.heap.size w w' := by
 unfold cmp2
 by_cases h0 : a = c
 ·subst h0
  rw [if_pos rfl]
  by_cases h3 : b = d
  ·subst h3
   rw [if_pos rfl]
   go_enter Try.func72, Try.ntmps72
   go_wp2_with fail
   refine wp_loop_rounds 3 ?_
   rw [rounds_succ]
   go_wp2_with fail
   go_quiet (fail)
   go_wp2_with fail
   rw [rounds_succ]
   go_wp2_with fail
   go_quiet (fail)
   go_wp2_with fail
   rw [rounds_succ]
   go_wp2_with fail
   go_ret
   exact ⟨rfl, q206⟩
  ·rw [if_neg h3]
   have h1 : (b == d) = false := by rw [beq_eq_false_iff_ne]; omega
   have h2 : (b != d) = true := by rw [bne_iff_ne]; omega
   clear h3
   by_cases h4 : b < d
   ·rw [if_pos h4]
    go_enter Try.func72, Try.ntmps72
    go_wp2_with fail
    refine wp_loop_rounds 3 ?_
    rw [rounds_succ]
    go_wp2_with fail
    go_quiet (fail)
    go_wp2_with fail
    rw [rounds_succ]
    go_wp2_with fail
    go_quiet (fail)
    go_wp2_with fail
    go_quiet (fail)
    go_wp2_with fail
    go_ret
    exact ⟨rfl, q206⟩
   ·rw [if_neg h4]
    go_enter Try.func72, Try.ntmps72
    go_wp2_with fail
    refine wp_loop_rounds 3 ?_
    rw [rounds_succ]
    go_wp2_with fail
    go_quiet (fail)
    go_wp2_with fail
    rw [rounds_succ]
    go_wp2_with fail
    go_quiet (fail)
    go_wp2_with fail
    go_quiet (fail)
    go_wp2_with fail
    go_ret
    exact ⟨rfl, q206⟩
 ·rw [if_neg h0]
  have h1 : (a == c) = false := by rw [beq_eq_false_iff_ne]; omega
  have h2 : (a != c) = true := by rw [bne_iff_ne]; omega
  clear h0
  by_cases h4 : a < c
  ·rw [if_pos h4]
   go_enter Try.func72, Try.ntmps72
   go_wp2_with fail
   refine wp_loop_rounds 3 ?_
   rw [rounds_succ]
   go_wp2_with fail
   go_quiet (fail)
   go_wp2_with fail
   go_quiet (fail)
   go_wp2_with fail
   go_ret
   exact ⟨rfl, q206⟩
  ·rw [if_neg h4]
   go_enter Try.func72, Try.ntmps72
   go_wp2_with fail
   refine wp_loop_rounds 3 ?_
   rw [rounds_succ]
   go_wp2_with fail
   go_quiet (fail)
   go_wp2_with fail
   go_quiet (fail)
   go_wp2_with fail
   go_ret
   exact ⟨rfl, q206⟩

end Go.Proofs.Ytoenhagbgfkihaa.A
