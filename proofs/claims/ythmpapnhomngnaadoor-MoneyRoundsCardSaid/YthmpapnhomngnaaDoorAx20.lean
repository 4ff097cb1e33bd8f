-- By gen.py, a program of this session's, over the print's forms: not the print's own text.
import Derived.Test.YthmpapnhomngnaaDoorAx0
import Derived.Test.YthmpapnhomngnaaDoorAx5
import Derived.Test.YthmpapnhomngnaaDoorAx18
namespace Go.Proofs.YthmpapnhomngnaaDoor.A
open Go.RowKit Go.Proofs.YthmpapnhomngnaaDoor.B Go.Proofs.YthmpapnhomngnaaDoorW.PrintWords Go.Proofs.YthmpapnhomngnaaDoorW.PrintLast Go.Proofs.YthmpapnhomngnaaDoorW.PrintMore
attribute [local go_sem] max2_int min2_int max_two min_two max_three min_three max_four min_four   -- for this text's walks alone
set_option linter.unusedVariables false
set_option linter.unusedSimpArgs false

/-! ### accountinglaw07_MoneyRounds: function 5 -/
def accountinglaw07_MoneyRounds.j0 : Nat → Int → Int → Int → Int → Int → Bool → Option (Bool)
  | 0, _, _, _, _, _, _ => none
  | k + 1, x0, x1, x2, x3, x9, x27 => if x27 = true then ((accountinglaw07_lives.f k).bind fun t141 => (some t141)) else ((accountingref07_Power.f k (wrap64 (x1 - x2))).bind fun t142 => (if x3 = 1 then (if x0 ≥ 0 then (if (wrap64 ((wrap64 (x9 * t142)) - x0)) ≤ 0 then (if (wrap64 ((wrap64 (x9 * t142)) - x0)) > (wrap64 (-t142)) then ((accountinglaw07_lives.f k).bind fun t143 => (some t143)) else (if x0 ≤ 0 then (if (wrap64 ((wrap64 (x9 * t142)) - x0)) ≥ 0 then (if (wrap64 ((wrap64 (x9 * t142)) - x0)) < t142 then ((accountinglaw07_lives.f k).bind fun t144 => (some t144)) else (some false)) else (some false)) else (some false))) else (if x0 ≤ 0 then (if (wrap64 ((wrap64 (x9 * t142)) - x0)) ≥ 0 then (if (wrap64 ((wrap64 (x9 * t142)) - x0)) < t142 then ((accountinglaw07_lives.f k).bind fun t145 => (some t145)) else (some false)) else (some false)) else (some false))) else (if x0 ≤ 0 then (if (wrap64 ((wrap64 (x9 * t142)) - x0)) ≥ 0 then (if (wrap64 ((wrap64 (x9 * t142)) - x0)) < t142 then ((accountinglaw07_lives.f k).bind fun t146 => (some t146)) else (some false)) else (some false)) else (some false))) else (if x3 = 2 then (if x0 ≥ 0 then (if (wrap64 ((wrap64 (x9 * t142)) - x0)) ≥ 0 then (if (wrap64 ((wrap64 (x9 * t142)) - x0)) < t142 then ((accountinglaw07_lives.f k).bind fun t147 => (some t147)) else (if x0 ≤ 0 then (if (wrap64 ((wrap64 (x9 * t142)) - x0)) ≤ 0 then (if (wrap64 ((wrap64 (x9 * t142)) - x0)) > (wrap64 (-t142)) then ((accountinglaw07_lives.f k).bind fun t148 => (some t148)) else (some false)) else (some false)) else (some false))) else (if x0 ≤ 0 then (if (wrap64 ((wrap64 (x9 * t142)) - x0)) ≤ 0 then (if (wrap64 ((wrap64 (x9 * t142)) - x0)) > (wrap64 (-t142)) then ((accountinglaw07_lives.f k).bind fun t149 => (some t149)) else (some false)) else (some false)) else (some false))) else (if x0 ≤ 0 then (if (wrap64 ((wrap64 (x9 * t142)) - x0)) ≤ 0 then (if (wrap64 ((wrap64 (x9 * t142)) - x0)) > (wrap64 (-t142)) then ((accountinglaw07_lives.f k).bind fun t150 => (some t150)) else (some false)) else (some false)) else (some false))) else (if x3 = 5 then (if (wrap64 ((wrap64 (x9 * t142)) - x0)) ≤ 0 then (if (wrap64 ((wrap64 (x9 * t142)) - x0)) > (wrap64 (-t142)) then ((accountinglaw07_lives.f k).bind fun t151 => (some t151)) else (some false)) else (some false)) else (if (wrap64 (2 * (wrap64 ((wrap64 (x9 * t142)) - x0)))) ≤ t142 then (if (wrap64 (2 * (wrap64 ((wrap64 (x9 * t142)) - x0)))) ≥ (wrap64 (-t142)) then ((accountinglaw07_lives.f k).bind fun t152 => (some t152)) else (some false)) else (some false))))))
def accountinglaw07_MoneyRounds.f (k : Nat) (a0 : Int) (a1 : Int) (a2 : Int) (a3 : Int) : Option (Bool) := (money_Scale.f a0 a1 a2 a3).bind fun bt139 => (if bt139.2 = 0 then (accountinglaw07_MoneyRounds.j0 k a0 a1 a2 a3 bt139.1 (decide (a1 < a2))) else (accountinglaw07_MoneyRounds.j0 k a0 a1 a2 a3 bt139.1 true))
theorem accountinglaw07_MoneyRounds.mono_l : ∀ k, (∀ y0 y1 y2 y3 y4 y5, LeO (accountinglaw07_MoneyRounds.j0 k y0 y1 y2 y3 y4 y5) (accountinglaw07_MoneyRounds.j0 (k + 1) y0 y1 y2 y3 y4 y5))
  | 0 => fun _ _ _ _ _ _ r h => by simp [accountinglaw07_MoneyRounds.j0] at h
  | k + 1 => by
    have ih0 := accountinglaw07_MoneyRounds.mono_l k
    · intro y0 y1 y2 y3 y4 y5
      unfold accountinglaw07_MoneyRounds.j0
      repeat' first
      | (with_reducible exact ih0 _ _ _ _ _ _)
      | (with_reducible exact accountinglaw07_lives.mono _)
      | (with_reducible exact accountingref07_Power.mono _ _)
      | (with_reducible exact LeO.refl _)
      | (with_reducible exact LeO.none _)
      | (with_reducible refine LeO.ite ?_ ?_)
      | (with_reducible refine LeO.bind ?_ (fun _ => ?_))
      | exact ih0 _ _ _ _ _ _
      | exact accountinglaw07_lives.mono _
      | exact accountingref07_Power.mono _ _
      | exact LeO.none _
      | refine LeO.ite ?_ ?_
      | refine LeO.bind ?_ (fun _ => ?_)
theorem accountinglaw07_MoneyRounds.mono : ∀ a0 a1 a2 a3 k, LeO (accountinglaw07_MoneyRounds.f k a0 a1 a2 a3) (accountinglaw07_MoneyRounds.f (k + 1) a0 a1 a2 a3) := by
  intro a0 a1 a2 a3 k
  have ih0 := accountinglaw07_MoneyRounds.mono_l k
  unfold accountinglaw07_MoneyRounds.f
  repeat' first
      | (with_reducible exact ih0 _ _ _ _ _ _)
      | (with_reducible exact accountinglaw07_lives.mono _)
      | (with_reducible exact accountingref07_Power.mono _ _)
      | (with_reducible exact LeO.refl _)
      | (with_reducible exact LeO.none _)
      | (with_reducible refine LeO.ite ?_ ?_)
      | (with_reducible refine LeO.bind ?_ (fun _ => ?_))
      | exact ih0 _ _ _ _ _ _
      | exact accountinglaw07_lives.mono _
      | exact accountingref07_Power.mono _ _
      | exact LeO.none _
      | refine LeO.ite ?_ ?_
      | refine LeO.bind ?_ (fun _ => ?_)
set_option maxHeartbeats 8000000 in
set_option maxRecDepth 100000 in
theorem accountinglaw07_MoneyRounds.calls (k : Nat) (a0 : Int) (a1 : Int) (a2 : Int) (a3 : Int) (r : Bool) (w : World) (h : accountinglaw07_MoneyRounds.f k a0 a1 a2 a3 = some r) (hG : Gl w) :
    Calls Tryd.prog 5 #[.int .i64 a0, .int .i64 a1, .int .i64 a2, .int .i64 a3] w fun e w' => e = .returned (.bool r) ∧ Below w.heap.size w w' := by
  have HG := Aside0.mk hG
  clear hG
  have HB := Aside0.mk (Below.refl w.heap.size w)
  have H : ((money_Scale.f a0 a1 a2 a3).bind fun bt139 => (if bt139.2 = 0 then (accountinglaw07_MoneyRounds.j0 k a0 a1 a2 a3 bt139.1 (decide (a1 < a2))) else (accountinglaw07_MoneyRounds.j0 k a0 a1 a2 a3 bt139.1 true))) = some r := h
  clear h
  replace H := Option.bind_eq_some_iff.mp H
  obtain ⟨⟨t139, t140⟩, A50, H⟩ := H
  replace H : (if t140 = 0 then (accountinglaw07_MoneyRounds.j0 k a0 a1 a2 a3 t139 (decide (a1 < a2))) else (accountinglaw07_MoneyRounds.j0 k a0 a1 a2 a3 t139 true)) = some r := H
  have A5 := Aside0.mk A50
  clear A50
  have HC6 := Aside0.mk H
  clear H
  go_enter Tryd.func5, Tryd.ntmps5
  go_upto_region 2 with (first | ((with_reducible refine gate_callee (f := 10) rfl ?_); refine goesL_ (some 18) rfl rfl Tryd.func10 (by kernel_rfl) rfl #[.int .i64 a0, .int .i64 a1, .int .i64 a2, .int .i64 a3] rfl (by (try simp only [List.map_toArray, List.map_cons, List.map_nil]); first | done | rfl | (simp only [List.length_drop, List.length_take]; rfl)) ?_; (with_reducible refine (money_Scale.calls a0 a1 a2 a3 t139 t140 _ A5.out (gl_below HG.out (by repeat (first | (with_reducible first | exact HB.out | exact Below.refl _ _ | apply below_alloc | apply pw_below_drewN | apply below_drew1) | exact HB.out)))).mono ?_); rintro e w7 ⟨rfl, hb⟩; refine ⟨_, rfl, ?_⟩; have n0_ := Aside0.mk (below_step (by repeat (first | (with_reducible first | exact HB.out | apply below_alloc | apply pw_below_drewN | apply below_drew1) | exact HB.out)) hb); clear HB; have HB := n0_; clear n0_; (try clear hb); (try clear hb2); (try clear hk); (try clear hi)))
  (try simp only [Act.put, List.setIfInBounds_toArray, List.set_cons_zero, List.set_cons_succ])
  go_cut [27] (fun v27 wc => ∃ (kq : Nat) (x27_5 : Bool), v27 = .bool x27_5 ∧ Aside0 (accountinglaw07_MoneyRounds.j0 kq a0 a1 a2 a3 t139 x27_5 = some r) ∧ Aside0 (kq ≤ k) ∧ Aside0 (Below w.heap.size w wc))
  case first =>
    have H := HC6.out
    clear HC6
    by_cases c8 : t140 = 0
    · rw [if_pos c8] at H
      have c8b0 : (t140 == 0) = true := beq_iff_eq.mpr c8
      have c8b1 : (t140 != 0) = false := bne_eq_false_iff_eq.mpr c8
      clear c8
      (first | rw [c8b0] | (simp only [i64_w, i32_w]; rw [c8b0]) | skip)
      have H' := Aside0.mk H
      clear H
      go_wp2
      go_meet
      case rel => exact ⟨_, (decide (a1 < a2)), (by first | rfl | (simp; done) | (simp [*]; done) | (simp; generalize ByteArray.toList _ = l_; cases l_ <;> rfl)), H', ⟨by first | omega | exact Nat.le_refl _⟩, ⟨by repeat (first | (with_reducible first | exact HB.out | apply below_alloc | apply pw_below_drewN | apply below_drew1) | exact HB.out)⟩⟩
    · rw [if_neg c8] at H
      have c8b0 : (t140 == 0) = false := beq_eq_false_iff_ne.mpr c8
      have c8b1 : (t140 != 0) = true := bne_iff_ne.mpr c8
      (first | rw [c8b0] | (simp only [i64_w, i32_w]; rw [c8b0]) | skip)
      have H' := Aside0.mk H
      clear H
      go_wp2
      go_meet
      case rel => exact ⟨_, (true), (by first | rfl | (simp; done) | (simp [*]; done) | (simp; generalize ByteArray.toList _ = l_; cases l_ <;> rfl)), H', ⟨by first | omega | exact Nat.le_refl _⟩, ⟨by repeat (first | (with_reducible first | exact HB.out | apply below_alloc | apply pw_below_drewN | apply below_drew1) | exact HB.out)⟩⟩
  case rest =>
    clear HC6
    try clear c1
    try clear p2
    try clear c5
    try clear c8
    try clear c8b0
    try clear c8b1
    obtain ⟨kq, x27_5, rfl, HA, HJ5, HB⟩ := hcut
    cases kq with
    | zero => exact absurd HA.out (by simp [accountinglaw07_MoneyRounds.j0])
    | succ kj5 =>
      have H := HA.out
      clear HA
      simp only [accountinglaw07_MoneyRounds.j0] at H
      by_cases c9 : x27_5 = true
      · subst c9
        have H1 : ((accountinglaw07_lives.f kj5).bind fun t141 => (some t141)) = some r := by rw [if_pos rfl] at H; exact H
        clear H
        have H := H1
        clear H1
        replace H := Option.bind_eq_some_iff.mp H
        obtain ⟨t141, A100, H⟩ := H
        replace H : (some t141) = some r := H
        have A10 := Aside0.mk A100
        clear A100
        obtain rfl := Option.some.inj H
        go_wp2_with (first | ((with_reducible refine gate_callee (f := 12) rfl ?_); refine goesL_ (some 28) rfl rfl Tryd.func12 (by kernel_rfl) rfl #[] rfl (by (try simp only [List.map_toArray, List.map_cons, List.map_nil]); first | done | rfl | (simp only [List.length_drop, List.length_take]; rfl)) ?_; (with_reducible refine (accountinglaw07_lives.calls kj5  t141 _ A10.out (gl_below HG.out (by repeat (first | (with_reducible first | exact HB.out | exact Below.refl _ _ | apply below_alloc | apply pw_below_drewN | apply below_drew1) | exact HB.out)))).mono ?_); rintro e w11 ⟨rfl, hb⟩; refine ⟨_, rfl, ?_⟩; have n0_ := Aside0.mk (below_step (by repeat (first | (with_reducible first | exact HB.out | apply below_alloc | apply pw_below_drewN | apply below_drew1) | exact HB.out)) hb); clear HB; have HB := n0_; clear n0_; (try clear hb); (try clear hb2); (try clear hk); (try clear hi)))
        go_ret
        exact ⟨by first | rfl | (simp [errW_none, errW_some] <;> rfl) | (simp [*, errW_none, errW_some] <;> rfl), by repeat (first | (with_reducible first | exact HB.out | apply below_alloc | apply pw_below_drewN | apply below_drew1) | exact HB.out)⟩
      · replace c9 := Bool.eq_false_iff.mpr c9
        subst c9
        have H1 : ((accountingref07_Power.f kj5 (wrap64 (a1 - a2))).bind fun t142 => (if a3 = 1 then (if a0 ≥ 0 then (if (wrap64 ((wrap64 (t139 * t142)) - a0)) ≤ 0 then (if (wrap64 ((wrap64 (t139 * t142)) - a0)) > (wrap64 (-t142)) then ((accountinglaw07_lives.f kj5).bind fun t143 => (some t143)) else (if a0 ≤ 0 then (if (wrap64 ((wrap64 (t139 * t142)) - a0)) ≥ 0 then (if (wrap64 ((wrap64 (t139 * t142)) - a0)) < t142 then ((accountinglaw07_lives.f kj5).bind fun t144 => (some t144)) else (some false)) else (some false)) else (some false))) else (if a0 ≤ 0 then (if (wrap64 ((wrap64 (t139 * t142)) - a0)) ≥ 0 then (if (wrap64 ((wrap64 (t139 * t142)) - a0)) < t142 then ((accountinglaw07_lives.f kj5).bind fun t145 => (some t145)) else (some false)) else (some false)) else (some false))) else (if a0 ≤ 0 then (if (wrap64 ((wrap64 (t139 * t142)) - a0)) ≥ 0 then (if (wrap64 ((wrap64 (t139 * t142)) - a0)) < t142 then ((accountinglaw07_lives.f kj5).bind fun t146 => (some t146)) else (some false)) else (some false)) else (some false))) else (if a3 = 2 then (if a0 ≥ 0 then (if (wrap64 ((wrap64 (t139 * t142)) - a0)) ≥ 0 then (if (wrap64 ((wrap64 (t139 * t142)) - a0)) < t142 then ((accountinglaw07_lives.f kj5).bind fun t147 => (some t147)) else (if a0 ≤ 0 then (if (wrap64 ((wrap64 (t139 * t142)) - a0)) ≤ 0 then (if (wrap64 ((wrap64 (t139 * t142)) - a0)) > (wrap64 (-t142)) then ((accountinglaw07_lives.f kj5).bind fun t148 => (some t148)) else (some false)) else (some false)) else (some false))) else (if a0 ≤ 0 then (if (wrap64 ((wrap64 (t139 * t142)) - a0)) ≤ 0 then (if (wrap64 ((wrap64 (t139 * t142)) - a0)) > (wrap64 (-t142)) then ((accountinglaw07_lives.f kj5).bind fun t149 => (some t149)) else (some false)) else (some false)) else (some false))) else (if a0 ≤ 0 then (if (wrap64 ((wrap64 (t139 * t142)) - a0)) ≤ 0 then (if (wrap64 ((wrap64 (t139 * t142)) - a0)) > (wrap64 (-t142)) then ((accountinglaw07_lives.f kj5).bind fun t150 => (some t150)) else (some false)) else (some false)) else (some false))) else (if a3 = 5 then (if (wrap64 ((wrap64 (t139 * t142)) - a0)) ≤ 0 then (if (wrap64 ((wrap64 (t139 * t142)) - a0)) > (wrap64 (-t142)) then ((accountinglaw07_lives.f kj5).bind fun t151 => (some t151)) else (some false)) else (some false)) else (if (wrap64 (2 * (wrap64 ((wrap64 (t139 * t142)) - a0)))) ≤ t142 then (if (wrap64 (2 * (wrap64 ((wrap64 (t139 * t142)) - a0)))) ≥ (wrap64 (-t142)) then ((accountinglaw07_lives.f kj5).bind fun t152 => (some t152)) else (some false)) else (some false)))))) = some r := by rw [if_neg (show ¬ (false = true) by decide)] at H; exact H
        clear H
        have H := H1
        clear H1
        replace H := Option.bind_eq_some_iff.mp H
        obtain ⟨t142, A120, H⟩ := H
        replace H : (if a3 = 1 then (if a0 ≥ 0 then (if (wrap64 ((wrap64 (t139 * t142)) - a0)) ≤ 0 then (if (wrap64 ((wrap64 (t139 * t142)) - a0)) > (wrap64 (-t142)) then ((accountinglaw07_lives.f kj5).bind fun t143 => (some t143)) else (if a0 ≤ 0 then (if (wrap64 ((wrap64 (t139 * t142)) - a0)) ≥ 0 then (if (wrap64 ((wrap64 (t139 * t142)) - a0)) < t142 then ((accountinglaw07_lives.f kj5).bind fun t144 => (some t144)) else (some false)) else (some false)) else (some false))) else (if a0 ≤ 0 then (if (wrap64 ((wrap64 (t139 * t142)) - a0)) ≥ 0 then (if (wrap64 ((wrap64 (t139 * t142)) - a0)) < t142 then ((accountinglaw07_lives.f kj5).bind fun t145 => (some t145)) else (some false)) else (some false)) else (some false))) else (if a0 ≤ 0 then (if (wrap64 ((wrap64 (t139 * t142)) - a0)) ≥ 0 then (if (wrap64 ((wrap64 (t139 * t142)) - a0)) < t142 then ((accountinglaw07_lives.f kj5).bind fun t146 => (some t146)) else (some false)) else (some false)) else (some false))) else (if a3 = 2 then (if a0 ≥ 0 then (if (wrap64 ((wrap64 (t139 * t142)) - a0)) ≥ 0 then (if (wrap64 ((wrap64 (t139 * t142)) - a0)) < t142 then ((accountinglaw07_lives.f kj5).bind fun t147 => (some t147)) else (if a0 ≤ 0 then (if (wrap64 ((wrap64 (t139 * t142)) - a0)) ≤ 0 then (if (wrap64 ((wrap64 (t139 * t142)) - a0)) > (wrap64 (-t142)) then ((accountinglaw07_lives.f kj5).bind fun t148 => (some t148)) else (some false)) else (some false)) else (some false))) else (if a0 ≤ 0 then (if (wrap64 ((wrap64 (t139 * t142)) - a0)) ≤ 0 then (if (wrap64 ((wrap64 (t139 * t142)) - a0)) > (wrap64 (-t142)) then ((accountinglaw07_lives.f kj5).bind fun t149 => (some t149)) else (some false)) else (some false)) else (some false))) else (if a0 ≤ 0 then (if (wrap64 ((wrap64 (t139 * t142)) - a0)) ≤ 0 then (if (wrap64 ((wrap64 (t139 * t142)) - a0)) > (wrap64 (-t142)) then ((accountinglaw07_lives.f kj5).bind fun t150 => (some t150)) else (some false)) else (some false)) else (some false))) else (if a3 = 5 then (if (wrap64 ((wrap64 (t139 * t142)) - a0)) ≤ 0 then (if (wrap64 ((wrap64 (t139 * t142)) - a0)) > (wrap64 (-t142)) then ((accountinglaw07_lives.f kj5).bind fun t151 => (some t151)) else (some false)) else (some false)) else (if (wrap64 (2 * (wrap64 ((wrap64 (t139 * t142)) - a0)))) ≤ t142 then (if (wrap64 (2 * (wrap64 ((wrap64 (t139 * t142)) - a0)))) ≥ (wrap64 (-t142)) then ((accountinglaw07_lives.f kj5).bind fun t152 => (some t152)) else (some false)) else (some false))))) = some r := H
        have A12 := Aside0.mk A120
        clear A120
        by_cases c13 : a3 = 1
        · rw [if_pos c13] at H
          have c13b0 : (a3 == 1) = true := beq_iff_eq.mpr c13
          have c13b1 : (a3 != 1) = false := bne_eq_false_iff_eq.mpr c13
          clear c13
          by_cases c14 : a0 ≥ 0
          · rw [if_pos c14] at H
            have c14b0 : decide (0 ≤ a0) = true := decide_eq_true c14
            clear c14
            by_cases c15 : (wrap64 ((wrap64 (t139 * t142)) - a0)) ≤ 0
            · rw [if_pos c15] at H
              have c15b0 : decide ((wrap64 ((wrap64 (t139 * t142)) - a0)) ≤ 0) = true := decide_eq_true c15
              clear c15
              by_cases c16 : (wrap64 ((wrap64 (t139 * t142)) - a0)) > (wrap64 (-t142))
              · rw [if_pos c16] at H
                have c16b0 : decide ((wrap64 (-t142)) < (wrap64 ((wrap64 (t139 * t142)) - a0))) = true := decide_eq_true c16
                clear c16
                replace H := Option.bind_eq_some_iff.mp H
                obtain ⟨t143, A170, H⟩ := H
                replace H : (some t143) = some r := H
                have A17 := Aside0.mk A170
                clear A170
                obtain rfl := Option.some.inj H
                go_wp2_with (first | ((with_reducible refine gate_callee (f := 13) rfl ?_); refine goesL_ (some 32) rfl rfl Tryd.func13 (by kernel_rfl) rfl #[.int .i64 (wrap64 (a1 - a2))] rfl (by (try simp only [List.map_toArray, List.map_cons, List.map_nil]); first | done | rfl | (simp only [List.length_drop, List.length_take]; rfl)) ?_; (with_reducible refine (accountingref07_Power.calls kj5 (wrap64 (a1 - a2)) t142 _ A12.out).mono ?_); rintro e w' ⟨rfl, ⟨nd, rfl⟩⟩; refine ⟨_, rfl, ?_⟩) | (go_at_call 12; (with_reducible refine (accountinglaw07_lives.calls kj5  t143 _ A17.out (gl_below HG.out (by repeat (first | (with_reducible first | exact HB.out | exact Below.refl _ _ | apply below_alloc | apply pw_below_drewN | apply below_drew1) | exact HB.out)))).mono ?_); rintro e w18 ⟨rfl, hb⟩; have n0_ := Aside0.mk (below_step (by repeat (first | (with_reducible first | exact HB.out | apply below_alloc | apply pw_below_drewN | apply below_drew1) | exact HB.out)) hb); clear HB; have HB := n0_; clear n0_; (try clear hb); (try clear hb2); (try clear hk); (try clear hi)))
                go_ret
                exact ⟨by first | rfl | (simp [errW_none, errW_some] <;> rfl) | (simp [*, errW_none, errW_some] <;> rfl), by repeat (first | (with_reducible first | exact HB.out | apply below_alloc | apply pw_below_drewN | apply below_drew1) | exact HB.out)⟩
              · rw [if_neg c16] at H
                have c16b0 : decide ((wrap64 (-t142)) < (wrap64 ((wrap64 (t139 * t142)) - a0))) = false := decide_eq_false c16
                clear c16
                by_cases c19 : a0 ≤ 0
                · rw [if_pos c19] at H
                  have c19b0 : decide (a0 ≤ 0) = true := decide_eq_true c19
                  clear c19
                  by_cases c20 : (wrap64 ((wrap64 (t139 * t142)) - a0)) ≥ 0
                  · rw [if_pos c20] at H
                    have c20b0 : decide (0 ≤ (wrap64 ((wrap64 (t139 * t142)) - a0))) = true := decide_eq_true c20
                    clear c20
                    by_cases c21 : (wrap64 ((wrap64 (t139 * t142)) - a0)) < t142
                    · rw [if_pos c21] at H
                      have c21b0 : decide ((wrap64 ((wrap64 (t139 * t142)) - a0)) < t142) = true := decide_eq_true c21
                      clear c21
                      replace H := Option.bind_eq_some_iff.mp H
                      obtain ⟨t144, A220, H⟩ := H
                      replace H : (some t144) = some r := H
                      have A22 := Aside0.mk A220
                      clear A220
                      obtain rfl := Option.some.inj H
                      go_wp2_with (first | ((with_reducible refine gate_callee (f := 13) rfl ?_); refine goesL_ (some 32) rfl rfl Tryd.func13 (by kernel_rfl) rfl #[.int .i64 (wrap64 (a1 - a2))] rfl (by (try simp only [List.map_toArray, List.map_cons, List.map_nil]); first | done | rfl | (simp only [List.length_drop, List.length_take]; rfl)) ?_; (with_reducible refine (accountingref07_Power.calls kj5 (wrap64 (a1 - a2)) t142 _ A12.out).mono ?_); rintro e w' ⟨rfl, ⟨nd, rfl⟩⟩; refine ⟨_, rfl, ?_⟩) | (go_at_call 12; (with_reducible refine (accountinglaw07_lives.calls kj5  t144 _ A22.out (gl_below HG.out (by repeat (first | (with_reducible first | exact HB.out | exact Below.refl _ _ | apply below_alloc | apply pw_below_drewN | apply below_drew1) | exact HB.out)))).mono ?_); rintro e w23 ⟨rfl, hb⟩; have n0_ := Aside0.mk (below_step (by repeat (first | (with_reducible first | exact HB.out | apply below_alloc | apply pw_below_drewN | apply below_drew1) | exact HB.out)) hb); clear HB; have HB := n0_; clear n0_; (try clear hb); (try clear hb2); (try clear hk); (try clear hi)))
                      go_ret
                      exact ⟨by first | rfl | (simp [errW_none, errW_some] <;> rfl) | (simp [*, errW_none, errW_some] <;> rfl), by repeat (first | (with_reducible first | exact HB.out | apply below_alloc | apply pw_below_drewN | apply below_drew1) | exact HB.out)⟩
                    · rw [if_neg c21] at H
                      have c21b0 : decide ((wrap64 ((wrap64 (t139 * t142)) - a0)) < t142) = false := decide_eq_false c21
                      clear c21
                      obtain rfl := Option.some.inj H
                      go_wp2_with (first | ((with_reducible refine gate_callee (f := 13) rfl ?_); refine goesL_ (some 32) rfl rfl Tryd.func13 (by kernel_rfl) rfl #[.int .i64 (wrap64 (a1 - a2))] rfl (by (try simp only [List.map_toArray, List.map_cons, List.map_nil]); first | done | rfl | (simp only [List.length_drop, List.length_take]; rfl)) ?_; (with_reducible refine (accountingref07_Power.calls kj5 (wrap64 (a1 - a2)) t142 _ A12.out).mono ?_); rintro e w' ⟨rfl, ⟨nd, rfl⟩⟩; refine ⟨_, rfl, ?_⟩))
                      go_ret
                      exact ⟨by first | rfl | (simp [errW_none, errW_some] <;> rfl) | (simp [*, errW_none, errW_some] <;> rfl), by repeat (first | (with_reducible first | exact HB.out | apply below_alloc | apply pw_below_drewN | apply below_drew1) | exact HB.out)⟩
                  · rw [if_neg c20] at H
                    have c20b0 : decide (0 ≤ (wrap64 ((wrap64 (t139 * t142)) - a0))) = false := decide_eq_false c20
                    clear c20
                    obtain rfl := Option.some.inj H
                    go_wp2_with (first | ((with_reducible refine gate_callee (f := 13) rfl ?_); refine goesL_ (some 32) rfl rfl Tryd.func13 (by kernel_rfl) rfl #[.int .i64 (wrap64 (a1 - a2))] rfl (by (try simp only [List.map_toArray, List.map_cons, List.map_nil]); first | done | rfl | (simp only [List.length_drop, List.length_take]; rfl)) ?_; (with_reducible refine (accountingref07_Power.calls kj5 (wrap64 (a1 - a2)) t142 _ A12.out).mono ?_); rintro e w' ⟨rfl, ⟨nd, rfl⟩⟩; refine ⟨_, rfl, ?_⟩))
                    go_ret
                    exact ⟨by first | rfl | (simp [errW_none, errW_some] <;> rfl) | (simp [*, errW_none, errW_some] <;> rfl), by repeat (first | (with_reducible first | exact HB.out | apply below_alloc | apply pw_below_drewN | apply below_drew1) | exact HB.out)⟩
                · rw [if_neg c19] at H
                  have c19b0 : decide (a0 ≤ 0) = false := decide_eq_false c19
                  clear c19
                  obtain rfl := Option.some.inj H
                  go_wp2_with (first | ((with_reducible refine gate_callee (f := 13) rfl ?_); refine goesL_ (some 32) rfl rfl Tryd.func13 (by kernel_rfl) rfl #[.int .i64 (wrap64 (a1 - a2))] rfl (by (try simp only [List.map_toArray, List.map_cons, List.map_nil]); first | done | rfl | (simp only [List.length_drop, List.length_take]; rfl)) ?_; (with_reducible refine (accountingref07_Power.calls kj5 (wrap64 (a1 - a2)) t142 _ A12.out).mono ?_); rintro e w' ⟨rfl, ⟨nd, rfl⟩⟩; refine ⟨_, rfl, ?_⟩))
                  go_ret
                  exact ⟨by first | rfl | (simp [errW_none, errW_some] <;> rfl) | (simp [*, errW_none, errW_some] <;> rfl), by repeat (first | (with_reducible first | exact HB.out | apply below_alloc | apply pw_below_drewN | apply below_drew1) | exact HB.out)⟩
            · rw [if_neg c15] at H
              have c15b0 : decide ((wrap64 ((wrap64 (t139 * t142)) - a0)) ≤ 0) = false := decide_eq_false c15
              clear c15
              by_cases c24 : a0 ≤ 0
              · rw [if_pos c24] at H
                have c24b0 : decide (a0 ≤ 0) = true := decide_eq_true c24
                clear c24
                by_cases c25 : (wrap64 ((wrap64 (t139 * t142)) - a0)) ≥ 0
                · rw [if_pos c25] at H
                  have c25b0 : decide (0 ≤ (wrap64 ((wrap64 (t139 * t142)) - a0))) = true := decide_eq_true c25
                  clear c25
                  by_cases c26 : (wrap64 ((wrap64 (t139 * t142)) - a0)) < t142
                  · rw [if_pos c26] at H
                    have c26b0 : decide ((wrap64 ((wrap64 (t139 * t142)) - a0)) < t142) = true := decide_eq_true c26
                    clear c26
                    replace H := Option.bind_eq_some_iff.mp H
                    obtain ⟨t145, A270, H⟩ := H
                    replace H : (some t145) = some r := H
                    have A27 := Aside0.mk A270
                    clear A270
                    obtain rfl := Option.some.inj H
                    go_wp2_with (first | ((with_reducible refine gate_callee (f := 13) rfl ?_); refine goesL_ (some 32) rfl rfl Tryd.func13 (by kernel_rfl) rfl #[.int .i64 (wrap64 (a1 - a2))] rfl (by (try simp only [List.map_toArray, List.map_cons, List.map_nil]); first | done | rfl | (simp only [List.length_drop, List.length_take]; rfl)) ?_; (with_reducible refine (accountingref07_Power.calls kj5 (wrap64 (a1 - a2)) t142 _ A12.out).mono ?_); rintro e w' ⟨rfl, ⟨nd, rfl⟩⟩; refine ⟨_, rfl, ?_⟩) | (go_at_call 12; (with_reducible refine (accountinglaw07_lives.calls kj5  t145 _ A27.out (gl_below HG.out (by repeat (first | (with_reducible first | exact HB.out | exact Below.refl _ _ | apply below_alloc | apply pw_below_drewN | apply below_drew1) | exact HB.out)))).mono ?_); rintro e w28 ⟨rfl, hb⟩; have n0_ := Aside0.mk (below_step (by repeat (first | (with_reducible first | exact HB.out | apply below_alloc | apply pw_below_drewN | apply below_drew1) | exact HB.out)) hb); clear HB; have HB := n0_; clear n0_; (try clear hb); (try clear hb2); (try clear hk); (try clear hi)))
                    go_ret
                    exact ⟨by first | rfl | (simp [errW_none, errW_some] <;> rfl) | (simp [*, errW_none, errW_some] <;> rfl), by repeat (first | (with_reducible first | exact HB.out | apply below_alloc | apply pw_below_drewN | apply below_drew1) | exact HB.out)⟩
                  · rw [if_neg c26] at H
                    have c26b0 : decide ((wrap64 ((wrap64 (t139 * t142)) - a0)) < t142) = false := decide_eq_false c26
                    clear c26
                    obtain rfl := Option.some.inj H
                    go_wp2_with (first | ((with_reducible refine gate_callee (f := 13) rfl ?_); refine goesL_ (some 32) rfl rfl Tryd.func13 (by kernel_rfl) rfl #[.int .i64 (wrap64 (a1 - a2))] rfl (by (try simp only [List.map_toArray, List.map_cons, List.map_nil]); first | done | rfl | (simp only [List.length_drop, List.length_take]; rfl)) ?_; (with_reducible refine (accountingref07_Power.calls kj5 (wrap64 (a1 - a2)) t142 _ A12.out).mono ?_); rintro e w' ⟨rfl, ⟨nd, rfl⟩⟩; refine ⟨_, rfl, ?_⟩))
                    go_ret
                    exact ⟨by first | rfl | (simp [errW_none, errW_some] <;> rfl) | (simp [*, errW_none, errW_some] <;> rfl), by repeat (first | (with_reducible first | exact HB.out | apply below_alloc | apply pw_below_drewN | apply below_drew1) | exact HB.out)⟩
                · rw [if_neg c25] at H
                  have c25b0 : decide (0 ≤ (wrap64 ((wrap64 (t139 * t142)) - a0))) = false := decide_eq_false c25
                  clear c25
                  obtain rfl := Option.some.inj H
                  go_wp2_with (first | ((with_reducible refine gate_callee (f := 13) rfl ?_); refine goesL_ (some 32) rfl rfl Tryd.func13 (by kernel_rfl) rfl #[.int .i64 (wrap64 (a1 - a2))] rfl (by (try simp only [List.map_toArray, List.map_cons, List.map_nil]); first | done | rfl | (simp only [List.length_drop, List.length_take]; rfl)) ?_; (with_reducible refine (accountingref07_Power.calls kj5 (wrap64 (a1 - a2)) t142 _ A12.out).mono ?_); rintro e w' ⟨rfl, ⟨nd, rfl⟩⟩; refine ⟨_, rfl, ?_⟩))
                  go_ret
                  exact ⟨by first | rfl | (simp [errW_none, errW_some] <;> rfl) | (simp [*, errW_none, errW_some] <;> rfl), by repeat (first | (with_reducible first | exact HB.out | apply below_alloc | apply pw_below_drewN | apply below_drew1) | exact HB.out)⟩
              · rw [if_neg c24] at H
                have c24b0 : decide (a0 ≤ 0) = false := decide_eq_false c24
                clear c24
                obtain rfl := Option.some.inj H
                go_wp2_with (first | ((with_reducible refine gate_callee (f := 13) rfl ?_); refine goesL_ (some 32) rfl rfl Tryd.func13 (by kernel_rfl) rfl #[.int .i64 (wrap64 (a1 - a2))] rfl (by (try simp only [List.map_toArray, List.map_cons, List.map_nil]); first | done | rfl | (simp only [List.length_drop, List.length_take]; rfl)) ?_; (with_reducible refine (accountingref07_Power.calls kj5 (wrap64 (a1 - a2)) t142 _ A12.out).mono ?_); rintro e w' ⟨rfl, ⟨nd, rfl⟩⟩; refine ⟨_, rfl, ?_⟩))
                go_ret
                exact ⟨by first | rfl | (simp [errW_none, errW_some] <;> rfl) | (simp [*, errW_none, errW_some] <;> rfl), by repeat (first | (with_reducible first | exact HB.out | apply below_alloc | apply pw_below_drewN | apply below_drew1) | exact HB.out)⟩
          · rw [if_neg c14] at H
            have c14b0 : decide (0 ≤ a0) = false := decide_eq_false c14
            clear c14
            by_cases c29 : a0 ≤ 0
            · rw [if_pos c29] at H
              have c29b0 : decide (a0 ≤ 0) = true := decide_eq_true c29
              clear c29
              by_cases c30 : (wrap64 ((wrap64 (t139 * t142)) - a0)) ≥ 0
              · rw [if_pos c30] at H
                have c30b0 : decide (0 ≤ (wrap64 ((wrap64 (t139 * t142)) - a0))) = true := decide_eq_true c30
                clear c30
                by_cases c31 : (wrap64 ((wrap64 (t139 * t142)) - a0)) < t142
                · rw [if_pos c31] at H
                  have c31b0 : decide ((wrap64 ((wrap64 (t139 * t142)) - a0)) < t142) = true := decide_eq_true c31
                  clear c31
                  replace H := Option.bind_eq_some_iff.mp H
                  obtain ⟨t146, A320, H⟩ := H
                  replace H : (some t146) = some r := H
                  have A32 := Aside0.mk A320
                  clear A320
                  obtain rfl := Option.some.inj H
                  go_wp2_with (first | ((with_reducible refine gate_callee (f := 13) rfl ?_); refine goesL_ (some 32) rfl rfl Tryd.func13 (by kernel_rfl) rfl #[.int .i64 (wrap64 (a1 - a2))] rfl (by (try simp only [List.map_toArray, List.map_cons, List.map_nil]); first | done | rfl | (simp only [List.length_drop, List.length_take]; rfl)) ?_; (with_reducible refine (accountingref07_Power.calls kj5 (wrap64 (a1 - a2)) t142 _ A12.out).mono ?_); rintro e w' ⟨rfl, ⟨nd, rfl⟩⟩; refine ⟨_, rfl, ?_⟩) | (go_at_call 12; (with_reducible refine (accountinglaw07_lives.calls kj5  t146 _ A32.out (gl_below HG.out (by repeat (first | (with_reducible first | exact HB.out | exact Below.refl _ _ | apply below_alloc | apply pw_below_drewN | apply below_drew1) | exact HB.out)))).mono ?_); rintro e w33 ⟨rfl, hb⟩; have n0_ := Aside0.mk (below_step (by repeat (first | (with_reducible first | exact HB.out | apply below_alloc | apply pw_below_drewN | apply below_drew1) | exact HB.out)) hb); clear HB; have HB := n0_; clear n0_; (try clear hb); (try clear hb2); (try clear hk); (try clear hi)))
                  go_ret
                  exact ⟨by first | rfl | (simp [errW_none, errW_some] <;> rfl) | (simp [*, errW_none, errW_some] <;> rfl), by repeat (first | (with_reducible first | exact HB.out | apply below_alloc | apply pw_below_drewN | apply below_drew1) | exact HB.out)⟩
                · rw [if_neg c31] at H
                  have c31b0 : decide ((wrap64 ((wrap64 (t139 * t142)) - a0)) < t142) = false := decide_eq_false c31
                  clear c31
                  obtain rfl := Option.some.inj H
                  go_wp2_with (first | ((with_reducible refine gate_callee (f := 13) rfl ?_); refine goesL_ (some 32) rfl rfl Tryd.func13 (by kernel_rfl) rfl #[.int .i64 (wrap64 (a1 - a2))] rfl (by (try simp only [List.map_toArray, List.map_cons, List.map_nil]); first | done | rfl | (simp only [List.length_drop, List.length_take]; rfl)) ?_; (with_reducible refine (accountingref07_Power.calls kj5 (wrap64 (a1 - a2)) t142 _ A12.out).mono ?_); rintro e w' ⟨rfl, ⟨nd, rfl⟩⟩; refine ⟨_, rfl, ?_⟩))
                  go_ret
                  exact ⟨by first | rfl | (simp [errW_none, errW_some] <;> rfl) | (simp [*, errW_none, errW_some] <;> rfl), by repeat (first | (with_reducible first | exact HB.out | apply below_alloc | apply pw_below_drewN | apply below_drew1) | exact HB.out)⟩
              · rw [if_neg c30] at H
                have c30b0 : decide (0 ≤ (wrap64 ((wrap64 (t139 * t142)) - a0))) = false := decide_eq_false c30
                clear c30
                obtain rfl := Option.some.inj H
                go_wp2_with (first | ((with_reducible refine gate_callee (f := 13) rfl ?_); refine goesL_ (some 32) rfl rfl Tryd.func13 (by kernel_rfl) rfl #[.int .i64 (wrap64 (a1 - a2))] rfl (by (try simp only [List.map_toArray, List.map_cons, List.map_nil]); first | done | rfl | (simp only [List.length_drop, List.length_take]; rfl)) ?_; (with_reducible refine (accountingref07_Power.calls kj5 (wrap64 (a1 - a2)) t142 _ A12.out).mono ?_); rintro e w' ⟨rfl, ⟨nd, rfl⟩⟩; refine ⟨_, rfl, ?_⟩))
                go_ret
                exact ⟨by first | rfl | (simp [errW_none, errW_some] <;> rfl) | (simp [*, errW_none, errW_some] <;> rfl), by repeat (first | (with_reducible first | exact HB.out | apply below_alloc | apply pw_below_drewN | apply below_drew1) | exact HB.out)⟩
            · rw [if_neg c29] at H
              have c29b0 : decide (a0 ≤ 0) = false := decide_eq_false c29
              clear c29
              obtain rfl := Option.some.inj H
              go_wp2_with (first | ((with_reducible refine gate_callee (f := 13) rfl ?_); refine goesL_ (some 32) rfl rfl Tryd.func13 (by kernel_rfl) rfl #[.int .i64 (wrap64 (a1 - a2))] rfl (by (try simp only [List.map_toArray, List.map_cons, List.map_nil]); first | done | rfl | (simp only [List.length_drop, List.length_take]; rfl)) ?_; (with_reducible refine (accountingref07_Power.calls kj5 (wrap64 (a1 - a2)) t142 _ A12.out).mono ?_); rintro e w' ⟨rfl, ⟨nd, rfl⟩⟩; refine ⟨_, rfl, ?_⟩))
              go_ret
              exact ⟨by first | rfl | (simp [errW_none, errW_some] <;> rfl) | (simp [*, errW_none, errW_some] <;> rfl), by repeat (first | (with_reducible first | exact HB.out | apply below_alloc | apply pw_below_drewN | apply below_drew1) | exact HB.out)⟩
        · rw [if_neg c13] at H
          have c13b0 : (a3 == 1) = false := beq_eq_false_iff_ne.mpr c13
          have c13b1 : (a3 != 1) = true := bne_iff_ne.mpr c13
          by_cases c34 : a3 = 2
          · rw [if_pos c34] at H
            have c34b0 : (a3 == 2) = true := beq_iff_eq.mpr c34
            have c34b1 : (a3 != 2) = false := bne_eq_false_iff_eq.mpr c34
            clear c34
            by_cases c35 : a0 ≥ 0
            · rw [if_pos c35] at H
              have c35b0 : decide (0 ≤ a0) = true := decide_eq_true c35
              clear c35
              by_cases c36 : (wrap64 ((wrap64 (t139 * t142)) - a0)) ≥ 0
              · rw [if_pos c36] at H
                have c36b0 : decide (0 ≤ (wrap64 ((wrap64 (t139 * t142)) - a0))) = true := decide_eq_true c36
                clear c36
                by_cases c37 : (wrap64 ((wrap64 (t139 * t142)) - a0)) < t142
                · rw [if_pos c37] at H
                  have c37b0 : decide ((wrap64 ((wrap64 (t139 * t142)) - a0)) < t142) = true := decide_eq_true c37
                  clear c37
                  replace H := Option.bind_eq_some_iff.mp H
                  obtain ⟨t147, A380, H⟩ := H
                  replace H : (some t147) = some r := H
                  have A38 := Aside0.mk A380
                  clear A380
                  obtain rfl := Option.some.inj H
                  go_wp2_with (first | ((with_reducible refine gate_callee (f := 13) rfl ?_); refine goesL_ (some 32) rfl rfl Tryd.func13 (by kernel_rfl) rfl #[.int .i64 (wrap64 (a1 - a2))] rfl (by (try simp only [List.map_toArray, List.map_cons, List.map_nil]); first | done | rfl | (simp only [List.length_drop, List.length_take]; rfl)) ?_; (with_reducible refine (accountingref07_Power.calls kj5 (wrap64 (a1 - a2)) t142 _ A12.out).mono ?_); rintro e w' ⟨rfl, ⟨nd, rfl⟩⟩; refine ⟨_, rfl, ?_⟩) | (go_at_call 12; (with_reducible refine (accountinglaw07_lives.calls kj5  t147 _ A38.out (gl_below HG.out (by repeat (first | (with_reducible first | exact HB.out | exact Below.refl _ _ | apply below_alloc | apply pw_below_drewN | apply below_drew1) | exact HB.out)))).mono ?_); rintro e w39 ⟨rfl, hb⟩; have n0_ := Aside0.mk (below_step (by repeat (first | (with_reducible first | exact HB.out | apply below_alloc | apply pw_below_drewN | apply below_drew1) | exact HB.out)) hb); clear HB; have HB := n0_; clear n0_; (try clear hb); (try clear hb2); (try clear hk); (try clear hi)))
                  go_ret
                  exact ⟨by first | rfl | (simp [errW_none, errW_some] <;> rfl) | (simp [*, errW_none, errW_some] <;> rfl), by repeat (first | (with_reducible first | exact HB.out | apply below_alloc | apply pw_below_drewN | apply below_drew1) | exact HB.out)⟩
                · rw [if_neg c37] at H
                  have c37b0 : decide ((wrap64 ((wrap64 (t139 * t142)) - a0)) < t142) = false := decide_eq_false c37
                  clear c37
                  by_cases c40 : a0 ≤ 0
                  · rw [if_pos c40] at H
                    have c40b0 : decide (a0 ≤ 0) = true := decide_eq_true c40
                    clear c40
                    by_cases c41 : (wrap64 ((wrap64 (t139 * t142)) - a0)) ≤ 0
                    · rw [if_pos c41] at H
                      have c41b0 : decide ((wrap64 ((wrap64 (t139 * t142)) - a0)) ≤ 0) = true := decide_eq_true c41
                      clear c41
                      by_cases c42 : (wrap64 ((wrap64 (t139 * t142)) - a0)) > (wrap64 (-t142))
                      · rw [if_pos c42] at H
                        have c42b0 : decide ((wrap64 (-t142)) < (wrap64 ((wrap64 (t139 * t142)) - a0))) = true := decide_eq_true c42
                        clear c42
                        replace H := Option.bind_eq_some_iff.mp H
                        obtain ⟨t148, A430, H⟩ := H
                        replace H : (some t148) = some r := H
                        have A43 := Aside0.mk A430
                        clear A430
                        obtain rfl := Option.some.inj H
                        go_wp2_with (first | ((with_reducible refine gate_callee (f := 13) rfl ?_); refine goesL_ (some 32) rfl rfl Tryd.func13 (by kernel_rfl) rfl #[.int .i64 (wrap64 (a1 - a2))] rfl (by (try simp only [List.map_toArray, List.map_cons, List.map_nil]); first | done | rfl | (simp only [List.length_drop, List.length_take]; rfl)) ?_; (with_reducible refine (accountingref07_Power.calls kj5 (wrap64 (a1 - a2)) t142 _ A12.out).mono ?_); rintro e w' ⟨rfl, ⟨nd, rfl⟩⟩; refine ⟨_, rfl, ?_⟩) | (go_at_call 12; (with_reducible refine (accountinglaw07_lives.calls kj5  t148 _ A43.out (gl_below HG.out (by repeat (first | (with_reducible first | exact HB.out | exact Below.refl _ _ | apply below_alloc | apply pw_below_drewN | apply below_drew1) | exact HB.out)))).mono ?_); rintro e w44 ⟨rfl, hb⟩; have n0_ := Aside0.mk (below_step (by repeat (first | (with_reducible first | exact HB.out | apply below_alloc | apply pw_below_drewN | apply below_drew1) | exact HB.out)) hb); clear HB; have HB := n0_; clear n0_; (try clear hb); (try clear hb2); (try clear hk); (try clear hi)))
                        go_ret
                        exact ⟨by first | rfl | (simp [errW_none, errW_some] <;> rfl) | (simp [*, errW_none, errW_some] <;> rfl), by repeat (first | (with_reducible first | exact HB.out | apply below_alloc | apply pw_below_drewN | apply below_drew1) | exact HB.out)⟩
                      · rw [if_neg c42] at H
                        have c42b0 : decide ((wrap64 (-t142)) < (wrap64 ((wrap64 (t139 * t142)) - a0))) = false := decide_eq_false c42
                        clear c42
                        obtain rfl := Option.some.inj H
                        go_wp2_with (first | ((with_reducible refine gate_callee (f := 13) rfl ?_); refine goesL_ (some 32) rfl rfl Tryd.func13 (by kernel_rfl) rfl #[.int .i64 (wrap64 (a1 - a2))] rfl (by (try simp only [List.map_toArray, List.map_cons, List.map_nil]); first | done | rfl | (simp only [List.length_drop, List.length_take]; rfl)) ?_; (with_reducible refine (accountingref07_Power.calls kj5 (wrap64 (a1 - a2)) t142 _ A12.out).mono ?_); rintro e w' ⟨rfl, ⟨nd, rfl⟩⟩; refine ⟨_, rfl, ?_⟩))
                        go_ret
                        exact ⟨by first | rfl | (simp [errW_none, errW_some] <;> rfl) | (simp [*, errW_none, errW_some] <;> rfl), by repeat (first | (with_reducible first | exact HB.out | apply below_alloc | apply pw_below_drewN | apply below_drew1) | exact HB.out)⟩
                    · rw [if_neg c41] at H
                      have c41b0 : decide ((wrap64 ((wrap64 (t139 * t142)) - a0)) ≤ 0) = false := decide_eq_false c41
                      clear c41
                      obtain rfl := Option.some.inj H
                      go_wp2_with (first | ((with_reducible refine gate_callee (f := 13) rfl ?_); refine goesL_ (some 32) rfl rfl Tryd.func13 (by kernel_rfl) rfl #[.int .i64 (wrap64 (a1 - a2))] rfl (by (try simp only [List.map_toArray, List.map_cons, List.map_nil]); first | done | rfl | (simp only [List.length_drop, List.length_take]; rfl)) ?_; (with_reducible refine (accountingref07_Power.calls kj5 (wrap64 (a1 - a2)) t142 _ A12.out).mono ?_); rintro e w' ⟨rfl, ⟨nd, rfl⟩⟩; refine ⟨_, rfl, ?_⟩))
                      go_ret
                      exact ⟨by first | rfl | (simp [errW_none, errW_some] <;> rfl) | (simp [*, errW_none, errW_some] <;> rfl), by repeat (first | (with_reducible first | exact HB.out | apply below_alloc | apply pw_below_drewN | apply below_drew1) | exact HB.out)⟩
                  · rw [if_neg c40] at H
                    have c40b0 : decide (a0 ≤ 0) = false := decide_eq_false c40
                    clear c40
                    obtain rfl := Option.some.inj H
                    go_wp2_with (first | ((with_reducible refine gate_callee (f := 13) rfl ?_); refine goesL_ (some 32) rfl rfl Tryd.func13 (by kernel_rfl) rfl #[.int .i64 (wrap64 (a1 - a2))] rfl (by (try simp only [List.map_toArray, List.map_cons, List.map_nil]); first | done | rfl | (simp only [List.length_drop, List.length_take]; rfl)) ?_; (with_reducible refine (accountingref07_Power.calls kj5 (wrap64 (a1 - a2)) t142 _ A12.out).mono ?_); rintro e w' ⟨rfl, ⟨nd, rfl⟩⟩; refine ⟨_, rfl, ?_⟩))
                    go_ret
                    exact ⟨by first | rfl | (simp [errW_none, errW_some] <;> rfl) | (simp [*, errW_none, errW_some] <;> rfl), by repeat (first | (with_reducible first | exact HB.out | apply below_alloc | apply pw_below_drewN | apply below_drew1) | exact HB.out)⟩
              · rw [if_neg c36] at H
                have c36b0 : decide (0 ≤ (wrap64 ((wrap64 (t139 * t142)) - a0))) = false := decide_eq_false c36
                clear c36
                by_cases c45 : a0 ≤ 0
                · rw [if_pos c45] at H
                  have c45b0 : decide (a0 ≤ 0) = true := decide_eq_true c45
                  clear c45
                  by_cases c46 : (wrap64 ((wrap64 (t139 * t142)) - a0)) ≤ 0
                  · rw [if_pos c46] at H
                    have c46b0 : decide ((wrap64 ((wrap64 (t139 * t142)) - a0)) ≤ 0) = true := decide_eq_true c46
                    clear c46
                    by_cases c47 : (wrap64 ((wrap64 (t139 * t142)) - a0)) > (wrap64 (-t142))
                    · rw [if_pos c47] at H
                      have c47b0 : decide ((wrap64 (-t142)) < (wrap64 ((wrap64 (t139 * t142)) - a0))) = true := decide_eq_true c47
                      clear c47
                      replace H := Option.bind_eq_some_iff.mp H
                      obtain ⟨t149, A480, H⟩ := H
                      replace H : (some t149) = some r := H
                      have A48 := Aside0.mk A480
                      clear A480
                      obtain rfl := Option.some.inj H
                      go_wp2_with (first | ((with_reducible refine gate_callee (f := 13) rfl ?_); refine goesL_ (some 32) rfl rfl Tryd.func13 (by kernel_rfl) rfl #[.int .i64 (wrap64 (a1 - a2))] rfl (by (try simp only [List.map_toArray, List.map_cons, List.map_nil]); first | done | rfl | (simp only [List.length_drop, List.length_take]; rfl)) ?_; (with_reducible refine (accountingref07_Power.calls kj5 (wrap64 (a1 - a2)) t142 _ A12.out).mono ?_); rintro e w' ⟨rfl, ⟨nd, rfl⟩⟩; refine ⟨_, rfl, ?_⟩) | (go_at_call 12; (with_reducible refine (accountinglaw07_lives.calls kj5  t149 _ A48.out (gl_below HG.out (by repeat (first | (with_reducible first | exact HB.out | exact Below.refl _ _ | apply below_alloc | apply pw_below_drewN | apply below_drew1) | exact HB.out)))).mono ?_); rintro e w49 ⟨rfl, hb⟩; have n0_ := Aside0.mk (below_step (by repeat (first | (with_reducible first | exact HB.out | apply below_alloc | apply pw_below_drewN | apply below_drew1) | exact HB.out)) hb); clear HB; have HB := n0_; clear n0_; (try clear hb); (try clear hb2); (try clear hk); (try clear hi)))
                      go_ret
                      exact ⟨by first | rfl | (simp [errW_none, errW_some] <;> rfl) | (simp [*, errW_none, errW_some] <;> rfl), by repeat (first | (with_reducible first | exact HB.out | apply below_alloc | apply pw_below_drewN | apply below_drew1) | exact HB.out)⟩
                    · rw [if_neg c47] at H
                      have c47b0 : decide ((wrap64 (-t142)) < (wrap64 ((wrap64 (t139 * t142)) - a0))) = false := decide_eq_false c47
                      clear c47
                      obtain rfl := Option.some.inj H
                      go_wp2_with (first | ((with_reducible refine gate_callee (f := 13) rfl ?_); refine goesL_ (some 32) rfl rfl Tryd.func13 (by kernel_rfl) rfl #[.int .i64 (wrap64 (a1 - a2))] rfl (by (try simp only [List.map_toArray, List.map_cons, List.map_nil]); first | done | rfl | (simp only [List.length_drop, List.length_take]; rfl)) ?_; (with_reducible refine (accountingref07_Power.calls kj5 (wrap64 (a1 - a2)) t142 _ A12.out).mono ?_); rintro e w' ⟨rfl, ⟨nd, rfl⟩⟩; refine ⟨_, rfl, ?_⟩))
                      go_ret
                      exact ⟨by first | rfl | (simp [errW_none, errW_some] <;> rfl) | (simp [*, errW_none, errW_some] <;> rfl), by repeat (first | (with_reducible first | exact HB.out | apply below_alloc | apply pw_below_drewN | apply below_drew1) | exact HB.out)⟩
                  · rw [if_neg c46] at H
                    have c46b0 : decide ((wrap64 ((wrap64 (t139 * t142)) - a0)) ≤ 0) = false := decide_eq_false c46
                    clear c46
                    obtain rfl := Option.some.inj H
                    go_wp2_with (first | ((with_reducible refine gate_callee (f := 13) rfl ?_); refine goesL_ (some 32) rfl rfl Tryd.func13 (by kernel_rfl) rfl #[.int .i64 (wrap64 (a1 - a2))] rfl (by (try simp only [List.map_toArray, List.map_cons, List.map_nil]); first | done | rfl | (simp only [List.length_drop, List.length_take]; rfl)) ?_; (with_reducible refine (accountingref07_Power.calls kj5 (wrap64 (a1 - a2)) t142 _ A12.out).mono ?_); rintro e w' ⟨rfl, ⟨nd, rfl⟩⟩; refine ⟨_, rfl, ?_⟩))
                    go_ret
                    exact ⟨by first | rfl | (simp [errW_none, errW_some] <;> rfl) | (simp [*, errW_none, errW_some] <;> rfl), by repeat (first | (with_reducible first | exact HB.out | apply below_alloc | apply pw_below_drewN | apply below_drew1) | exact HB.out)⟩
                · rw [if_neg c45] at H
                  have c45b0 : decide (a0 ≤ 0) = false := decide_eq_false c45
                  clear c45
                  obtain rfl := Option.some.inj H
                  go_wp2_with (first | ((with_reducible refine gate_callee (f := 13) rfl ?_); refine goesL_ (some 32) rfl rfl Tryd.func13 (by kernel_rfl) rfl #[.int .i64 (wrap64 (a1 - a2))] rfl (by (try simp only [List.map_toArray, List.map_cons, List.map_nil]); first | done | rfl | (simp only [List.length_drop, List.length_take]; rfl)) ?_; (with_reducible refine (accountingref07_Power.calls kj5 (wrap64 (a1 - a2)) t142 _ A12.out).mono ?_); rintro e w' ⟨rfl, ⟨nd, rfl⟩⟩; refine ⟨_, rfl, ?_⟩))
                  go_ret
                  exact ⟨by first | rfl | (simp [errW_none, errW_some] <;> rfl) | (simp [*, errW_none, errW_some] <;> rfl), by repeat (first | (with_reducible first | exact HB.out | apply below_alloc | apply pw_below_drewN | apply below_drew1) | exact HB.out)⟩
            · rw [if_neg c35] at H
              have c35b0 : decide (0 ≤ a0) = false := decide_eq_false c35
              clear c35
              by_cases c50 : a0 ≤ 0
              · rw [if_pos c50] at H
                have c50b0 : decide (a0 ≤ 0) = true := decide_eq_true c50
                clear c50
                by_cases c51 : (wrap64 ((wrap64 (t139 * t142)) - a0)) ≤ 0
                · rw [if_pos c51] at H
                  have c51b0 : decide ((wrap64 ((wrap64 (t139 * t142)) - a0)) ≤ 0) = true := decide_eq_true c51
                  clear c51
                  by_cases c52 : (wrap64 ((wrap64 (t139 * t142)) - a0)) > (wrap64 (-t142))
                  · rw [if_pos c52] at H
                    have c52b0 : decide ((wrap64 (-t142)) < (wrap64 ((wrap64 (t139 * t142)) - a0))) = true := decide_eq_true c52
                    clear c52
                    replace H := Option.bind_eq_some_iff.mp H
                    obtain ⟨t150, A530, H⟩ := H
                    replace H : (some t150) = some r := H
                    have A53 := Aside0.mk A530
                    clear A530
                    obtain rfl := Option.some.inj H
                    go_wp2_with (first | ((with_reducible refine gate_callee (f := 13) rfl ?_); refine goesL_ (some 32) rfl rfl Tryd.func13 (by kernel_rfl) rfl #[.int .i64 (wrap64 (a1 - a2))] rfl (by (try simp only [List.map_toArray, List.map_cons, List.map_nil]); first | done | rfl | (simp only [List.length_drop, List.length_take]; rfl)) ?_; (with_reducible refine (accountingref07_Power.calls kj5 (wrap64 (a1 - a2)) t142 _ A12.out).mono ?_); rintro e w' ⟨rfl, ⟨nd, rfl⟩⟩; refine ⟨_, rfl, ?_⟩) | (go_at_call 12; (with_reducible refine (accountinglaw07_lives.calls kj5  t150 _ A53.out (gl_below HG.out (by repeat (first | (with_reducible first | exact HB.out | exact Below.refl _ _ | apply below_alloc | apply pw_below_drewN | apply below_drew1) | exact HB.out)))).mono ?_); rintro e w54 ⟨rfl, hb⟩; have n0_ := Aside0.mk (below_step (by repeat (first | (with_reducible first | exact HB.out | apply below_alloc | apply pw_below_drewN | apply below_drew1) | exact HB.out)) hb); clear HB; have HB := n0_; clear n0_; (try clear hb); (try clear hb2); (try clear hk); (try clear hi)))
                    go_ret
                    exact ⟨by first | rfl | (simp [errW_none, errW_some] <;> rfl) | (simp [*, errW_none, errW_some] <;> rfl), by repeat (first | (with_reducible first | exact HB.out | apply below_alloc | apply pw_below_drewN | apply below_drew1) | exact HB.out)⟩
                  · rw [if_neg c52] at H
                    have c52b0 : decide ((wrap64 (-t142)) < (wrap64 ((wrap64 (t139 * t142)) - a0))) = false := decide_eq_false c52
                    clear c52
                    obtain rfl := Option.some.inj H
                    go_wp2_with (first | ((with_reducible refine gate_callee (f := 13) rfl ?_); refine goesL_ (some 32) rfl rfl Tryd.func13 (by kernel_rfl) rfl #[.int .i64 (wrap64 (a1 - a2))] rfl (by (try simp only [List.map_toArray, List.map_cons, List.map_nil]); first | done | rfl | (simp only [List.length_drop, List.length_take]; rfl)) ?_; (with_reducible refine (accountingref07_Power.calls kj5 (wrap64 (a1 - a2)) t142 _ A12.out).mono ?_); rintro e w' ⟨rfl, ⟨nd, rfl⟩⟩; refine ⟨_, rfl, ?_⟩))
                    go_ret
                    exact ⟨by first | rfl | (simp [errW_none, errW_some] <;> rfl) | (simp [*, errW_none, errW_some] <;> rfl), by repeat (first | (with_reducible first | exact HB.out | apply below_alloc | apply pw_below_drewN | apply below_drew1) | exact HB.out)⟩
                · rw [if_neg c51] at H
                  have c51b0 : decide ((wrap64 ((wrap64 (t139 * t142)) - a0)) ≤ 0) = false := decide_eq_false c51
                  clear c51
                  obtain rfl := Option.some.inj H
                  go_wp2_with (first | ((with_reducible refine gate_callee (f := 13) rfl ?_); refine goesL_ (some 32) rfl rfl Tryd.func13 (by kernel_rfl) rfl #[.int .i64 (wrap64 (a1 - a2))] rfl (by (try simp only [List.map_toArray, List.map_cons, List.map_nil]); first | done | rfl | (simp only [List.length_drop, List.length_take]; rfl)) ?_; (with_reducible refine (accountingref07_Power.calls kj5 (wrap64 (a1 - a2)) t142 _ A12.out).mono ?_); rintro e w' ⟨rfl, ⟨nd, rfl⟩⟩; refine ⟨_, rfl, ?_⟩))
                  go_ret
                  exact ⟨by first | rfl | (simp [errW_none, errW_some] <;> rfl) | (simp [*, errW_none, errW_some] <;> rfl), by repeat (first | (with_reducible first | exact HB.out | apply below_alloc | apply pw_below_drewN | apply below_drew1) | exact HB.out)⟩
              · rw [if_neg c50] at H
                have c50b0 : decide (a0 ≤ 0) = false := decide_eq_false c50
                clear c50
                obtain rfl := Option.some.inj H
                go_wp2_with (first | ((with_reducible refine gate_callee (f := 13) rfl ?_); refine goesL_ (some 32) rfl rfl Tryd.func13 (by kernel_rfl) rfl #[.int .i64 (wrap64 (a1 - a2))] rfl (by (try simp only [List.map_toArray, List.map_cons, List.map_nil]); first | done | rfl | (simp only [List.length_drop, List.length_take]; rfl)) ?_; (with_reducible refine (accountingref07_Power.calls kj5 (wrap64 (a1 - a2)) t142 _ A12.out).mono ?_); rintro e w' ⟨rfl, ⟨nd, rfl⟩⟩; refine ⟨_, rfl, ?_⟩))
                go_ret
                exact ⟨by first | rfl | (simp [errW_none, errW_some] <;> rfl) | (simp [*, errW_none, errW_some] <;> rfl), by repeat (first | (with_reducible first | exact HB.out | apply below_alloc | apply pw_below_drewN | apply below_drew1) | exact HB.out)⟩
          · rw [if_neg c34] at H
            have c34b0 : (a3 == 2) = false := beq_eq_false_iff_ne.mpr c34
            have c34b1 : (a3 != 2) = true := bne_iff_ne.mpr c34
            by_cases c55 : a3 = 5
            · rw [if_pos c55] at H
              have c55b0 : (a3 == 5) = true := beq_iff_eq.mpr c55
              have c55b1 : (a3 != 5) = false := bne_eq_false_iff_eq.mpr c55
              clear c55
              by_cases c56 : (wrap64 ((wrap64 (t139 * t142)) - a0)) ≤ 0
              · rw [if_pos c56] at H
                have c56b0 : decide ((wrap64 ((wrap64 (t139 * t142)) - a0)) ≤ 0) = true := decide_eq_true c56
                clear c56
                by_cases c57 : (wrap64 ((wrap64 (t139 * t142)) - a0)) > (wrap64 (-t142))
                · rw [if_pos c57] at H
                  have c57b0 : decide ((wrap64 (-t142)) < (wrap64 ((wrap64 (t139 * t142)) - a0))) = true := decide_eq_true c57
                  clear c57
                  replace H := Option.bind_eq_some_iff.mp H
                  obtain ⟨t151, A580, H⟩ := H
                  replace H : (some t151) = some r := H
                  have A58 := Aside0.mk A580
                  clear A580
                  obtain rfl := Option.some.inj H
                  go_wp2_with (first | ((with_reducible refine gate_callee (f := 13) rfl ?_); refine goesL_ (some 32) rfl rfl Tryd.func13 (by kernel_rfl) rfl #[.int .i64 (wrap64 (a1 - a2))] rfl (by (try simp only [List.map_toArray, List.map_cons, List.map_nil]); first | done | rfl | (simp only [List.length_drop, List.length_take]; rfl)) ?_; (with_reducible refine (accountingref07_Power.calls kj5 (wrap64 (a1 - a2)) t142 _ A12.out).mono ?_); rintro e w' ⟨rfl, ⟨nd, rfl⟩⟩; refine ⟨_, rfl, ?_⟩) | (go_at_call 12; (with_reducible refine (accountinglaw07_lives.calls kj5  t151 _ A58.out (gl_below HG.out (by repeat (first | (with_reducible first | exact HB.out | exact Below.refl _ _ | apply below_alloc | apply pw_below_drewN | apply below_drew1) | exact HB.out)))).mono ?_); rintro e w59 ⟨rfl, hb⟩; have n0_ := Aside0.mk (below_step (by repeat (first | (with_reducible first | exact HB.out | apply below_alloc | apply pw_below_drewN | apply below_drew1) | exact HB.out)) hb); clear HB; have HB := n0_; clear n0_; (try clear hb); (try clear hb2); (try clear hk); (try clear hi)))
                  go_ret
                  exact ⟨by first | rfl | (simp [errW_none, errW_some] <;> rfl) | (simp [*, errW_none, errW_some] <;> rfl), by repeat (first | (with_reducible first | exact HB.out | apply below_alloc | apply pw_below_drewN | apply below_drew1) | exact HB.out)⟩
                · rw [if_neg c57] at H
                  have c57b0 : decide ((wrap64 (-t142)) < (wrap64 ((wrap64 (t139 * t142)) - a0))) = false := decide_eq_false c57
                  clear c57
                  obtain rfl := Option.some.inj H
                  go_wp2_with (first | ((with_reducible refine gate_callee (f := 13) rfl ?_); refine goesL_ (some 32) rfl rfl Tryd.func13 (by kernel_rfl) rfl #[.int .i64 (wrap64 (a1 - a2))] rfl (by (try simp only [List.map_toArray, List.map_cons, List.map_nil]); first | done | rfl | (simp only [List.length_drop, List.length_take]; rfl)) ?_; (with_reducible refine (accountingref07_Power.calls kj5 (wrap64 (a1 - a2)) t142 _ A12.out).mono ?_); rintro e w' ⟨rfl, ⟨nd, rfl⟩⟩; refine ⟨_, rfl, ?_⟩))
                  go_ret
                  exact ⟨by first | rfl | (simp [errW_none, errW_some] <;> rfl) | (simp [*, errW_none, errW_some] <;> rfl), by repeat (first | (with_reducible first | exact HB.out | apply below_alloc | apply pw_below_drewN | apply below_drew1) | exact HB.out)⟩
              · rw [if_neg c56] at H
                have c56b0 : decide ((wrap64 ((wrap64 (t139 * t142)) - a0)) ≤ 0) = false := decide_eq_false c56
                clear c56
                obtain rfl := Option.some.inj H
                go_wp2_with (first | ((with_reducible refine gate_callee (f := 13) rfl ?_); refine goesL_ (some 32) rfl rfl Tryd.func13 (by kernel_rfl) rfl #[.int .i64 (wrap64 (a1 - a2))] rfl (by (try simp only [List.map_toArray, List.map_cons, List.map_nil]); first | done | rfl | (simp only [List.length_drop, List.length_take]; rfl)) ?_; (with_reducible refine (accountingref07_Power.calls kj5 (wrap64 (a1 - a2)) t142 _ A12.out).mono ?_); rintro e w' ⟨rfl, ⟨nd, rfl⟩⟩; refine ⟨_, rfl, ?_⟩))
                go_ret
                exact ⟨by first | rfl | (simp [errW_none, errW_some] <;> rfl) | (simp [*, errW_none, errW_some] <;> rfl), by repeat (first | (with_reducible first | exact HB.out | apply below_alloc | apply pw_below_drewN | apply below_drew1) | exact HB.out)⟩
            · rw [if_neg c55] at H
              have c55b0 : (a3 == 5) = false := beq_eq_false_iff_ne.mpr c55
              have c55b1 : (a3 != 5) = true := bne_iff_ne.mpr c55
              by_cases c60 : (wrap64 (2 * (wrap64 ((wrap64 (t139 * t142)) - a0)))) ≤ t142
              · rw [if_pos c60] at H
                have c60b0 : decide ((wrap64 (2 * (wrap64 ((wrap64 (t139 * t142)) - a0)))) ≤ t142) = true := decide_eq_true c60
                clear c60
                by_cases c61 : (wrap64 (2 * (wrap64 ((wrap64 (t139 * t142)) - a0)))) ≥ (wrap64 (-t142))
                · rw [if_pos c61] at H
                  have c61b0 : decide ((wrap64 (-t142)) ≤ (wrap64 (2 * (wrap64 ((wrap64 (t139 * t142)) - a0))))) = true := decide_eq_true c61
                  clear c61
                  replace H := Option.bind_eq_some_iff.mp H
                  obtain ⟨t152, A620, H⟩ := H
                  replace H : (some t152) = some r := H
                  have A62 := Aside0.mk A620
                  clear A620
                  obtain rfl := Option.some.inj H
                  go_wp2_with (first | ((with_reducible refine gate_callee (f := 13) rfl ?_); refine goesL_ (some 32) rfl rfl Tryd.func13 (by kernel_rfl) rfl #[.int .i64 (wrap64 (a1 - a2))] rfl (by (try simp only [List.map_toArray, List.map_cons, List.map_nil]); first | done | rfl | (simp only [List.length_drop, List.length_take]; rfl)) ?_; (with_reducible refine (accountingref07_Power.calls kj5 (wrap64 (a1 - a2)) t142 _ A12.out).mono ?_); rintro e w' ⟨rfl, ⟨nd, rfl⟩⟩; refine ⟨_, rfl, ?_⟩) | (go_at_call 12; (with_reducible refine (accountinglaw07_lives.calls kj5  t152 _ A62.out (gl_below HG.out (by repeat (first | (with_reducible first | exact HB.out | exact Below.refl _ _ | apply below_alloc | apply pw_below_drewN | apply below_drew1) | exact HB.out)))).mono ?_); rintro e w63 ⟨rfl, hb⟩; have n0_ := Aside0.mk (below_step (by repeat (first | (with_reducible first | exact HB.out | apply below_alloc | apply pw_below_drewN | apply below_drew1) | exact HB.out)) hb); clear HB; have HB := n0_; clear n0_; (try clear hb); (try clear hb2); (try clear hk); (try clear hi)))
                  go_ret
                  exact ⟨by first | rfl | (simp [errW_none, errW_some] <;> rfl) | (simp [*, errW_none, errW_some] <;> rfl), by repeat (first | (with_reducible first | exact HB.out | apply below_alloc | apply pw_below_drewN | apply below_drew1) | exact HB.out)⟩
                · rw [if_neg c61] at H
                  have c61b0 : decide ((wrap64 (-t142)) ≤ (wrap64 (2 * (wrap64 ((wrap64 (t139 * t142)) - a0))))) = false := decide_eq_false c61
                  clear c61
                  obtain rfl := Option.some.inj H
                  go_wp2_with (first | ((with_reducible refine gate_callee (f := 13) rfl ?_); refine goesL_ (some 32) rfl rfl Tryd.func13 (by kernel_rfl) rfl #[.int .i64 (wrap64 (a1 - a2))] rfl (by (try simp only [List.map_toArray, List.map_cons, List.map_nil]); first | done | rfl | (simp only [List.length_drop, List.length_take]; rfl)) ?_; (with_reducible refine (accountingref07_Power.calls kj5 (wrap64 (a1 - a2)) t142 _ A12.out).mono ?_); rintro e w' ⟨rfl, ⟨nd, rfl⟩⟩; refine ⟨_, rfl, ?_⟩))
                  go_ret
                  exact ⟨by first | rfl | (simp [errW_none, errW_some] <;> rfl) | (simp [*, errW_none, errW_some] <;> rfl), by repeat (first | (with_reducible first | exact HB.out | apply below_alloc | apply pw_below_drewN | apply below_drew1) | exact HB.out)⟩
              · rw [if_neg c60] at H
                have c60b0 : decide ((wrap64 (2 * (wrap64 ((wrap64 (t139 * t142)) - a0)))) ≤ t142) = false := decide_eq_false c60
                clear c60
                obtain rfl := Option.some.inj H
                go_wp2_with (first | ((with_reducible refine gate_callee (f := 13) rfl ?_); refine goesL_ (some 32) rfl rfl Tryd.func13 (by kernel_rfl) rfl #[.int .i64 (wrap64 (a1 - a2))] rfl (by (try simp only [List.map_toArray, List.map_cons, List.map_nil]); first | done | rfl | (simp only [List.length_drop, List.length_take]; rfl)) ?_; (with_reducible refine (accountingref07_Power.calls kj5 (wrap64 (a1 - a2)) t142 _ A12.out).mono ?_); rintro e w' ⟨rfl, ⟨nd, rfl⟩⟩; refine ⟨_, rfl, ?_⟩))
                go_ret
                exact ⟨by first | rfl | (simp [errW_none, errW_some] <;> rfl) | (simp [*, errW_none, errW_some] <;> rfl), by repeat (first | (with_reducible first | exact HB.out | apply below_alloc | apply pw_below_drewN | apply below_drew1) | exact HB.out)⟩

/-- THE ONE PURE STATEMENT of accountinglaw07_MoneyRounds: yours. -/
def accountinglaw07_MoneyRounds.Pure : Prop := ∀ (a0 : Int) (a1 : Int) (a2 : Int) (a3 : Int), (Lit.int .i64 a0).wf = true → (Lit.int .i64 a1).wf = true → (Lit.int .i64 a2).wf = true → (Lit.int .i64 a3).wf = true → ∃ k, accountinglaw07_MoneyRounds.f k a0 a1 a2 a3 = some true
theorem accountinglaw07_MoneyRounds.walk (P : accountinglaw07_MoneyRounds.Pure) (a0 : Int) (a1 : Int) (a2 : Int) (a3 : Int) (w : World) (w0 : (Lit.int .i64 a0).wf = true) (w1 : (Lit.int .i64 a1).wf = true) (w2 : (Lit.int .i64 a2).wf = true) (w3 : (Lit.int .i64 a3).wf = true) (hG : Gl w) :
    Calls Tryd.prog 5 #[.int .i64 a0, .int .i64 a1, .int .i64 a2, .int .i64 a3] w fun e w' => e = .returned (.bool true) ∧ Below w.heap.size w w' := by
  obtain ⟨k, h⟩ := P a0 a1 a2 a3 w0 w1 w2 w3
  refine (accountinglaw07_MoneyRounds.calls k a0 a1 a2 a3 true w h hG).mono ?_
  rintro e w' ⟨rfl, hd⟩
  exact ⟨rfl, hd⟩

end Go.Proofs.YthmpapnhomngnaaDoor.A
