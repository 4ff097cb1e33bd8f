-- By gen.py, a program of this session's, over the print's forms: not the print's own text.
import Derived.Test.YthmpapnhomngnaaDoorAx0
import Derived.Test.YthmpapnhomngnaaDoorAx1
import Derived.Test.YthmpapnhomngnaaDoorAx4
namespace Go.Proofs.YthmpapnhomngnaaDoor.A
open Go.RowKit Go.Proofs.YthmpapnhomngnaaDoor.B Go.Proofs.YthmpapnhomngnaaDoorW.PrintWords Go.Proofs.YthmpapnhomngnaaDoorW.PrintLast Go.Proofs.YthmpapnhomngnaaDoorW.PrintMore
attribute [local go_sem] max2_int min2_int max_two min_two max_three min_three max_four min_four   -- for this text's walks alone
set_option linter.unusedVariables false
set_option linter.unusedSimpArgs false

/-! ### money_Scale: function 10 (by hand) -/
set_option maxHeartbeats 1600000 in
theorem scale_any (a f t m : Int) (ha : I64 a) (w : World) (hG : Gl w) : Calls Tryd.prog 10 #[.int .i64 a, .int .i64 f, .int .i64 t, .int .i64 m] w fun e w' => e = .returned (.tuple #[.int .i64 (scaleS a f t m).1, .int .i64 (scaleS a f t m).2]) ∧ Below w.heap.size w w' := by
  have HG := Aside0.mk hG
  have HA := Aside0.mk ha
  clear hG ha
  generalize hP : (fun e w' => e = Ending.returned (.tuple #[.int .i64 (scaleS a f t m).1, .int .i64 (scaleS a f t m).2]) ∧ Below w.heap.size w w') = Post
  have HP := Aside0.mk hP
  clear hP
  by_cases m1 : m < 1
  · go_enter Tryd.func10, Tryd.ntmps10
    go_wp2_with fail
    rw [← HP.out]
    exact ⟨by rw [scaleS, if_pos (.inl m1)]; try rfl, Below.refl _ _⟩
  by_cases m5 : 5 < m
  · go_enter Tryd.func10, Tryd.ntmps10
    go_wp2_with fail
    rw [← HP.out]
    exact ⟨by rw [scaleS, if_pos (.inr m5)]; try rfl, Below.refl _ _⟩
  have hf := fits_any f
  have ht := fits_any t
  change ∀ w, Calls _ _ _ _ fun e w' => e = .returned (.bool (fitsB f)) ∧ _ at hf
  change ∀ w, Calls _ _ _ _ fun e w' => e = .returned (.bool (fitsB t)) ∧ _ at ht
  have Hf := Aside0.mk hf
  have Ht := Aside0.mk ht
  have E0 : Aside0 (scaleS a f t m = _) := ⟨by rw [scaleS, if_neg (by omega)]⟩
  clear hf ht
  have Bf := Aside0.mk (fitsB_iff f)
  have Bt := Aside0.mk (fitsB_iff t)
  cases hbf : fitsB f
  · rw [hbf] at Hf E0
    go_enter Tryd.func10, Tryd.ntmps10
    go_wp2_with fail
    refine (Hf.out _).mono ?_
    rintro e w' ⟨rfl, rfl⟩
    go_wp2_with fail
    rw [← HP.out]
    exact ⟨by rw [E0.out]; rfl, Below.refl _ _⟩
  have Hf0 := Hf
  cases hbt : fitsB t
  · rw [hbf, hbt] at E0; rw [hbf] at Hf; rw [hbt] at Ht
    go_enter Tryd.func10, Tryd.ntmps10
    go_wp2_with fail
    refine (Hf.out _).mono ?_
    rintro e w' ⟨rfl, rfl⟩
    go_wp2_with fail
    refine (Ht.out _).mono ?_
    rintro e w' ⟨rfl, rfl⟩
    go_wp2_with fail
    rw [← HP.out]
    exact ⟨by rw [E0.out]; rfl, Below.refl _ _⟩
  obtain ⟨f0, f4⟩ := Bf.out.mp hbf
  obtain ⟨t0, t4⟩ := Bt.out.mp hbt
  rw [hbf, hbt] at E0; rw [hbf] at Hf; rw [hbt] at Ht
  have hfar := far_any a
  change ∀ w, Calls _ _ _ _ fun e w' => e = .returned (.bool (farB a)) ∧ _ at hfar
  have HFar := Aside0.mk hfar
  clear hfar hbf hbt Bf Bt
  cases hfa : farB a
  · rw [hfa] at E0 HFar
    have G1 := HG.out.pow f f0 f4
    have G2 := HG.out.pow t t0 t4
    have I1 := Aside0.mk (pow10_I64 f f4)
    have I2 := Aside0.mk (pow10_I64 t t4)
    generalize pow10 f.toNat = pf at *
    generalize pow10 t.toNat = pt at *
    have hf5 : f < 5 := by omega
    have ht5 : t < 5 := by omega
    go_enter Tryd.func10, Tryd.ntmps10
    go_wp2_with fail
    refine (Hf.out _).mono ?_
    rintro e w' ⟨rfl, rfl⟩
    go_wp2_with fail
    refine (Ht.out _).mono ?_
    rintro e w' ⟨rfl, rfl⟩
    go_wp2_with fail
    refine (HFar.out _).mono ?_
    rintro e w' ⟨rfl, rfl⟩
    have HM := Aside0.mk (fun W => muldiv_MulDiv.calls a pt pf m (mulDivS a pt pf m).1 (mulDivS a pt pf m).2 W (by unfold muldiv_MulDiv.f; rw [if_pos ⟨HA.out, I2.out, I1.out⟩]))
    generalize mulDivS a pt pf m = R at *
    obtain ⟨n, e⟩ := R
    dsimp only at HM E0
    go_wp2_with fail
    go_region_with (first | (go_at_call 26; refine (HM.out _).mono ?_; rintro e_ w1 ⟨rfl, hb⟩))
    all_goals
     have HB := Aside0.mk (show Below w.heap.size w w1 from Below.trans (by first | exact below_drew1 (Below.refl _ _) | exact pw_below_drewN (Below.refl _ _) _) hb)
     clear hb
     by_cases he : e = 0
     · subst he
       have hfn := far_any n
       change ∀ w, Calls _ _ _ _ fun e w' => e = .returned (.bool (farB n)) ∧ _ at hfn
       have HFn := Aside0.mk hfn
       clear hfn
       cases hfb : farB n
       · rw [hfb] at HFn E0
         go_wp2_with fail
         refine (HFn.out _).mono ?_
         rintro e w' ⟨rfl, rfl⟩
         go_wp2_with fail
         rw [← HP.out]
         exact ⟨by rw [E0.out]; rfl, HB.out⟩
       · rw [hfb] at HFn E0
         go_wp2_with fail
         refine (HFn.out _).mono ?_
         rintro e w' ⟨rfl, rfl⟩
         go_wp2_with fail
         rw [← HP.out]
         exact ⟨by rw [E0.out]; rfl, HB.out⟩
     · have he1 : (e == 0) = false := by simpa using he
       have he2 : (e != 0) = true := by simpa using he
       go_wp2_with fail
       rw [← HP.out]
       exact ⟨by rw [E0.out]; simp [he], HB.out⟩
  · rw [hfa] at E0 HFar
    go_enter Tryd.func10, Tryd.ntmps10
    go_wp2_with fail
    refine (Hf.out _).mono ?_
    rintro e w' ⟨rfl, rfl⟩
    go_wp2_with fail
    refine (Ht.out _).mono ?_
    rintro e w' ⟨rfl, rfl⟩
    go_wp2_with fail
    refine (HFar.out _).mono ?_
    rintro e w' ⟨rfl, rfl⟩
    go_wp2_with fail
    rw [← HP.out]
    exact ⟨by rw [E0.out]; rfl, Below.refl _ _⟩
def money_Scale.f (a0 : Int) (a1 : Int) (a2 : Int) (a3 : Int) : Option (Int × Int) := if I64 a0 then some (scaleS a0 a1 a2 a3) else none
theorem money_Scale.calls (a0 : Int) (a1 : Int) (a2 : Int) (a3 : Int) (r1 : Int) (r2 : Int) (w : World) (h : money_Scale.f a0 a1 a2 a3 = some (r1, r2)) (hG : Gl w) :
    Calls Tryd.prog 10 #[.int .i64 a0, .int .i64 a1, .int .i64 a2, .int .i64 a3] w fun e w' => e = .returned (.tuple #[.int .i64 r1, .int .i64 r2]) ∧ Below w.heap.size w w' := by
  unfold money_Scale.f at h
  split at h
  · rename_i hs
    have h' := Option.some.inj h
    have := scale_any a0 a1 a2 a3 hs w hG
    rw [h'] at this
    exact this
  · cases h

/-! ### accountingref07_Power: function 13 -/
def accountingref07_Power.l0 : Nat → Int → Int → Int → Option (Int)
  | 0, _, _, _ => none
  | k + 1, x0, x3, x4 => if x4 < x0 then (accountingref07_Power.l0 k x0 (wrap64 (x3 * 10)) (wrap64 (x4 + 1))) else (some x3)
def accountingref07_Power.f (k : Nat) (a0 : Int) : Option (Int) := accountingref07_Power.l0 k a0 1 0
theorem accountingref07_Power.mono_l : ∀ k, (∀ y0 y1 y2, LeO (accountingref07_Power.l0 k y0 y1 y2) (accountingref07_Power.l0 (k + 1) y0 y1 y2))
  | 0 => fun _ _ _ r h => by simp [accountingref07_Power.l0] at h
  | k + 1 => by
    have ih0 := accountingref07_Power.mono_l k
    · intro y0 y1 y2
      unfold accountingref07_Power.l0
      repeat' first
      | (with_reducible exact ih0 _ _ _)
      | (with_reducible exact LeO.refl _)
      | (with_reducible exact LeO.none _)
      | (with_reducible refine LeO.ite ?_ ?_)
      | (with_reducible refine LeO.bind ?_ (fun _ => ?_))
      | exact ih0 _ _ _
      | exact LeO.none _
      | refine LeO.ite ?_ ?_
      | refine LeO.bind ?_ (fun _ => ?_)
theorem accountingref07_Power.mono : ∀ a0 k, LeO (accountingref07_Power.f k a0) (accountingref07_Power.f (k + 1) a0) := by
  intro a0 k
  have ih0 := accountingref07_Power.mono_l k
  unfold accountingref07_Power.f
  repeat' first
      | (with_reducible exact ih0 _ _ _)
      | (with_reducible exact LeO.refl _)
      | (with_reducible exact LeO.none _)
      | (with_reducible refine LeO.ite ?_ ?_)
      | (with_reducible refine LeO.bind ?_ (fun _ => ?_))
      | exact ih0 _ _ _
      | exact LeO.none _
      | refine LeO.ite ?_ ?_
      | refine LeO.bind ?_ (fun _ => ?_)
set_option maxHeartbeats 8000000 in
set_option maxRecDepth 100000 in
theorem accountingref07_Power.calls (k : Nat) (a0 : Int) (r : Int) (w : World) (h : accountingref07_Power.f k a0 = some r) :
    Calls Tryd.prog 13 #[.int .i64 a0] w fun e w' => e = .returned (.int .i64 r) ∧ Drawn0 w w' := by
  have H : (accountingref07_Power.l0 k a0 1 0) = some r := h
  clear h
  have H' := Aside0.mk H
  clear H
  go_enter Tryd.func13, Tryd.ntmps13
  go_wp2
  go_loopg [3, 4] k (fun kq v3 v4 w' => ∃ (x3_1 : Int) (x4_1 : Int), v3 = .int .i64 x3_1 ∧ v4 = .int .i64 x4_1 ∧ Aside0 (accountingref07_Power.l0 kq a0 x3_1 x4_1 = some r) ∧ Aside0 (kq ≤ k) ∧ Drawn0 w w')
  case atStart => exact ⟨(1), (0), (by first | rfl | (simp; done) | (simp [*]; done) | (simp; generalize ByteArray.toList _ = l_; cases l_ <;> rfl)), (by first | rfl | (simp; done) | (simp [*]; done) | (simp; generalize ByteArray.toList _ = l_; cases l_ <;> rfl)), H', ⟨Nat.le_refl _⟩, by repeat (first | exact Drawn0.refl _ | apply Drawn0.step)⟩
  case round =>
    clear H'
    try clear c1
    obtain ⟨x3_1, x4_1, rfl, rfl, HA, HK1, ⟨m1, rfl⟩⟩ := hrel
    cases gk with
    | zero => exact absurd HA.out (by simp [accountingref07_Power.l0])
    | succ k1 =>
      have H := HA.out
      clear HA
      simp only [accountingref07_Power.l0] at H
      by_cases c2 : x4_1 < a0
      · rw [if_pos c2] at H
        have c2b0 : decide (x4_1 < a0) = true := decide_eq_true c2
        clear c2
        have H' := Aside0.mk H
        clear H
        go_wp2
        go_roundg k1
        case measure => have := HK1.out; omega
        case rel => exact ⟨(wrap64 (x3_1 * 10)), (wrap64 (x4_1 + 1)), (by first | rfl | (simp; done) | (simp [*]; done) | (simp; generalize ByteArray.toList _ = l_; cases l_ <;> rfl)), (by first | rfl | (simp; done) | (simp [*]; done) | (simp; generalize ByteArray.toList _ = l_; cases l_ <;> rfl)), H', ⟨by have := HK1.out; omega⟩, by repeat (first | exact Drawn0.refl _ | apply Drawn0.step)⟩
      · rw [if_neg c2] at H
        have c2b0 : decide (x4_1 < a0) = false := decide_eq_false c2
        clear c2
        obtain rfl := Option.some.inj H
        go_wp2
        go_ret
        exact ⟨by first | rfl | (simp; done) | (simp [*]; done) | (simp; generalize ByteArray.toList _ = l_; cases l_ <;> rfl), by repeat (first | exact Drawn0.refl _ | apply Drawn0.step)⟩

/-! ### accountingref07_large: function 27 -/
def accountingref07_large.f (a0 : Int) : Option (Bool) := if a0 > 1000000000000000 then (some true) else (some (decide (a0 < (-1000000000000000))))
set_option maxHeartbeats 8000000 in
set_option maxRecDepth 100000 in
theorem accountingref07_large.calls (a0 : Int) (r : Bool) (w : World) (h : accountingref07_large.f a0 = some r) :
    Calls Tryd.prog 27 #[.int .i64 a0] w fun e w' => e = .returned (.bool r) ∧ Drawn0 w w' := by
  have H : (if a0 > 1000000000000000 then (some true) else (some (decide (a0 < (-1000000000000000))))) = some r := h
  clear h
  by_cases c2 : a0 > 1000000000000000
  · rw [if_pos c2] at H
    have c2b0 : decide (1000000000000000 < a0) = true := decide_eq_true c2
    clear c2
    obtain rfl := Option.some.inj H
    go_enter Tryd.func27, Tryd.ntmps27
    go_wp2
    go_ret
    exact ⟨by first | rfl | (simp; done) | (simp [*]; done) | (simp; generalize ByteArray.toList _ = l_; cases l_ <;> rfl), by repeat (first | exact Drawn0.refl _ | apply Drawn0.step)⟩
  · rw [if_neg c2] at H
    have c2b0 : decide (1000000000000000 < a0) = false := decide_eq_false c2
    clear c2
    obtain rfl := Option.some.inj H
    go_enter Tryd.func27, Tryd.ntmps27
    go_wp2
    go_ret
    exact ⟨by first | rfl | (simp; done) | (simp [*]; done) | (simp; generalize ByteArray.toList _ = l_; cases l_ <;> rfl), by repeat (first | exact Drawn0.refl _ | apply Drawn0.step)⟩

end Go.Proofs.YthmpapnhomngnaaDoor.A
