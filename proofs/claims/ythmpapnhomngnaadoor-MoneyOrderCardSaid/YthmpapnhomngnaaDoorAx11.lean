-- By gen.py, a program of this session's, over the print's forms: not the print's own text.
import Derived.Test.YthmpapnhomngnaaDoorAx0
import Derived.Test.YthmpapnhomngnaaDoorAx1
import Derived.Test.YthmpapnhomngnaaDoorAx10
namespace Go.Proofs.YthmpapnhomngnaaDoor.A
open Go.RowKit Go.Proofs.YthmpapnhomngnaaDoor.B Go.Proofs.YthmpapnhomngnaaDoorW.PrintWords Go.Proofs.YthmpapnhomngnaaDoorW.PrintLast Go.Proofs.YthmpapnhomngnaaDoorW.PrintMore
attribute [local go_sem] max2_int min2_int max_two min_two max_three min_three max_four min_four   -- for this text's walks alone
set_option linter.unusedVariables false
set_option linter.unusedSimpArgs false

/-! ### money_Text: function 14 (by hand) -/
set_option maxHeartbeats 6400000 in
theorem text_any (a d : Int) (w : World) (hG : Gl w) : Calls Tryd.prog 14 #[.int .i64 a, .int .i64 d] w fun e w' => e = .returned (.tuple #[.string (textS a d).1, .int .i64 (textS a d).2]) ∧ Below w.heap.size w w' := by
  have HG := Aside0.mk hG
  clear hG
  generalize hP : (fun e w' => e = Ending.returned (.tuple #[.string (textS a d).1, .int .i64 (textS a d).2]) ∧ Below w.heap.size w w') = Post
  have HP := Aside0.mk hP
  clear hP
  have hf := fits_any d
  change ∀ w, Calls _ _ _ _ fun e w' => e = .returned (.bool (fitsB d)) ∧ _ at hf
  have Hf := Aside0.mk hf
  have E0 : Aside0 (textS a d = _) := ⟨by rw [textS]⟩
  clear hf
  cases hbf : fitsB d
  · rw [hbf] at Hf E0
    go_enter Tryd.func14, Tryd.ntmps14
    go_wp2_with fail
    refine (Hf.out _).mono ?_
    rintro e w' ⟨rfl, rfl⟩
    go_wp2_with fail
    rw [← HP.out]
    exact ⟨by rw [E0.out]; rfl, Below.refl _ _⟩
  obtain ⟨d0, d4⟩ := (fitsB_iff d).mp hbf
  rw [hbf] at E0 Hf
  clear hbf
  have hfar := far_any a
  change ∀ w, Calls _ _ _ _ fun e w' => e = .returned (.bool (farB a)) ∧ _ at hfar
  have HFar := Aside0.mk hfar
  clear hfar
  cases hfa : farB a
  rotate_left
  · rw [hfa] at E0 HFar
    go_enter Tryd.func14, Tryd.ntmps14
    go_wp2_with fail
    refine (Hf.out _).mono ?_
    rintro e w' ⟨rfl, rfl⟩
    go_wp2_with fail
    refine (HFar.out _).mono ?_
    rintro e w' ⟨rfl, rfl⟩
    go_wp2_with fail
    rw [← HP.out]
    exact ⟨by rw [E0.out]; rfl, Below.refl _ _⟩
  rw [hfa] at E0 HFar
  have hnf : ¬ (1000000000000000 < a ∨ a < -1000000000000000) := fun h => by rw [(farB_iff a).mpr h] at hfa; cases hfa
  clear hfa
  have G1 := HG.out.pow d d0 d4
  have hd5 : d < 5 := by omega
  obtain ⟨x, hx⟩ : ∃ x : Nat, x = a.natAbs := ⟨_, rfl⟩
  obtain ⟨p, hp⟩ : ∃ p : Nat, p = 10 ^ d.toNat := ⟨_, rfl⟩
  obtain ⟨p1, p2⟩ := pow_le4 d.toNat (by omega)
  rw [← hp] at p1 p2
  have hpp : pow10 d.toNat = (p : Int) := by rw [hp]; rfl
  rw [hpp] at G1
  have hxb : x ≤ 1000000000000000 := by omega
  obtain ⟨q, hq⟩ : ∃ q : Nat, q = x / p := ⟨_, rfl⟩
  obtain ⟨r, hr⟩ : ∃ r : Nat, r = p + x % p := ⟨_, rfl⟩
  have hqb : q ≤ 1000000000000000 := by rw [hq]; exact Nat.le_trans (Nat.div_le_self _ _) hxb
  have hrb : r ≤ 20000 := by have := Nat.mod_lt x p1; omega
  have hqI : I64 (q : Int) := by unfold I64; omega
  have hrI : I64 (r : Int) := by unfold I64; omega
  have HTq := Aside0.mk (fun W => num_Text.calls (q : Int) (itB q) W (by unfold num_Text.f; rw [if_pos hqI]; rfl))
  have HTr := Aside0.mk (fun W => num_Text.calls (r : Int) (itB r) W (by unfold num_Text.f; rw [if_pos hrI]; rfl))
  have hp0 : ((p : Int) == 0) = false := by rw [beq_eq_false_iff_ne]; omega
  have hdiv : Int.tdiv (x : Int) (p : Int) = (q : Int) := by rw [hq]; exact Int.ofNat_tdiv x p
  have hmod : (p : Int) + Int.tmod (x : Int) (p : Int) = (r : Int) := by rw [hr, Int.natCast_add]; congr 1
  have ET : textB (if a < 0 then ⟨#[45]⟩ else ⟨#[]⟩) a.natAbs d = if d = 0 then (if a < 0 then ⟨#[45]⟩ else ⟨#[]⟩) ++ itB q else (if a < 0 then ⟨#[45]⟩ else ⟨#[]⟩) ++ itB q ++ ⟨#[46]⟩ ++ (itB r).extract 1 (itB r).size := by rw [textB, ← hp, ← hx, ← hq, ← hr]
  rw [ET] at E0
  have sq := itB_size q hqI
  have sr := itB_size r hrI
  have sr1 := itB_pos r
  clear hqI hrI ET
  generalize itB q = Bq at *
  generalize itB r = Br at *
  have hdw : wrap64 ((x : Int) / (p : Int)) = (q : Int) := by
    rw [← Int.natCast_ediv, ← hq]; unfold wrap64; omega
  have hmw : IntKind.i64.wrap ((p : Int) + (x : Int) % (p : Int)) = (r : Int) := by
    rw [← Int.natCast_emod, ← Int.natCast_add, ← hr]; exact IntWalk.i64_in _ (by omega)
  have HPP := Aside0.mk hpp
  clear hdiv hmod
  by_cases ha : a < 0
  · have hw : IntKind.i64.wrap (-a) = (x : Int) := by rw [IntWalk.i64_in _ (by omega)]; omega
    rw [if_pos ha] at E0
    clear hnf hx hq hr hpp hp
    by_cases hd0 : d = 0
    · have HD := Aside0.mk hd0
      rw [if_pos hd0] at E0
      clear hd0
      go_enter Tryd.func14, Tryd.ntmps14
      go_wp2_with fail
      refine (Hf.out _).mono ?_
      rintro e w' ⟨rfl, rfl⟩
      go_wp2_with fail
      refine (HFar.out _).mono ?_
      rintro e w' ⟨rfl, rfl⟩
      go_wp2_with fail
      rw [hdw]
      refine (HTq.out _).mono ?_
      rintro e w1 ⟨rfl, hb⟩
      have HB := Aside0.mk hb
      have hd0 := HD.out
      clear hb G1
      go_wp2_with fail
      rw [← HP.out]
      exact ⟨by rw [E0.out]; (try rfl), HB.out⟩
    · have hd0b : (d == 0) = false := by simpa using hd0
      rw [if_neg hd0] at E0
      go_enter Tryd.func14, Tryd.ntmps14
      go_wp2_with fail
      refine (Hf.out _).mono ?_
      rintro e w' ⟨rfl, rfl⟩
      go_wp2_with fail
      refine (HFar.out _).mono ?_
      rintro e w' ⟨rfl, rfl⟩
      go_wp2_with fail
      rw [hdw]
      refine (HTq.out _).mono ?_
      rintro e w1 ⟨rfl, hb⟩
      have HB := Aside0.mk hb
      have G2 := (gl_below HG.out hb).pow d d0 d4
      rw [HPP.out] at G2
      clear hb
      go_wp2_with fail
      clear hd0b
      have HX := Aside0.mk sr1
      go_region_with (first | (go_at_call 30; refine (HTr.out _).mono ?_; rintro e_ w2 ⟨rfl, hb2⟩))
      all_goals
        have HB2 := Aside0.mk (show Below w.heap.size w w2 from HB.out.trans ((Below.trans (by first | exact below_drew1 (Below.refl _ _) | exact pw_below_drewN (Below.refl _ _) _) hb2).mono HB.out.size))
        clear hb2 G2
        go_wp2_with fail
        rw [← HP.out]
        exact ⟨by rw [E0.out]; (try rfl), by repeat (first | exact HB2.out | apply pw_below_drewN | apply below_drew1)⟩
  · obtain rfl : a = (x : Int) := by omega
    rw [if_neg ha] at E0
    clear hnf hx hq hr hpp hp
    by_cases hd0 : d = 0
    · have HD := Aside0.mk hd0
      rw [if_pos hd0] at E0
      clear hd0
      go_enter Tryd.func14, Tryd.ntmps14
      go_wp2_with fail
      refine (Hf.out _).mono ?_
      rintro e w' ⟨rfl, rfl⟩
      go_wp2_with fail
      refine (HFar.out _).mono ?_
      rintro e w' ⟨rfl, rfl⟩
      go_wp2_with fail
      rw [hdw]
      refine (HTq.out _).mono ?_
      rintro e w1 ⟨rfl, hb⟩
      have HB := Aside0.mk hb
      have hd0 := HD.out
      clear hb G1
      go_wp2_with fail
      rw [← HP.out]
      exact ⟨by rw [E0.out]; (try rfl), HB.out⟩
    · have hd0b : (d == 0) = false := by simpa using hd0
      rw [if_neg hd0] at E0
      go_enter Tryd.func14, Tryd.ntmps14
      go_wp2_with fail
      refine (Hf.out _).mono ?_
      rintro e w' ⟨rfl, rfl⟩
      go_wp2_with fail
      refine (HFar.out _).mono ?_
      rintro e w' ⟨rfl, rfl⟩
      go_wp2_with fail
      rw [hdw]
      refine (HTq.out _).mono ?_
      rintro e w1 ⟨rfl, hb⟩
      have HB := Aside0.mk hb
      have G2 := (gl_below HG.out hb).pow d d0 d4
      rw [HPP.out] at G2
      clear hb
      go_wp2_with fail
      clear hd0b
      have HX := Aside0.mk sr1
      go_region_with (first | (go_at_call 30; refine (HTr.out _).mono ?_; rintro e_ w2 ⟨rfl, hb2⟩))
      all_goals
        have HB2 := Aside0.mk (show Below w.heap.size w w2 from HB.out.trans ((Below.trans (by first | exact below_drew1 (Below.refl _ _) | exact pw_below_drewN (Below.refl _ _) _) hb2).mono HB.out.size))
        clear hb2 G2
        go_wp2_with fail
        rw [← HP.out]
        exact ⟨by rw [E0.out]; (try rfl), by repeat (first | exact HB2.out | apply pw_below_drewN | apply below_drew1)⟩
def money_Text.f (a0 : Int) (a1 : Int) : Option (ByteArray × Int) := some (textS a0 a1)
theorem money_Text.calls (a0 : Int) (a1 : Int) (r1 : ByteArray) (r2 : Int) (w : World) (h : money_Text.f a0 a1 = some (r1, r2)) (hG : Gl w) :
    Calls Tryd.prog 14 #[.int .i64 a0, .int .i64 a1] w fun e w' => e = .returned (.tuple #[.string r1, .int .i64 r2]) ∧ Below w.heap.size w w' := by
  have h' := Option.some.inj h
  have := text_any a0 a1 w hG
  rw [h'] at this
  exact this

/-! ### money_digit: function 44 -/
def money_digit.f (a0 : Int) : Option (Bool) := if a0 ≥ 48 then (some (decide (a0 ≤ 57))) else (some false)
set_option maxHeartbeats 8000000 in
set_option maxRecDepth 100000 in
theorem money_digit.calls (a0 : Int) (r : Bool) (w : World) (h : money_digit.f a0 = some r) :
    Calls Tryd.prog 44 #[.int .i32 a0] w fun e w' => e = .returned (.bool r) ∧ Drawn0 w w' := by
  have H : (if a0 ≥ 48 then (some (decide (a0 ≤ 57))) else (some false)) = some r := h
  clear h
  by_cases c2 : a0 ≥ 48
  · rw [if_pos c2] at H
    have c2b0 : decide (48 ≤ a0) = true := decide_eq_true c2
    clear c2
    obtain rfl := Option.some.inj H
    go_enter Tryd.func44, Tryd.ntmps44
    go_wp2
    go_ret
    exact ⟨by first | rfl | (simp; done) | (simp [*]; done) | (simp; generalize ByteArray.toList _ = l_; cases l_ <;> rfl), by repeat (first | exact Drawn0.refl _ | apply Drawn0.step)⟩
  · rw [if_neg c2] at H
    have c2b0 : decide (48 ≤ a0) = false := decide_eq_false c2
    clear c2
    obtain rfl := Option.some.inj H
    go_enter Tryd.func44, Tryd.ntmps44
    go_wp2
    go_ret
    exact ⟨by first | rfl | (simp; done) | (simp [*]; done) | (simp; generalize ByteArray.toList _ = l_; cases l_ <;> rfl), by repeat (first | exact Drawn0.refl _ | apply Drawn0.step)⟩

end Go.Proofs.YthmpapnhomngnaaDoor.A
