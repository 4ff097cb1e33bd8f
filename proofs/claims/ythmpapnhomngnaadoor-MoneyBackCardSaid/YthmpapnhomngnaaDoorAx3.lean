-- By gen.py, a program of this session's, over the print's forms: not the print's own text.
import Derived.Test.YthmpapnhomngnaaDoorAx0
namespace Go.Proofs.YthmpapnhomngnaaDoor.A
open Go.RowKit Go.Proofs.YthmpapnhomngnaaDoor.B Go.Proofs.YthmpapnhomngnaaDoorW.PrintWords Go.Proofs.YthmpapnhomngnaaDoorW.PrintLast Go.Proofs.YthmpapnhomngnaaDoorW.PrintMore
attribute [local go_sem] max2_int min2_int max_two min_two max_three min_three max_four min_four   -- for this text's walks alone
set_option linter.unusedVariables false
set_option linter.unusedSimpArgs false

/-! ### muldiv_away: function 40 (by hand) -/
def muldiv_away.f (a0 : Int) (a1 : Bool) (a2 : Bool) (a3 : Int) (a4 : Int) : Option (Bool) := if 0 ≤ a3 ∧ a3 < a4 ∧ a4 < 18446744073709551616 then some (mdAway a0 a1 a2 a3.toNat a4.toNat) else none
set_option maxHeartbeats 1600000 in
theorem away_any (mode : Int) (neg odd : Bool) (r c : Nat) (hr : r < c) (hc : c < 18446744073709551616) (w : World) :
    Calls Tryd.prog 40 #[.int .i64 mode, .bool neg, .bool odd, .int .u64 (r : Int), .int .u64 (c : Int)] w fun e w' => e = .returned (.bool (mdAway mode neg odd r c)) ∧ w = w' := by
  obtain ⟨q, hq⟩ : ∃ q, q = mdAway mode neg odd r c := ⟨_, rfl⟩
  rw [← hq]
  unfold mdAway at hq
  obtain ⟨s, hs⟩ : ∃ s : Nat, s = c - r := ⟨_, rfl⟩
  have hw : IntKind.u64.wrap ((c : Int) - (r : Int)) = (s : Int) := by rw [wu64]; omega
  rw [← hs] at hq
  clear hs
  by_cases h0 : r = 0
  · have hr0 : ((r : Int) == 0) = true := by rw [beq_iff_eq]; omega
    simp only [h0, ne_eq, not_true_eq_false, decide_false, Bool.false_and] at hq
    subst hq
    clear h0
    go_enter Tryd.func40, Tryd.ntmps40
    go_wp2
    go_ret
    exact ⟨rfl, rfl⟩
  · have hr0 : ((r : Int) == 0) = false := by rw [beq_eq_false_iff_ne]; omega
    simp only [h0, ne_eq, not_false_eq_true, decide_true, Bool.true_and] at hq
    clear h0
    by_cases m2 : mode = 2
    · subst m2
      simp at hq
      subst hq
      go_enter Tryd.func40, Tryd.ntmps40
      go_wp2
      go_ret
      exact ⟨rfl, rfl⟩
    · have e2 : (mode == 2) = false := by rw [beq_eq_false_iff_ne]; exact m2
      by_cases m3 : mode = 3
      · subst m3
        simp at hq
        have HQ := Aside0.mk hq
        clear hq m2 e2
        go_enter Tryd.func40, Tryd.ntmps40
        go_wp2
        go_ret
        exact ⟨ret_bool (by rw [HQ.out]; (try simp)), rfl⟩
      · have e3 : (mode == 3) = false := by rw [beq_eq_false_iff_ne]; exact m3
        by_cases m4 : mode = 4
        · subst m4
          simp at hq
          have HQ := Aside0.mk hq
          clear hq m2 m3 e2 e3
          by_cases g1 : s < r
          · go_enter Tryd.func40, Tryd.ntmps40
            go_wp2
            go_ret
            exact ⟨ret_bool (by rw [HQ.out]; simp [g1]), rfl⟩
          · by_cases g2 : r = s
            · have g3 : ((r : Int) == (s : Int)) = true := by rw [beq_iff_eq]; omega
              have HG := Aside0.mk g2
              clear g2
              go_enter Tryd.func40, Tryd.ntmps40
              go_wp2
              go_ret
              exact ⟨ret_bool (by rw [HQ.out, HG.out]; simp), rfl⟩
            · have g3 : ((r : Int) == (s : Int)) = false := by rw [beq_eq_false_iff_ne]; omega
              go_enter Tryd.func40, Tryd.ntmps40
              go_wp2
              go_ret
              exact ⟨ret_bool (by rw [HQ.out]; simp [g1, g2]), rfl⟩
        · have e4 : (mode == 4) = false := by rw [beq_eq_false_iff_ne]; exact m4
          by_cases m5 : mode = 5
          · subst m5
            simp at hq
            subst hq
            clear m2 m3 m4 e2 e3 e4
            go_enter Tryd.func40, Tryd.ntmps40
            go_wp2
            go_ret
            exact ⟨rfl, rfl⟩
          · have e5 : (mode == 5) = false := by rw [beq_eq_false_iff_ne]; exact m5
            simp [m2, m3, m4, m5] at hq
            subst hq
            clear m2 m3 m4 m5
            go_enter Tryd.func40, Tryd.ntmps40
            go_wp2
            go_ret
            exact ⟨rfl, rfl⟩
theorem muldiv_away.calls (a0 : Int) (a1 : Bool) (a2 : Bool) (a3 : Int) (a4 : Int) (r : Bool) (w : World) (h : muldiv_away.f a0 a1 a2 a3 a4 = some r) :
    Calls Tryd.prog 40 #[.int .i64 a0, .bool a1, .bool a2, .int .u64 a3, .int .u64 a4] w fun e w' => e = .returned (.bool r) ∧ Drawn0 w w' := by
  unfold muldiv_away.f at h
  split at h <;> simp only [Option.some.injEq, reduceCtorEq] at h
  rename_i hb
  obtain ⟨h0, h1, h2⟩ := hb
  obtain ⟨x, rfl⟩ := Int.eq_ofNat_of_zero_le h0
  obtain ⟨y, rfl⟩ := Int.eq_ofNat_of_zero_le (show 0 ≤ a4 by omega)
  subst h
  refine (away_any a0 a1 a2 x y (by omega) (by omega) w).mono ?_
  rintro e w' ⟨rfl, rfl⟩
  exact ⟨rfl, Drawn0.refl _⟩


/-! ### muldiv_signed: function 41 (by hand) -/
def muldiv_signed.f (a0 : Bool) (a1 : Int) : Option (Int × Int) := if 0 ≤ a1 ∧ a1 < 18446744073709551616 then some (mdSigned a0 a1.toNat) else none
set_option maxHeartbeats 1600000 in
set_option maxRecDepth 100000 in
theorem signed_any (neg : Bool) (size : Nat) (h : size < 18446744073709551616) (w : World) :
    Calls Tryd.prog 41 #[.bool neg, .int .u64 (size : Int)] w fun e w' => e = .returned (.tuple #[.int .i64 (mdSigned neg size).1, .int .i64 (mdSigned neg size).2]) ∧ w = w' := by
  obtain ⟨m, hm⟩ : ∃ m, m = mdSigned neg size := ⟨_, rfl⟩
  rw [← hm]
  unfold mdSigned at hm
  cases neg
  · rw [if_neg (by decide)] at hm
    by_cases h1 : 9223372036854775808 ≤ size
    · rw [if_pos h1] at hm
      subst hm
      have h1' : decide ((9223372036854775808 : Int) ≤ size) = true := decide_eq_true (by omega)
      clear h1
      go_enter Tryd.func41, Tryd.ntmps41
      go_wp2
      go_ret2
      exact ⟨rfl, rfl⟩
    · rw [if_neg h1] at hm
      subst hm
      have h1' : decide ((9223372036854775808 : Int) ≤ size) = false := decide_eq_false (by omega)
      have hz1 : (size : Int) < 9223372036854775808 := by omega
      clear h1
      go_enter Tryd.func41, Tryd.ntmps41
      go_wp2
      go_ret2
      exact ⟨rfl, rfl⟩
  · rw [if_pos rfl] at hm
    by_cases h1 : 9223372036854775808 < size
    · rw [if_pos h1] at hm
      subst hm
      have h1' : (9223372036854775808 : Int) < size := by omega
      clear h1
      go_enter Tryd.func41, Tryd.ntmps41
      go_wp2
      go_ret2
      exact ⟨rfl, rfl⟩
    · rw [if_neg h1] at hm
      obtain ⟨z, hz⟩ : ∃ z : Int, z = -(size : Int) := ⟨_, rfl⟩
      obtain ⟨u, hu⟩ : ∃ u : Int, IntKind.u64.wrap ((size : Int) - 1) = u := ⟨_, rfl⟩
      obtain ⟨v, hv⟩ : ∃ v : Int, wrap64 u = v := ⟨_, rfl⟩
      have eu : u = (if size = 0 then 18446744073709551615 else (size : Int) - 1) := by rw [← hu, wu64]; split <;> omega
      have ev : v = (size : Int) - 1 := by rw [← hv, eu]; unfold wrap64; split <;> omega
      have e1 : -1 ≤ v := by omega
      have e2 : v ≤ 9223372036854775807 := by omega
      rw [← hz] at hm
      have HZ := Aside0.mk (show -v - 1 = z by omega)
      have HM := Aside0.mk hm
      have h1' : (size : Int) ≤ 9223372036854775808 := by omega
      clear ev eu hz hm h1
      go_enter Tryd.func41, Tryd.ntmps41
      go_wp2
      go_ret2
      exact ⟨by rw [HM.out, ← HZ.out]; rfl, rfl⟩
theorem muldiv_signed.calls (a0 : Bool) (a1 : Int) (r1 : Int) (r2 : Int) (w : World) (h : muldiv_signed.f a0 a1 = some (r1, r2)) :
    Calls Tryd.prog 41 #[.bool a0, .int .u64 a1] w fun e w' => e = .returned (.tuple #[.int .i64 r1, .int .i64 r2]) ∧ Drawn0 w w' := by
  unfold muldiv_signed.f at h
  split at h <;> simp only [Option.some.injEq, reduceCtorEq] at h
  rename_i hb
  obtain ⟨x, rfl⟩ := Int.eq_ofNat_of_zero_le hb.1
  refine (signed_any a0 x (by omega) w).mono ?_
  rintro e w' ⟨rfl, rfl⟩
  exact ⟨by rw [Int.toNat_natCast] at h; rw [h], Drawn0.refl _⟩


end Go.Proofs.YthmpapnhomngnaaDoor.A
