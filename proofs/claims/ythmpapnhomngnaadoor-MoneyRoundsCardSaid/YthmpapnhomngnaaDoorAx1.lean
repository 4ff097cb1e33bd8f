-- By gen.py, a program of this session's, over the print's forms: not the print's own text.
import Derived.Test.YthmpapnhomngnaaDoorAx0
import Derived.Test.YthmpapnhomngnaaDoorAx15
namespace Go.Proofs.YthmpapnhomngnaaDoor.A
open Go.RowKit Go.Proofs.YthmpapnhomngnaaDoor.B Go.Proofs.YthmpapnhomngnaaDoorW.PrintWords Go.Proofs.YthmpapnhomngnaaDoorW.PrintLast Go.Proofs.YthmpapnhomngnaaDoorW.PrintMore
attribute [local go_sem] max2_int min2_int max_two min_two max_three min_three max_four min_four   -- for this text's walks alone
set_option linter.unusedVariables false
set_option linter.unusedSimpArgs false

/-! ### money_fits: function 24 -/
def money_fits.f (a0 : Int) : Option (Bool) := if a0 ≥ 0 then (some (decide (a0 ≤ 4))) else (some false)
set_option maxHeartbeats 8000000 in
set_option maxRecDepth 100000 in
theorem money_fits.calls (a0 : Int) (r : Bool) (w : World) (h : money_fits.f a0 = some r) :
    Calls Tryd.prog 24 #[.int .i64 a0] w fun e w' => e = .returned (.bool r) ∧ Drawn0 w w' := by
  have H : (if a0 ≥ 0 then (some (decide (a0 ≤ 4))) else (some false)) = some r := h
  clear h
  by_cases c2 : a0 ≥ 0
  · rw [if_pos c2] at H
    have c2b0 : decide (0 ≤ a0) = true := decide_eq_true c2
    clear c2
    obtain rfl := Option.some.inj H
    go_enter Tryd.func24, Tryd.ntmps24
    go_wp2
    go_ret
    exact ⟨by first | rfl | (simp; done) | (simp [*]; done) | (simp; generalize ByteArray.toList _ = l_; cases l_ <;> rfl), by repeat (first | exact Drawn0.refl _ | apply Drawn0.step)⟩
  · rw [if_neg c2] at H
    have c2b0 : decide (0 ≤ a0) = false := decide_eq_false c2
    clear c2
    obtain rfl := Option.some.inj H
    go_enter Tryd.func24, Tryd.ntmps24
    go_wp2
    go_ret
    exact ⟨by first | rfl | (simp; done) | (simp [*]; done) | (simp; generalize ByteArray.toList _ = l_; cases l_ <;> rfl), by repeat (first | exact Drawn0.refl _ | apply Drawn0.step)⟩

/-! ### money_far: function 25 -/
def money_far.f (a0 : Int) : Option (Bool) := if a0 > 1000000000000000 then (some true) else (some (decide (a0 < (-1000000000000000))))
set_option maxHeartbeats 8000000 in
set_option maxRecDepth 100000 in
theorem money_far.calls (a0 : Int) (r : Bool) (w : World) (h : money_far.f a0 = some r) :
    Calls Tryd.prog 25 #[.int .i64 a0] w fun e w' => e = .returned (.bool r) ∧ Drawn0 w w' := by
  have H : (if a0 > 1000000000000000 then (some true) else (some (decide (a0 < (-1000000000000000))))) = some r := h
  clear h
  by_cases c2 : a0 > 1000000000000000
  · rw [if_pos c2] at H
    have c2b0 : decide (1000000000000000 < a0) = true := decide_eq_true c2
    clear c2
    obtain rfl := Option.some.inj H
    go_enter Tryd.func25, Tryd.ntmps25
    go_wp2
    go_ret
    exact ⟨by first | rfl | (simp; done) | (simp [*]; done) | (simp; generalize ByteArray.toList _ = l_; cases l_ <;> rfl), by repeat (first | exact Drawn0.refl _ | apply Drawn0.step)⟩
  · rw [if_neg c2] at H
    have c2b0 : decide (1000000000000000 < a0) = false := decide_eq_false c2
    clear c2
    obtain rfl := Option.some.inj H
    go_enter Tryd.func25, Tryd.ntmps25
    go_wp2
    go_ret
    exact ⟨by first | rfl | (simp; done) | (simp [*]; done) | (simp; generalize ByteArray.toList _ = l_; cases l_ <;> rfl), by repeat (first | exact Drawn0.refl _ | apply Drawn0.step)⟩

theorem fits_any (c : Int) (w : World) : Calls Tryd.prog 24 #[.int .i64 c] w fun e w' => e = .returned (.bool (decide (0 ≤ c) && decide (c ≤ 4))) ∧ w = w' := by
  by_cases h1 : 0 ≤ c
  · go_enter Tryd.func24, Tryd.ntmps24
    go_wp2
    go_ret
    exact ⟨ret_bool (by simp [h1]), rfl⟩
  · go_enter Tryd.func24, Tryd.ntmps24
    go_wp2
    go_ret
    exact ⟨ret_bool (by simp; omega), rfl⟩
theorem far_any (c : Int) (w : World) : Calls Tryd.prog 25 #[.int .i64 c] w fun e w' => e = .returned (.bool (decide (1000000000000000 < c) || decide (c < -1000000000000000))) ∧ w = w' := by
  by_cases h1 : 1000000000000000 < c
  · go_enter Tryd.func25, Tryd.ntmps25
    go_wp2
    go_ret
    exact ⟨ret_bool (by simp [h1]), rfl⟩
  · go_enter Tryd.func25, Tryd.ntmps25
    go_wp2
    go_ret
    exact ⟨ret_bool (by simp; omega), rfl⟩


/-! ### muldiv_multiply: function 37 (by hand) -/
set_option maxHeartbeats 1600000 in
set_option maxRecDepth 100000 in
theorem mulx (x y : Nat) (hx : x < 18446744073709551616) (hy : y < 18446744073709551616) (w : World) :
    Calls Tryd.prog 37 #[.int .u64 x, .int .u64 y] w fun e w' => e = .returned (.agg #[.int .u64 ((x * y / 18446744073709551616 : Nat) : Int), .int .u64 ((x * y % 18446744073709551616 : Nat) : Int)]) ∧ w' = w.alloc (.cells #[.int .u64 ((x * y / 18446744073709551616 : Nat) : Int), .int .u64 ((x * y % 18446744073709551616 : Nat) : Int)] 59) := by
  obtain ⟨bd, bt, bw, hhi⟩ := Lib.mul64_hi x y hx hy
  have ba := Lib.half_mul_le (a := x / 4294967296) (b := y / 4294967296) (by omega) (by omega)
  have bb := Lib.half_mul_le (a := x / 4294967296) (b := y % 4294967296) (by omega) (by omega)
  have bc := Lib.half_mul_le (a := x % 4294967296) (b := y / 4294967296) (by omega) (by omega)
  have ba' : x / 4294967296 * (y / 4294967296) < 18446744073709551616 := by omega
  have bb' : x / 4294967296 * (y % 4294967296) < 18446744073709551616 := by omega
  have bc' : x % 4294967296 * (y / 4294967296) < 18446744073709551616 := by omega
  have bw' : x % 4294967296 * (y / 4294967296) + (x / 4294967296 * (y % 4294967296) + x % 4294967296 * (y % 4294967296) / 4294967296) % 4294967296 < 18446744073709551616 := by omega
  have bh1 : x / 4294967296 * (y / 4294967296) + (x / 4294967296 * (y % 4294967296) + x % 4294967296 * (y % 4294967296) / 4294967296) / 4294967296 < 18446744073709551616 := by omega
  have bh : x / 4294967296 * (y / 4294967296) + (x / 4294967296 * (y % 4294967296) + x % 4294967296 * (y % 4294967296) / 4294967296) / 4294967296 + (x % 4294967296 * (y / 4294967296) + (x / 4294967296 * (y % 4294967296) + x % 4294967296 * (y % 4294967296) / 4294967296) % 4294967296) / 4294967296 < 18446744073709551616 := by omega
  have hhi' : x / 4294967296 * (y / 4294967296) + (x / 4294967296 * (y % 4294967296) + x % 4294967296 * (y % 4294967296) / 4294967296) / 4294967296 + (x % 4294967296 * (y / 4294967296) + (x / 4294967296 * (y % 4294967296) + x % 4294967296 * (y % 4294967296) / 4294967296) % 4294967296) / 4294967296 = x * y / 18446744073709551616 := by rw [← hhi, Nat.add_comm (x % 4294967296 * (y / 4294967296))]
  have hlo := mul_lo x y
  have hH : x * y / 18446744073709551616 < 18446744073709551616 := by rw [← hhi']; exact bh
  generalize x * y / 18446744073709551616 = hi at hhi' hH hhi
  generalize hlo9 : x * y % 18446744073709551616 = lo at hlo
  have H := Aside0.mk (And.intro bd (And.intro bt (And.intro bw' (And.intro ba' (And.intro bb' (And.intro bc' (And.intro bh1 (And.intro bh (And.intro hhi' (And.intro hlo hH))))))))))
  clear bd bt bw hhi ba bb bc ba' bb' bc' bw' bh1 bh hhi' hlo hlo9 hH
  go_enter Tryd.func37, Tryd.ntmps37
  go_wp2_with fail
  obtain ⟨bd, bt, bw', ba', bb', bc', bh1, bh, hhi', hlo, hH⟩ := H.out
  simp only [m64_maskN x hx, m64_maskN y hy, m64_divN, m64_mulN, m64_addN, m64_wrapN _ bd, m64_maskN _ bd, m64_wrapN _ bb', m64_wrapN _ bt, m64_maskN _ bt, m64_wrapN _ bc', m64_wrapN _ bw', m64_wrapN _ ba', m64_wrapN _ bh1, m64_wrapN _ bh, m64_wrapN _ hH, m64_shl, m64_join _ _ (Nat.mod_lt _ (show 0 < 4294967296 by decide)) (Nat.mod_lt _ (show 0 < 4294967296 by decide)), hhi', hlo]
  exact bodyPost_ret (v := .agg #[.int .u64 (hi : Int), .int .u64 (lo : Int)]) (by simp [results, Tryd.results37, go_sem]) rfl ⟨rfl, by simp [World.setCell_alloc_at]⟩


/-! ### muldiv_magnitude: function 38 (by hand) -/
def muldiv_magnitude.f (a0 : Int) : Option (Int) := if I64 a0 then some (a0.natAbs : Int) else none
theorem mag (a0 : Int) (hb : I64 a0) (w : World) : Calls Tryd.prog 38 #[.int .i64 a0] w fun e w' => e = .returned (.int .u64 (a0.natAbs : Int)) ∧ w = w' := by
  obtain ⟨h0, h1⟩ := hb
  by_cases h : a0 < 0
  · go_enter Tryd.func38, Tryd.ntmps38
    go_wp2
    go_ret
    exact ⟨ret_int (by rw [wu64, wu64]; omega), rfl⟩
  · go_enter Tryd.func38, Tryd.ntmps38
    go_wp2
    go_ret
    exact ⟨ret_int (by omega), rfl⟩
theorem muldiv_magnitude.calls (a0 : Int) (r : Int) (w : World) (h : muldiv_magnitude.f a0 = some r) :
    Calls Tryd.prog 38 #[.int .i64 a0] w fun e w' => e = .returned (.int .u64 r) ∧ Drawn0 w w' := by
  unfold muldiv_magnitude.f at h
  split at h <;> simp only [Option.some.injEq, reduceCtorEq] at h
  rename_i hb
  subst h
  refine (mag a0 hb w).mono ?_
  rintro e w' ⟨rfl, rfl⟩
  exact ⟨rfl, Drawn0.refl _⟩


end Go.Proofs.YthmpapnhomngnaaDoor.A
