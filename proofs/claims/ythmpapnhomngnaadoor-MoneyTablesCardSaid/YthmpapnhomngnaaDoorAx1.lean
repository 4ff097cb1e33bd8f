-- By gen.py, a program of this session's, over the print's forms: not the print's own text.
import Derived.Test.YthmpapnhomngnaaDoorAx0
import Derived.Test.YthmpapnhomngnaaDoorQ
namespace Go.Proofs.YthmpapnhomngnaaDoor.A
open Go.RowKit Go.Proofs.YthmpapnhomngnaaDoor.B Go.Proofs.YthmpapnhomngnaaDoorW.PrintWords Go.Proofs.YthmpapnhomngnaaDoorW.PrintLast Go.Proofs.YthmpapnhomngnaaDoorW.PrintMore
attribute [local go_sem] max2_int min2_int max_two min_two max_three min_three max_four min_four   -- for this text's walks alone
set_option linter.unusedVariables false
set_option linter.unusedSimpArgs false

/-! ### money_fits: function 24 -/
def money_fits.f (a0 : Int) : Option (Bool) := if a0 ≥ 0 then (some (decide (a0 ≤ 4))) else (some false)
set_option maxHeartbeats 8000000 in
set_option maxRecDepth 100000 in
theorem money_fits.calls (a0 : Int) (r : Bool) (w : World) (h : money_fits.f a0 = some r) :
  Calls Tryd.prog 24 #[.int .i64 a0] w fun e w' => e = .returned (.bool r) ∧ Drawn0 w w' := by
 have H : (if a0 ≥ 0 then (some (decide (a0 ≤ 4))) else (some false)) = some r := h
 clear h
 by_cases c2 : a0 ≥ 0
 ·rw [if_pos c2] at H
  have c2b0 : decide (0 ≤ a0) = true := decide_eq_true c2
  clear c2
  obtain rfl := Option.some.inj H
  go_enter Tryd.func24, Tryd.ntmps24
  go_wp2
  go_ret
  exact ⟨zq1, zq2⟩
 ·rw [if_neg c2] at H
  have c2b0 : decide (0 ≤ a0) = false := decide_eq_false c2
  clear c2
  obtain rfl := Option.some.inj H
  go_enter Tryd.func24, Tryd.ntmps24
  go_wp2
  go_ret
  exact ⟨zq1, zq2⟩

/-! ### money_far: function 25 -/
def money_far.f (a0 : Int) : Option (Bool) := if a0 > 1000000000000000 then (some true) else (some (decide (a0 < (-1000000000000000))))
set_option maxHeartbeats 8000000 in
set_option maxRecDepth 100000 in
theorem money_far.calls (a0 : Int) (r : Bool) (w : World) (h : money_far.f a0 = some r) :
  Calls Tryd.prog 25 #[.int .i64 a0] w fun e w' => e = .returned (.bool r) ∧ Drawn0 w w' := by
 have H : (if a0 > 1000000000000000 then (some true) else (some (decide (a0 < (-1000000000000000))))) = some r := h
 clear h
 by_cases c2 : a0 > 1000000000000000
 ·rw [if_pos c2] at H
  have c2b0 : decide (1000000000000000 < a0) = true := decide_eq_true c2
  clear c2
  obtain rfl := Option.some.inj H
  go_enter Tryd.func25, Tryd.ntmps25
  go_wp2
  go_ret
  exact ⟨zq1, zq2⟩
 ·rw [if_neg c2] at H
  have c2b0 : decide (1000000000000000 < a0) = false := decide_eq_false c2
  clear c2
  obtain rfl := Option.some.inj H
  go_enter Tryd.func25, Tryd.ntmps25
  go_wp2
  go_ret
  exact ⟨zq1, zq2⟩

theorem fits_any (c : Int) (w : World) : Calls Tryd.prog 24 #[.int .i64 c] w fun e w' => e = .returned (.bool (decide (0 ≤ c) && decide (c ≤ 4))) ∧ w = w' := by
 by_cases h1 : 0 ≤ c
 ·go_enter Tryd.func24, Tryd.ntmps24
  go_wp2
  go_ret
  exact ⟨ret_bool (by simp [h1]), rfl⟩
 ·go_enter Tryd.func24, Tryd.ntmps24
  go_wp2
  go_ret
  exact ⟨ret_bool (by simp; omega), rfl⟩
theorem far_any (c : Int) (w : World) : Calls Tryd.prog 25 #[.int .i64 c] w fun e w' => e = .returned (.bool (decide (1000000000000000 < c) || decide (c < -1000000000000000))) ∧ w = w' := by
 by_cases h1 : 1000000000000000 < c
 ·go_enter Tryd.func25, Tryd.ntmps25
  go_wp2
  go_ret
  exact ⟨ret_bool (by simp [h1]), rfl⟩
 ·go_enter Tryd.func25, Tryd.ntmps25
  go_wp2
  go_ret
  exact ⟨ret_bool (by simp; omega), rfl⟩


/-! ### bits_Mul64: function 50 (by hand) -/
def bits_Mul64.f (a0 : Int) (a1 : Int) : Option (Int × Int) := if 0 ≤ a0 ∧ a0 < 18446744073709551616 ∧ 0 ≤ a1 ∧ a1 < 18446744073709551616 then some (a0 * a1 / 18446744073709551616, a0 * a1 % 18446744073709551616) else none
theorem m64_maskN (a : Nat) (ha : a < 18446744073709551616) : bits .and .u64 (a : Int) 4294967295 = ((a % 4294967296 : Nat) : Int) := by
 have h := bits_and_u64_nat a 4294967295 ha (by omega)
 have e : a &&& 4294967295 = a % 4294967296 := Nat.and_two_pow_sub_one_eq_mod a 32
 rw [e] at h
 exact h
theorem m64_divN (a : Nat) : (a : Int) / 4294967296 = ((a / 4294967296 : Nat) : Int) := by omega
theorem m64_mulN (a b : Nat) : (a : Int) * (b : Int) = ((a * b : Nat) : Int) := (Int.natCast_mul a b).symm
theorem m64_addN (a b : Nat) : (a : Int) + (b : Int) = ((a + b : Nat) : Int) := (Int.natCast_add a b).symm
theorem m64_wrapN (a : Nat) (ha : a < 18446744073709551616) : IntKind.u64.wrap (a : Int) = (a : Int) := by rw [IntKind.wrap_u64]; omega
theorem m64_wrapM (a : Nat) : IntKind.u64.wrap (a : Int) = ((a % 18446744073709551616 : Nat) : Int) := by rw [IntKind.wrap_u64]; omega
set_option maxHeartbeats 1000000 in
theorem bits_Mul64.nat (x y : Nat) (hx : x < 18446744073709551616) (hy : y < 18446744073709551616) (w : World) :
  Calls Tryd.prog 50 #[.int .u64 x, .int .u64 y] w fun e w' => e = .returned (.tuple #[.int .u64 ((x * y / 18446744073709551616 : Nat) : Int), .int .u64 ((x * y % 18446744073709551616 : Nat) : Int)]) ∧ w' = w := by
 obtain ⟨bd, bt, bw, hhi⟩ := Lib.mul64_hi x y hx hy
 have ba := Lib.half_mul_le (a := x / 4294967296) (b := y / 4294967296) (by omega) (by omega)
 have bb := Lib.half_mul_le (a := x / 4294967296) (b := y % 4294967296) (by omega) (by omega)
 have bc := Lib.half_mul_le (a := x % 4294967296) (b := y / 4294967296) (by omega) (by omega)
 have ba' : x / 4294967296 * (y / 4294967296) < 18446744073709551616 := by omega
 have bb' : x / 4294967296 * (y % 4294967296) < 18446744073709551616 := by omega
 have bc' : x % 4294967296 * (y / 4294967296) < 18446744073709551616 := by omega
 have bh1 : x / 4294967296 * (y / 4294967296) + (x / 4294967296 * (y % 4294967296) + x % 4294967296 * (y % 4294967296) / 4294967296) / 4294967296 < 18446744073709551616 := by omega
 have bh : x / 4294967296 * (y / 4294967296) + (x / 4294967296 * (y % 4294967296) + x % 4294967296 * (y % 4294967296) / 4294967296) / 4294967296 + ((x / 4294967296 * (y % 4294967296) + x % 4294967296 * (y % 4294967296) / 4294967296) % 4294967296 + x % 4294967296 * (y / 4294967296)) / 4294967296 < 18446744073709551616 := by omega
 go_enter Tryd.func50, Tryd.ntmps50
 go_wp2
 simp only [m64_maskN x hx, m64_maskN y hy, m64_divN, m64_mulN, m64_addN, m64_wrapN _ bd, m64_wrapN _ bb', m64_wrapN _ bt, m64_maskN _ bt, m64_wrapN _ bc', m64_wrapN _ bw, m64_wrapN _ ba', m64_wrapN _ bh1, m64_wrapN _ bh, m64_wrapM (x * y)]
 rw [hhi]
 go_ret2
 exact ⟨rfl, rfl⟩
theorem bits_Mul64.calls (a0 : Int) (a1 : Int) (r1 : Int) (r2 : Int) (w : World) (h : bits_Mul64.f a0 a1 = some (r1, r2)) :
  Calls Tryd.prog 50 #[.int .u64 a0, .int .u64 a1] w fun e w' => e = .returned (.tuple #[.int .u64 r1, .int .u64 r2]) ∧ Drawn0 w w' := by
 unfold bits_Mul64.f at h
 split at h <;> simp only [Option.some.injEq, Prod.mk.injEq, reduceCtorEq] at h
 rename_i hb
 obtain ⟨rfl, rfl⟩ := h
 obtain ⟨x, rfl⟩ := Int.eq_ofNat_of_zero_le hb.1
 obtain ⟨y, rfl⟩ := Int.eq_ofNat_of_zero_le hb.2.2.1
 refine (bits_Mul64.nat x y (by omega) (by omega) w).mono ?_
 rintro e w' ⟨rfl, rfl⟩
 exact ⟨by rw [m64_mulN]; rfl, Drawn0.refl _⟩


/-! ### muldiv_multiply: function 37 (by hand) -/
set_option maxHeartbeats 1600000 in
set_option maxRecDepth 100000 in
theorem mulx (x y : Nat) (hx : x < 18446744073709551616) (hy : y < 18446744073709551616) (w : World) :
  Calls Tryd.prog 37 #[.int .u64 x, .int .u64 y] w fun e w' => e = .returned (.agg #[.int .u64 ((x * y / 18446744073709551616 : Nat) : Int), .int .u64 ((x * y % 18446744073709551616 : Nat) : Int)]) ∧ w' = w.alloc (.cells #[.int .u64 ((x * y / 18446744073709551616 : Nat) : Int), .int .u64 ((x * y % 18446744073709551616 : Nat) : Int)] 59) := by
 obtain ⟨bd, bt, bw, hhi⟩ := Lib.mul64_hi x y hx hy
 have ba := Lib.half_mul_le (a := x / 4294967296) (b := y / 4294967296) (by omega) (by omega)
 have bb := Lib.half_mul_le (a := x / 4294967296) (b := y % 4294967296) (by omega) (by omega)
 have bc := Lib.half_mul_le (a := x % 4294967296) (b := y / 4294967296) (by omega) (by omega)
 have ba' : x / 4294967296 * (y / 4294967296) < 18446744073709551616 := by omega
 have bb' : x / 4294967296 * (y % 4294967296) < 18446744073709551616 := by omega
 have bc' : x % 4294967296 * (y / 4294967296) < 18446744073709551616 := by omega
 have bw' : x % 4294967296 * (y / 4294967296) + (x / 4294967296 * (y % 4294967296) + x % 4294967296 * (y % 4294967296) / 4294967296) % 4294967296 < 18446744073709551616 := by omega
 have bh1 : x / 4294967296 * (y / 4294967296) + (x / 4294967296 * (y % 4294967296) + x % 4294967296 * (y % 4294967296) / 4294967296) / 4294967296 < 18446744073709551616 := by omega
 have bh : x / 4294967296 * (y / 4294967296) + (x / 4294967296 * (y % 4294967296) + x % 4294967296 * (y % 4294967296) / 4294967296) / 4294967296 + (x % 4294967296 * (y / 4294967296) + (x / 4294967296 * (y % 4294967296) + x % 4294967296 * (y % 4294967296) / 4294967296) % 4294967296) / 4294967296 < 18446744073709551616 := by omega
 have hhi' : x / 4294967296 * (y / 4294967296) + (x / 4294967296 * (y % 4294967296) + x % 4294967296 * (y % 4294967296) / 4294967296) / 4294967296 + (x % 4294967296 * (y / 4294967296) + (x / 4294967296 * (y % 4294967296) + x % 4294967296 * (y % 4294967296) / 4294967296) % 4294967296) / 4294967296 = x * y / 18446744073709551616 := by rw [← hhi, Nat.add_comm (x % 4294967296 * (y / 4294967296))]
 have hlo := mul_lo x y
 have hH : x * y / 18446744073709551616 < 18446744073709551616 := by rw [← hhi']; exact bh
 generalize x * y / 18446744073709551616 = hi at hhi' hH hhi
 generalize hlo9 : x * y % 18446744073709551616 = lo at hlo
 have H := Aside0.mk (And.intro bd (And.intro bt (And.intro bw' (And.intro ba' (And.intro bb' (And.intro bc' (And.intro bh1 (And.intro bh (And.intro hhi' (And.intro hlo hH))))))))))
 clear bd bt bw hhi ba bb bc ba' bb' bc' bw' bh1 bh hhi' hlo hlo9 hH
 go_enter Tryd.func37, Tryd.ntmps37
 go_wp2_with fail
 obtain ⟨bd, bt, bw', ba', bb', bc', bh1, bh, hhi', hlo, hH⟩ := H.out
 simp only [m64_maskN x hx, m64_maskN y hy, m64_divN, m64_mulN, m64_addN, m64_wrapN _ bd, m64_maskN _ bd, m64_wrapN _ bb', m64_wrapN _ bt, m64_maskN _ bt, m64_wrapN _ bc', m64_wrapN _ bw', m64_wrapN _ ba', m64_wrapN _ bh1, m64_wrapN _ bh, m64_wrapN _ hH, m64_shl, m64_join _ _ (Nat.mod_lt _ (show 0 < 4294967296 by decide)) (Nat.mod_lt _ (show 0 < 4294967296 by decide)), hhi', hlo]
 exact bodyPost_ret (v := .agg #[.int .u64 (hi : Int), .int .u64 (lo : Int)]) (by simp [results, Tryd.results37, go_sem]) rfl ⟨rfl, by simp [World.setCell_alloc_at]⟩


/-! ### muldiv_magnitude: function 38 (by hand) -/
def muldiv_magnitude.f (a0 : Int) : Option (Int) := if I64 a0 then some (a0.natAbs : Int) else none
theorem mag (a0 : Int) (hb : I64 a0) (w : World) : Calls Tryd.prog 38 #[.int .i64 a0] w fun e w' => e = .returned (.int .u64 (a0.natAbs : Int)) ∧ w = w' := by
 obtain ⟨h0, h1⟩ := hb
 by_cases h : a0 < 0
 ·go_enter Tryd.func38, Tryd.ntmps38
  go_wp2
  go_ret
  exact ⟨ret_int (by rw [wu64, wu64]; omega), rfl⟩
 ·go_enter Tryd.func38, Tryd.ntmps38
  go_wp2
  go_ret
  exact ⟨ret_int (by omega), rfl⟩
theorem muldiv_magnitude.calls (a0 : Int) (r : Int) (w : World) (h : muldiv_magnitude.f a0 = some r) :
  Calls Tryd.prog 38 #[.int .i64 a0] w fun e w' => e = .returned (.int .u64 r) ∧ Drawn0 w w' := by
 unfold muldiv_magnitude.f at h
 split at h <;> simp only [Option.some.injEq, reduceCtorEq] at h
 rename_i hb
 subst h
 refine (mag a0 hb w).mono ?_
 rintro e w' ⟨rfl, rfl⟩
 exact ⟨rfl, Drawn0.refl _⟩


/-! ### muldiv_divide: function 39 (by hand) -/
set_option maxHeartbeats 6400000 in
set_option maxRecDepth 100000 in
theorem divide_calls (x y c : Nat) (hx : x < 18446744073709551616) (hy : y < 18446744073709551616) (hc : 0 < c) (hc2 : c < 18446744073709551616) (w : World) :
  Calls Tryd.prog 39 #[.agg #[.int .u64 x, .int .u64 y], .int .u64 c] w fun e w' => e = .returned (.tuple #[.agg #[.int .u64 ((x / c : Nat) : Int), .int .u64 (((x % c * 18446744073709551616 + y) / c : Nat) : Int)], .int .u64 (((x % c * 18446744073709551616 + y) % c : Nat) : Int)]) ∧ w' = (w.alloc (.cells #[.int .u64 x, .int .u64 y] 59)).alloc (.cells #[.int .u64 ((x / c : Nat) : Int), .int .u64 (((x % c * 18446744073709551616 + y) / c : Nat) : Int)] 59) := by
 go_enter Tryd.func39, Tryd.ntmps39
 go_wp2_with fail
 go_step3
 go_wp2_with fail
 go_step3
 go_wp2_with fail
 go_loopg [5, 11] 2 (fun g s5 s11 wr => ∃ (i : Nat) (r q0 q1 : Nat), i + g = 2 ∧ s11 = .int .i64 i ∧ s5 = .int .u64 r ∧ wr = (w.alloc (Obj.cells #[Value.int IntKind.u64 ↑x, Value.int IntKind.u64 ↑y] 59)).alloc (Obj.cells #[Value.int IntKind.u64 q0, Value.int IntKind.u64 q1] 59) ∧ Aside0 (DOut x y c i r q0 q1))
 case atStart => exact ⟨0, 0, 0, 0, rfl, rfl, rfl, rfl, ⟨⟨fun _ => ⟨rfl, rfl, rfl⟩, fun h => by omega, fun h => by omega⟩⟩⟩
 case round =>
  obtain ⟨i, r, q0, q1, hg, rfl, rfl, rfl, HO⟩ := hrel
  have h012 : i = 0 ∨ i = 1 ∨ i = 2 := by omega
  rcases h012 with rfl | rfl | rfl
  ·obtain ⟨rfl, rfl, rfl⟩ := HO.out.at0 rfl
   obtain rfl : gk = 2 := by omega
   have hi0 : ∀ W, (Instr.index 59 (Value.agg #[Value.int IntKind.u64 ↑x, Value.int IntKind.u64 ↑y]) (.int .i64 0)).run Tryd.prog W = .ok (.int .u64 x) W := fun _ => by kernel_rfl
   go_wp2_with fail
   go_loopg [5, 8] 64 (fun k s5 s8 wr => ∃ (Q r2 : Nat), s8 = .int .i64 ((k : Int) - 1) ∧ s5 = .int .u64 r2 ∧ wr = (w.alloc (Obj.cells #[Value.int IntKind.u64 ↑x, Value.int IntKind.u64 ↑y] 59)).alloc (Obj.cells #[Value.int IntKind.u64 Q, Value.int IntKind.u64 0] 59) ∧ Aside0 (DInv c 0 x k Q r2))
   case atStart => exact ⟨0, 0, rfl, rfl, rfl, ⟨DInv.start hc hx⟩⟩
   case round =>
    obtain ⟨Q, r2, rfl, rfl, rfl, HI⟩ := hrel
    cases gk with
    | zero =>
     obtain ⟨hd1, hd2⟩ := HI.out.done
     (try simp only [Nat.zero_mul, Nat.zero_add] at hd1 hd2)
     have HD := Aside0.mk (show DOut x y c (0 + 1) r2 Q 0 from ⟨fun h => by omega, fun _ => ⟨hd2, hd1, rfl⟩, fun h => by omega⟩)
     clear hd1 hd2
     go_wp2_with fail
     go_roundg 1
     case rel => exact ⟨0 + 1, r2, Q, 0, by omega, by go_num, rfl, rfl, HD⟩
     case measure => omega
    | succ k =>
     have hk := HI.out.le
     obtain ⟨b, s, t, cv, N⟩ := HI.out.nums hc2
     obtain ⟨hb, hs, ht, hcc, hq, hq1, hw⟩ := N
     have hN := HI.out.next
     obtain ⟨Q2, eQ2⟩ : ∃ Q2, Q2 = 2 * Q := ⟨_, rfl⟩
     obtain ⟨Q3, eQ3⟩ : ∃ Q3, Q3 = 2 * Q + 1 := ⟨_, rfl⟩
     rw [← eQ3] at hq1 hN
     rw [← eQ2] at hq hq1 hN
     have HN := Aside0.mk hN
     clear eQ2 eQ3 hN
     have HW := Aside0.mk hw
     clear hw
     have hlt := HI.out.lt
     obtain ⟨Z, hZ⟩ : ∃ Z, IntKind.u64.wrap ((x : Int) * 2 ^ (63 - k)) = Z := ⟨_, rfl⟩
     have HZ := Aside0.mk hZ
     by_cases hr0 : r2 = 0 ∧ Z = 0
     ·obtain ⟨h1, h2⟩ := hr0
      have eZ : x * 2 ^ (63 - k) % 18446744073709551616 = 0 := by
       have := HZ.out
       rw [h2, show ((x : Int) * 2 ^ (63 - k)) = ((x * 2 ^ (63 - k) : Nat) : Int) by simp, wu64n] at this
       omega
      have hE := DInv.early (by rw [← h1]; exact HI.out) eZ
      have hQ : IntKind.u64.wrap ((Q : Int) * 2 ^ (k + 1)) = ((Q * 2 ^ (k + 1) : Nat) : Int) := by
       rw [show ((Q : Int) * 2 ^ (k + 1)) = ((Q * 2 ^ (k + 1) : Nat) : Int) by simp, wu64n]
       have := hE.2; congr 1; omega
      obtain ⟨hd1, hd2⟩ := hE.1.done
      (try simp only [Nat.zero_mul, Nat.zero_add] at hd1 hd2)
      generalize Q * 2 ^ (k + 1) = Q9 at hQ hd1
      have HD := Aside0.mk (show DOut x y c (0 + 1) r2 Q9 0 from by rw [h1]; exact ⟨fun h => by omega, fun _ => ⟨hd2, hd1, rfl⟩, fun h => by omega⟩)
      clear eZ hE hd1 hd2 hb hs ht hcc hq hq1
      subst h1
      subst h2
      go_wp2_with fail
      go_roundg 1
      case rel => exact ⟨0 + 1, 0, Q9, 0, by omega, by go_num, rfl, rfl, HD⟩
      case measure => omega
     ·have hgo : (((r2 : Int) == 0) = false) ∨ (((r2 : Int) == 0) = true ∧ (Z == 0) = false) := by
       rw [beq_eq_false_iff_ne, beq_iff_eq, beq_eq_false_iff_ne]
       rcases Nat.eq_zero_or_pos r2 with h | h
       ·exact .inr ⟨by omega, fun hz => hr0 ⟨h, hz⟩⟩
       ·exact .inl (by omega)
      clear hr0
      rcases HW.out with ⟨h1, h2, h3⟩ | ⟨h1, h2, h3, h4⟩ | ⟨h1, h2, h3, h4⟩
      ·have HN1 := Aside0.mk (HN.out.1 h2)
       obtain ⟨r9, hr9⟩ : ∃ r9, r9 = 2 * r2 + x / 2 ^ k % 2 - c := ⟨_, rfl⟩
       rw [← hr9] at h3 HN1
       rw [h1] at hcc
       clear h1 h2 hr9 HW HN
       rcases hgo with hg0 | ⟨hg0, hg1⟩
       all_goals
        go_wp2_with fail
        go_roundg k
        case rel => exact ⟨Q3, r9, by go_num, rfl, rfl, HN1⟩
        case measure => omega
      ·have HN1 := Aside0.mk (HN.out.1 h3)
       obtain ⟨r9, hr9⟩ : ∃ r9, r9 = 2 * r2 + x / 2 ^ k % 2 - c := ⟨_, rfl⟩
       rw [← hr9] at h4 HN1
       rw [h1] at hcc
       clear h1 h3 hr9 HW HN
       rcases hgo with hg0 | ⟨hg0, hg1⟩
       all_goals
        go_wp2_with fail
        go_roundg k
        case rel => exact ⟨Q3, r9, by go_num, rfl, rfl, HN1⟩
        case measure => omega
      ·have HN1 := Aside0.mk (HN.out.2 h3)
       obtain ⟨r9, hr9⟩ : ∃ r9, r9 = 2 * r2 + x / 2 ^ k % 2 := ⟨_, rfl⟩
       rw [← hr9] at h4 HN1
       rw [h1] at hcc
       rw [h4] at ht h2
       clear h1 h3 h4 hr9 HW HN
       rcases hgo with hg0 | ⟨hg0, hg1⟩
       all_goals
        go_wp2_with fail
        go_roundg k
        case rel => exact ⟨Q2, r9, by go_num, rfl, rfl, HN1⟩
        case measure => omega
  ·obtain ⟨hrx, hqx, rfl⟩ := HO.out.at1 rfl
   obtain rfl : gk = 1 := by omega
   have HO1 := Aside0.mk (And.intro hrx hqx)
   have hrc : r < c := by rw [hrx]; exact Nat.mod_lt _ hc
   clear hrx hqx HO
   have hi0 : ∀ W, (Instr.index 59 (Value.agg #[Value.int IntKind.u64 ↑x, Value.int IntKind.u64 ↑y]) (.int .i64 1)).run Tryd.prog W = .ok (.int .u64 y) W := fun _ => by kernel_rfl
   go_wp2_with fail
   go_loopg [5, 8] 64 (fun k s5 s8 wr => ∃ (Q r2 : Nat), s8 = .int .i64 ((k : Int) - 1) ∧ s5 = .int .u64 r2 ∧ wr = (w.alloc (Obj.cells #[Value.int IntKind.u64 ↑x, Value.int IntKind.u64 ↑y] 59)).alloc (Obj.cells #[Value.int IntKind.u64 q0, Value.int IntKind.u64 Q] 59) ∧ Aside0 (DInv c r y k Q r2))
   case atStart => exact ⟨0, r, rfl, rfl, rfl, ⟨DInv.start hrc hy⟩⟩
   case round =>
    obtain ⟨Q, r2, rfl, rfl, rfl, HI⟩ := hrel
    cases gk with
    | zero =>
     obtain ⟨hd1, hd2⟩ := HI.out.done
     (try simp only [Nat.zero_mul, Nat.zero_add] at hd1 hd2)
     have HD := Aside0.mk (show DOut x y c (1 + 1) r2 q0 Q from ⟨fun h => by omega, fun h => by omega, fun _ => ⟨by rw [hd2, HO1.out.1], HO1.out.2, by rw [hd1, HO1.out.1]⟩⟩)
     clear hd1 hd2
     go_wp2_with fail
     go_roundg 0
     case rel => exact ⟨1 + 1, r2, q0, Q, by omega, by go_num, rfl, rfl, HD⟩
     case measure => omega
    | succ k =>
     have hk := HI.out.le
     obtain ⟨b, s, t, cv, N⟩ := HI.out.nums hc2
     obtain ⟨hb, hs, ht, hcc, hq, hq1, hw⟩ := N
     have hN := HI.out.next
     obtain ⟨Q2, eQ2⟩ : ∃ Q2, Q2 = 2 * Q := ⟨_, rfl⟩
     obtain ⟨Q3, eQ3⟩ : ∃ Q3, Q3 = 2 * Q + 1 := ⟨_, rfl⟩
     rw [← eQ3] at hq1 hN
     rw [← eQ2] at hq hq1 hN
     have HN := Aside0.mk hN
     clear eQ2 eQ3 hN
     have HW := Aside0.mk hw
     clear hw
     have hlt := HI.out.lt
     obtain ⟨Z, hZ⟩ : ∃ Z, IntKind.u64.wrap ((y : Int) * 2 ^ (63 - k)) = Z := ⟨_, rfl⟩
     have HZ := Aside0.mk hZ
     by_cases hr0 : r2 = 0 ∧ Z = 0
     ·obtain ⟨h1, h2⟩ := hr0
      have eZ : y * 2 ^ (63 - k) % 18446744073709551616 = 0 := by
       have := HZ.out
       rw [h2, show ((y : Int) * 2 ^ (63 - k)) = ((y * 2 ^ (63 - k) : Nat) : Int) by simp, wu64n] at this
       omega
      have hE := DInv.early (by rw [← h1]; exact HI.out) eZ
      have hQ : IntKind.u64.wrap ((Q : Int) * 2 ^ (k + 1)) = ((Q * 2 ^ (k + 1) : Nat) : Int) := by
       rw [show ((Q : Int) * 2 ^ (k + 1)) = ((Q * 2 ^ (k + 1) : Nat) : Int) by simp, wu64n]
       have := hE.2; congr 1; omega
      obtain ⟨hd1, hd2⟩ := hE.1.done
      (try simp only [Nat.zero_mul, Nat.zero_add] at hd1 hd2)
      generalize Q * 2 ^ (k + 1) = Q9 at hQ hd1
      have HD := Aside0.mk (show DOut x y c (1 + 1) r2 q0 Q9 from by rw [h1]; exact ⟨fun h => by omega, fun h => by omega, fun _ => ⟨by rw [hd2, HO1.out.1], HO1.out.2, by rw [hd1, HO1.out.1]⟩⟩)
      clear eZ hE hd1 hd2 hb hs ht hcc hq hq1
      subst h1
      subst h2
      go_wp2_with fail
      go_roundg 0
      case rel => exact ⟨1 + 1, 0, q0, Q9, by omega, by go_num, rfl, rfl, HD⟩
      case measure => omega
     ·have hgo : (((r2 : Int) == 0) = false) ∨ (((r2 : Int) == 0) = true ∧ (Z == 0) = false) := by
       rw [beq_eq_false_iff_ne, beq_iff_eq, beq_eq_false_iff_ne]
       rcases Nat.eq_zero_or_pos r2 with h | h
       ·exact .inr ⟨by omega, fun hz => hr0 ⟨h, hz⟩⟩
       ·exact .inl (by omega)
      clear hr0
      rcases HW.out with ⟨h1, h2, h3⟩ | ⟨h1, h2, h3, h4⟩ | ⟨h1, h2, h3, h4⟩
      ·have HN1 := Aside0.mk (HN.out.1 h2)
       obtain ⟨r9, hr9⟩ : ∃ r9, r9 = 2 * r2 + y / 2 ^ k % 2 - c := ⟨_, rfl⟩
       rw [← hr9] at h3 HN1
       rw [h1] at hcc
       clear h1 h2 hr9 HW HN
       rcases hgo with hg0 | ⟨hg0, hg1⟩
       all_goals
        go_wp2_with fail
        go_roundg k
        case rel => exact ⟨Q3, r9, by go_num, rfl, rfl, HN1⟩
        case measure => omega
      ·have HN1 := Aside0.mk (HN.out.1 h3)
       obtain ⟨r9, hr9⟩ : ∃ r9, r9 = 2 * r2 + y / 2 ^ k % 2 - c := ⟨_, rfl⟩
       rw [← hr9] at h4 HN1
       rw [h1] at hcc
       clear h1 h3 hr9 HW HN
       rcases hgo with hg0 | ⟨hg0, hg1⟩
       all_goals
        go_wp2_with fail
        go_roundg k
        case rel => exact ⟨Q3, r9, by go_num, rfl, rfl, HN1⟩
        case measure => omega
      ·have HN1 := Aside0.mk (HN.out.2 h3)
       obtain ⟨r9, hr9⟩ : ∃ r9, r9 = 2 * r2 + y / 2 ^ k % 2 := ⟨_, rfl⟩
       rw [← hr9] at h4 HN1
       rw [h1] at hcc
       rw [h4] at ht h2
       clear h1 h3 h4 hr9 HW HN
       rcases hgo with hg0 | ⟨hg0, hg1⟩
       all_goals
        go_wp2_with fail
        go_roundg k
        case rel => exact ⟨Q2, r9, by go_num, rfl, rfl, HN1⟩
        case measure => omega
  ·obtain ⟨hrx, hqx, hqy⟩ := HO.out.at2 rfl
   have HO2 := Aside0.mk (And.intro hrx (And.intro hqx hqy))
   clear hrx hqx hqy HO
   go_wp2_with fail
   rw [Exit.noGoto_ret]
   refine bodyPost_ret (v := .tuple #[.agg #[.int .u64 (q0 : Int), .int .u64 (q1 : Int)], .int .u64 (r : Int)]) (by simp [results, Tryd.results39, go_sem]) rfl ⟨?_, ?_⟩
   ·rw [HO2.out.1, HO2.out.2.1, HO2.out.2.2]
   ·rw [HO2.out.2.1, HO2.out.2.2]


/-! ### muldiv_away: function 40 (by hand) -/
def muldiv_away.f (a0 : Int) (a1 : Bool) (a2 : Bool) (a3 : Int) (a4 : Int) : Option (Bool) := if 0 ≤ a3 ∧ a3 < a4 ∧ a4 < 18446744073709551616 then some (mdAway a0 a1 a2 a3.toNat a4.toNat) else none
set_option maxHeartbeats 1600000 in
theorem away_any (mode : Int) (neg odd : Bool) (r c : Nat) (hr : r < c) (hc : c < 18446744073709551616) (w : World) :
  Calls Tryd.prog 40 #[.int .i64 mode, .bool neg, .bool odd, .int .u64 (r : Int), .int .u64 (c : Int)] w fun e w' => e = .returned (.bool (mdAway mode neg odd r c)) ∧ w = w' := by
 obtain ⟨q, hq⟩ : ∃ q, q = mdAway mode neg odd r c := ⟨_, rfl⟩
 rw [← hq]
 unfold mdAway at hq
 obtain ⟨s, hs⟩ : ∃ s : Nat, s = c - r := ⟨_, rfl⟩
 have hw : IntKind.u64.wrap ((c : Int) - (r : Int)) = (s : Int) := by rw [wu64]; omega
 rw [← hs] at hq
 clear hs
 by_cases h0 : r = 0
 ·have hr0 : ((r : Int) == 0) = true := by rw [beq_iff_eq]; omega
  simp only [h0, ne_eq, not_true_eq_false, decide_false, Bool.false_and] at hq
  subst hq
  clear h0
  go_enter Tryd.func40, Tryd.ntmps40
  go_wp2
  go_ret
  exact ⟨rfl, rfl⟩
 ·have hr0 : ((r : Int) == 0) = false := by rw [beq_eq_false_iff_ne]; omega
  simp only [h0, ne_eq, not_false_eq_true, decide_true, Bool.true_and] at hq
  clear h0
  by_cases m2 : mode = 2
  ·subst m2
   simp at hq
   subst hq
   go_enter Tryd.func40, Tryd.ntmps40
   go_wp2
   go_ret
   exact ⟨rfl, rfl⟩
  ·have e2 : (mode == 2) = false := by rw [beq_eq_false_iff_ne]; exact m2
   by_cases m3 : mode = 3
   ·subst m3
    simp at hq
    have HQ := Aside0.mk hq
    clear hq m2 e2
    go_enter Tryd.func40, Tryd.ntmps40
    go_wp2
    go_ret
    exact ⟨ret_bool (by rw [HQ.out]; (try simp)), rfl⟩
   ·have e3 : (mode == 3) = false := by rw [beq_eq_false_iff_ne]; exact m3
    by_cases m4 : mode = 4
    ·subst m4
     simp at hq
     have HQ := Aside0.mk hq
     clear hq m2 m3 e2 e3
     by_cases g1 : s < r
     ·go_enter Tryd.func40, Tryd.ntmps40
      go_wp2
      go_ret
      exact ⟨ret_bool (by rw [HQ.out]; simp [g1]), rfl⟩
     ·by_cases g2 : r = s
      ·have g3 : ((r : Int) == (s : Int)) = true := by rw [beq_iff_eq]; omega
       have HG := Aside0.mk g2
       clear g2
       go_enter Tryd.func40, Tryd.ntmps40
       go_wp2
       go_ret
       exact ⟨ret_bool (by rw [HQ.out, HG.out]; simp), rfl⟩
      ·have g3 : ((r : Int) == (s : Int)) = false := by rw [beq_eq_false_iff_ne]; omega
       go_enter Tryd.func40, Tryd.ntmps40
       go_wp2
       go_ret
       exact ⟨ret_bool (by rw [HQ.out]; simp [g1, g2]), rfl⟩
    ·have e4 : (mode == 4) = false := by rw [beq_eq_false_iff_ne]; exact m4
     by_cases m5 : mode = 5
     ·subst m5
      simp at hq
      subst hq
      clear m2 m3 m4 e2 e3 e4
      go_enter Tryd.func40, Tryd.ntmps40
      go_wp2
      go_ret
      exact ⟨rfl, rfl⟩
     ·have e5 : (mode == 5) = false := by rw [beq_eq_false_iff_ne]; exact m5
      simp [m2, m3, m4, m5] at hq
      subst hq
      clear m2 m3 m4 m5
      go_enter Tryd.func40, Tryd.ntmps40
      go_wp2
      go_ret
      exact ⟨rfl, rfl⟩
theorem muldiv_away.calls (a0 : Int) (a1 : Bool) (a2 : Bool) (a3 : Int) (a4 : Int) (r : Bool) (w : World) (h : muldiv_away.f a0 a1 a2 a3 a4 = some r) :
  Calls Tryd.prog 40 #[.int .i64 a0, .bool a1, .bool a2, .int .u64 a3, .int .u64 a4] w fun e w' => e = .returned (.bool r) ∧ Drawn0 w w' := by
 unfold muldiv_away.f at h
 split at h <;> simp only [Option.some.injEq, reduceCtorEq] at h
 rename_i hb
 obtain ⟨h0, h1, h2⟩ := hb
 obtain ⟨x, rfl⟩ := Int.eq_ofNat_of_zero_le h0
 obtain ⟨y, rfl⟩ := Int.eq_ofNat_of_zero_le (show 0 ≤ a4 by omega)
 subst h
 refine (away_any a0 a1 a2 x y (by omega) (by omega) w).mono ?_
 rintro e w' ⟨rfl, rfl⟩
 exact ⟨rfl, Drawn0.refl _⟩


/-! ### muldiv_signed: function 41 (by hand) -/
def muldiv_signed.f (a0 : Bool) (a1 : Int) : Option (Int × Int) := if 0 ≤ a1 ∧ a1 < 18446744073709551616 then some (mdSigned a0 a1.toNat) else none
set_option maxHeartbeats 1600000 in
set_option maxRecDepth 100000 in
theorem signed_any (neg : Bool) (size : Nat) (h : size < 18446744073709551616) (w : World) :
  Calls Tryd.prog 41 #[.bool neg, .int .u64 (size : Int)] w fun e w' => e = .returned (.tuple #[.int .i64 (mdSigned neg size).1, .int .i64 (mdSigned neg size).2]) ∧ w = w' := by
 obtain ⟨m, hm⟩ : ∃ m, m = mdSigned neg size := ⟨_, rfl⟩
 rw [← hm]
 unfold mdSigned at hm
 cases neg
 ·rw [if_neg (by decide)] at hm
  by_cases h1 : 9223372036854775808 ≤ size
  ·rw [if_pos h1] at hm
   subst hm
   have h1' : decide ((9223372036854775808 : Int) ≤ size) = true := decide_eq_true (by omega)
   clear h1
   go_enter Tryd.func41, Tryd.ntmps41
   go_wp2
   go_ret2
   exact ⟨rfl, rfl⟩
  ·rw [if_neg h1] at hm
   subst hm
   have h1' : decide ((9223372036854775808 : Int) ≤ size) = false := decide_eq_false (by omega)
   have hz1 : (size : Int) < 9223372036854775808 := by omega
   clear h1
   go_enter Tryd.func41, Tryd.ntmps41
   go_wp2
   go_ret2
   exact ⟨rfl, rfl⟩
 ·rw [if_pos rfl] at hm
  by_cases h1 : 9223372036854775808 < size
  ·rw [if_pos h1] at hm
   subst hm
   have h1' : (9223372036854775808 : Int) < size := by omega
   clear h1
   go_enter Tryd.func41, Tryd.ntmps41
   go_wp2
   go_ret2
   exact ⟨rfl, rfl⟩
  ·rw [if_neg h1] at hm
   obtain ⟨z, hz⟩ : ∃ z : Int, z = -(size : Int) := ⟨_, rfl⟩
   obtain ⟨u, hu⟩ : ∃ u : Int, IntKind.u64.wrap ((size : Int) - 1) = u := ⟨_, rfl⟩
   obtain ⟨v, hv⟩ : ∃ v : Int, wrap64 u = v := ⟨_, rfl⟩
   have eu : u = (if size = 0 then 18446744073709551615 else (size : Int) - 1) := by rw [← hu, wu64]; split <;> omega
   have ev : v = (size : Int) - 1 := by rw [← hv, eu]; unfold wrap64; split <;> omega
   have e1 : -1 ≤ v := by omega
   have e2 : v ≤ 9223372036854775807 := by omega
   rw [← hz] at hm
   have HZ := Aside0.mk (show -v - 1 = z by omega)
   have HM := Aside0.mk hm
   have h1' : (size : Int) ≤ 9223372036854775808 := by omega
   clear ev eu hz hm h1
   go_enter Tryd.func41, Tryd.ntmps41
   go_wp2
   go_ret2
   exact ⟨by rw [HM.out, ← HZ.out]; rfl, rfl⟩
theorem muldiv_signed.calls (a0 : Bool) (a1 : Int) (r1 : Int) (r2 : Int) (w : World) (h : muldiv_signed.f a0 a1 = some (r1, r2)) :
  Calls Tryd.prog 41 #[.bool a0, .int .u64 a1] w fun e w' => e = .returned (.tuple #[.int .i64 r1, .int .i64 r2]) ∧ Drawn0 w w' := by
 unfold muldiv_signed.f at h
 split at h <;> simp only [Option.some.injEq, reduceCtorEq] at h
 rename_i hb
 obtain ⟨x, rfl⟩ := Int.eq_ofNat_of_zero_le hb.1
 refine (signed_any a0 x (by omega) w).mono ?_
 rintro e w' ⟨rfl, rfl⟩
 exact ⟨by rw [Int.toNat_natCast] at h; rw [h], Drawn0.refl _⟩


end Go.Proofs.YthmpapnhomngnaaDoor.A
