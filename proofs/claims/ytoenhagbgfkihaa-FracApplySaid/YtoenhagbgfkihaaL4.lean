/- The reference's product and quotient of large numbers: what MulDiv of the reference computes is mulDivS. -/
import Derived.Test.YtoenhagbgfkihaaAx12
import Derived.Test.YtoenhagbgfkihaaL2
namespace Go.Proofs.Ytoenhagbgfkihaa.A
open Go.RowKit Go.Proofs.Ytoenhagbgfkihaa.B Go.Proofs.YtoenhagbgfkihaaW.PrintWords Go.Proofs.YtoenhagbgfkihaaW.PrintLast Go.Proofs.YtoenhagbgfkihaaW.PrintMore
set_option linter.unusedVariables false
set_option linter.unusedSimpArgs false
theorem ref02_mag_eq (a : Int) (ha : I64 a) : accountingref02_mag.f a = some (a.natAbs : Int) := by
  unfold accountingref02_mag.f
  unfold I64 at ha
  by_cases h : a < 0
  · rw [if_pos h]; congr 1
    have e1 : wrap64 (a + 1) = a + 1 := by unfold wrap64; omega
    have e2 : wrap64 (-(a + 1)) = -(a + 1) := by unfold wrap64; omega
    rw [e1, e2, wu64, wu64]; omega
  · rw [if_neg h]; congr 1; rw [wu64]; omega
theorem t32 (a : Nat) : Int.tdiv (a : Int) 4294967296 = ((a / 4294967296 : Nat) : Int) := tdiv_nat a 4294967296
theorem m32 (a : Nat) : Int.tmod (a : Int) 4294967296 = ((a % 4294967296 : Nat) : Int) := tmod_nat a 4294967296
theorem t63 (a : Nat) : Int.tdiv (a : Int) 9223372036854775808 = ((a / 9223372036854775808 : Nat) : Int) := tdiv_nat a 9223372036854775808
theorem lo_bound (u s : Nat) : u % 4294967296 * 4294967296 + s % 4294967296 < 18446744073709551616 := by omega
theorem x32 (a : Nat) : (a : Int) * 4294967296 = ((a * 4294967296 : Nat) : Int) := by omega
set_option maxRecDepth 100000 in
theorem ref02_wide_eq (x y : Nat) (hx : x < 18446744073709551616) (hy : y < 18446744073709551616) :
    accountingref02_wide.f (x : Int) (y : Int) = some (((x * y / 18446744073709551616 : Nat) : Int), ((x * y % 18446744073709551616 : Nat) : Int)) := by
  obtain ⟨bd, bt, bw, hhi⟩ := Lib.mul64_hi x y hx hy
  have ba := Lib.half_mul_le (a := x / 4294967296) (b := y / 4294967296) (by omega) (by omega)
  have bb := Lib.half_mul_le (a := x / 4294967296) (b := y % 4294967296) (by omega) (by omega)
  have bc := Lib.half_mul_le (a := x % 4294967296) (b := y / 4294967296) (by omega) (by omega)
  have ba' : x / 4294967296 * (y / 4294967296) < 18446744073709551616 := by omega
  have bb' : x / 4294967296 * (y % 4294967296) < 18446744073709551616 := by omega
  have bc' : x % 4294967296 * (y / 4294967296) < 18446744073709551616 := by omega
  have b1 : x / 4294967296 < 18446744073709551616 := by omega
  have b2 : y / 4294967296 < 18446744073709551616 := by omega
  have hlo := mul_lo x y
  have hH : x * y / 18446744073709551616 < 18446744073709551616 := by rw [Nat.div_lt_iff_lt_mul (by decide)]; exact Nat.mul_lt_mul'' hx hy
  unfold accountingref02_wide.f
  simp only [t32, m32, m64_wrapN _ b1, m64_wrapN _ b2, m64_mulN, m64_addN]
  generalize x * y / 18446744073709551616 = hi at *
  generalize x * y % 18446744073709551616 = lo at *
  generalize x / 4294967296 * (y / 4294967296) = p at *
  generalize x / 4294967296 * (y % 4294967296) = q at *
  generalize x % 4294967296 * (y / 4294967296) = r at *
  generalize x % 4294967296 * (y % 4294967296) = s at *
  clear b1 b2 hx hy
  have c1 : s / 4294967296 < 18446744073709551616 := by omega
  have c2 : (q + s / 4294967296) / 4294967296 < 18446744073709551616 := by omega
  have c3 : r + (q + s / 4294967296) % 4294967296 < 18446744073709551616 := by omega
  have c4 : (r + (q + s / 4294967296) % 4294967296) / 4294967296 < 18446744073709551616 := by omega
  have c5 : p + (q + s / 4294967296) / 4294967296 < 18446744073709551616 := by omega
  have c6 : p + (q + s / 4294967296) / 4294967296 + (r + (q + s / 4294967296) % 4294967296) / 4294967296 < 18446744073709551616 := by omega
  have c7 : (r + (q + s / 4294967296) % 4294967296) % 4294967296 * 4294967296 < 18446744073709551616 := by omega
  have c8 : (r + (q + s / 4294967296) % 4294967296) % 4294967296 * 4294967296 + s % 4294967296 < 18446744073709551616 := lo_bound _ _
  simp only [m64_wrapN _ bd, t32, m32, m64_wrapN _ c1, m64_wrapN _ bb', m64_addN, m64_wrapN _ bt, m64_wrapN _ c2, m64_wrapN _ bc', m64_wrapN _ c3, m64_wrapN _ c4, m64_wrapN _ ba', m64_wrapN _ c5, m64_wrapN _ c6, x32, m64_wrapN _ c7, m64_wrapN _ c8]
  have e1 : p + (q + s / 4294967296) / 4294967296 + (r + (q + s / 4294967296) % 4294967296) / 4294967296 = hi := by rw [← hhi, Nat.add_comm r]
  rw [e1, hlo]
theorem d_two (x : Nat) : IntKind.u64.wrap (2 * (x : Int)) = ((2 * x % 18446744073709551616 : Nat) : Int) := by rw [wu64]; omega
theorem d_join (h l : Nat) : IntKind.u64.wrap (IntKind.u64.wrap (2 * (h : Int)) + IntKind.u64.wrap (Int.tdiv (l : Int) 9223372036854775808)) = (((2 * h + l / 9223372036854775808) % 18446744073709551616 : Nat) : Int) := by
  rw [t63, d_two, wu64n, m64_addN, wu64n]; congr 1; omega
theorem d_join' (h l : Nat) (h1 : h < 9223372036854775808) (h2 : l < 18446744073709551616) : IntKind.u64.wrap (IntKind.u64.wrap (2 * (h : Int)) + IntKind.u64.wrap (Int.tdiv (l : Int) 9223372036854775808)) = ((2 * h + l / 9223372036854775808 : Nat) : Int) := by
  rw [d_join]; congr 1; omega
theorem d_odd (x : Nat) : IntKind.u64.wrap (((2 * x % 18446744073709551616 : Nat) : Int) + 1) = ((2 * x % 18446744073709551616 + 1 : Nat) : Int) := by rw [wu64]; omega
theorem d_bit (hi lo b P : Nat) (h1 : hi * 18446744073709551616 + lo = b * 170141183460469231731687303715884105728 + P) (h2 : P < 170141183460469231731687303715884105728) (hlo : lo < 18446744073709551616) : hi / 9223372036854775808 = b := by omega
theorem d_lin (x u v : Nat) : (2 * x + u) * 18446744073709551616 + 2 * v = (x * 18446744073709551616 + (u * 9223372036854775808 + v)) * 2 := by omega
theorem d_next (hi lo b P : Nat) (hb : b ≤ 1) (h1 : hi * 18446744073709551616 + lo = b * 170141183460469231731687303715884105728 + P) (h2 : P < 170141183460469231731687303715884105728) (hlo : lo < 18446744073709551616) :
    (2 * hi + lo / 9223372036854775808) % 18446744073709551616 * 18446744073709551616 + 2 * lo % 18446744073709551616 = P * 2 := by
  obtain ⟨u, v, rfl, hu, hv⟩ : ∃ u v, lo = u * 9223372036854775808 + v ∧ u ≤ 1 ∧ v < 9223372036854775808 := ⟨lo / 9223372036854775808, lo % 9223372036854775808, by omega, by omega, by omega⟩
  obtain ⟨x, rfl⟩ : ∃ x, hi = b * 9223372036854775808 + x := ⟨hi - b * 9223372036854775808, by omega⟩
  have hx : x < 9223372036854775808 := by omega
  have e0 : (u * 9223372036854775808 + v) / 9223372036854775808 = u := by clear h1 h2; omega
  have e1 : (2 * (b * 9223372036854775808 + x) + u) % 18446744073709551616 = 2 * x + u := by clear h1 h2 e0; omega
  have e2 : 2 * (u * 9223372036854775808 + v) % 18446744073709551616 = 2 * v := by clear h1 h2 e0 e1; omega
  rw [e0, e1, e2]
  clear e0 e1 e2
  have e3 : b * 9223372036854775808 * 18446744073709551616 = b * 170141183460469231731687303715884105728 := Nat.mul_assoc b 9223372036854775808 18446744073709551616
  rw [Nat.add_mul, e3] at h1
  rw [Nat.add_assoc] at h1
  obtain rfl := Nat.add_left_cancel h1
  exact d_lin x u v
theorem d_top (r b c : Nat) (hc : c ≤ 9223372036854775808) (h : (r : Int) ≥ 9223372036854775808) : c ≤ 2 * r + b := by omega
theorem d_ge (r b c : Nat) (w8 : (2 * r + b) % 18446744073709551616 = 2 * r + b) (h : (((2 * r + b) % 18446744073709551616 : Nat) : Int) ≥ (c : Int)) : c ≤ 2 * r + b := by rw [w8] at h; omega
theorem d_lt (r b c : Nat) (w8 : (2 * r + b) % 18446744073709551616 = 2 * r + b) (h : ¬ (((2 * r + b) % 18446744073709551616 : Nat) : Int) ≥ (c : Int)) : 2 * r + b < c := by rw [w8] at h; omega
theorem d_q (qh ql : Nat) (h : ql < 18446744073709551616) : (2 * qh + ql / 9223372036854775808) * 18446744073709551616 + 2 * ql % 18446744073709551616 = (qh * 18446744073709551616 + ql) * 2 := by omega
theorem d_qh (qh ql K : Nat) (h1 : qh * 18446744073709551616 + ql < K) (h2 : K ≤ 170141183460469231731687303715884105728) : qh < 9223372036854775808 := by omega
theorem d_odd_lt (x : Nat) : 2 * x % 18446744073709551616 + 1 < 18446744073709551616 := by omega
theorem d_sub (r b c : Nat) (hb : b ≤ 1) (hr : r < c) (hc : c ≤ 9223372036854775808) (h : c ≤ 2 * r + b) : IntKind.u64.wrap ((((2 * r + b) % 18446744073709551616 : Nat) : Int) - (c : Int)) = ((2 * r + b - c : Nat) : Int) ∧ 2 * r + b - c < c := by
  rw [wu64]; omega
theorem d_less (r b c : Nat) (hb : b ≤ 1) (hr : r < c) (hc : c ≤ 9223372036854775808) : (2 * r + b) % 18446744073709551616 = 2 * r + b := by omega
set_option maxRecDepth 100000 in
/-- What the division's loop keeps: n rounds are left. -/
theorem ref02_divide_l0 (c : Nat) (hc0 : 0 < c) (hc : c ≤ 9223372036854775808) (n : Nat) : ∀ (i Y K M hi lo qh ql r : Nat), i + n = 128 → M = 2 ^ n → M * K = 340282366920938463463374607431768211456 → Y < M → hi * 18446744073709551616 + lo = Y * K → lo < 18446744073709551616 → hi < 18446744073709551616 → r < c →
    qh * 18446744073709551616 + ql < K → ql < 18446744073709551616 →
    Ev (fun k => accountingref02_divide.l0 k (hi : Int) (lo : Int) (c : Int) (qh : Int) (ql : Int) (r : Int) (i : Int))
      (((((qh * 18446744073709551616 + ql) * c + r) * M + Y) / c / 18446744073709551616 : Nat), ((((qh * 18446744073709551616 + ql) * c + r) * M + Y) / c % 18446744073709551616 : Nat), ((((qh * 18446744073709551616 + ql) * c + r) * M + Y) % c : Nat)) := by
  induction n with
  | zero =>
    intro i Y K M hi lo qh ql r hi0 hM hMK hY hX hlo hhi hr hQ hql
    refine Ev.step (fun k => by rw [accountingref02_divide.l0]) (Ev.no (by omega) (Ev.is ?_))
    subst hM
    obtain rfl : Y = 0 := by omega
    rw [Nat.pow_zero, Nat.mul_one, Nat.add_zero, Nat.mul_comm _ c, Nat.mul_add_div hc0, Nat.div_eq_of_lt hr, Nat.add_zero, Nat.mul_add_mod, Nat.mod_eq_of_lt hr]
    have e1 : (qh * 18446744073709551616 + ql) / 18446744073709551616 = qh := by omega
    have e2 : (qh * 18446744073709551616 + ql) % 18446744073709551616 = ql := by omega
    rw [e1, e2]
  | succ n ih =>
    intro i Y K M hi lo qh ql r hi0 hM hMK hY hX hlo hhi hr hQ hql
    have hi1 : (i : Int) < 128 := by clear hX hQ hMK hlo hhi hql hr hM hY ih; omega
    obtain ⟨M', hM'⟩ : ∃ M', M' = 2 ^ n := ⟨_, rfl⟩
    have hMM : M = M' * 2 := by rw [hM, hM', Nat.pow_succ]
    have hM0 : 0 < M' := by rw [hM']; exact Nat.pos_of_ne_zero (by exact Nat.ne_of_gt (Nat.two_pow_pos n))
    -- the next bit
    have hK' : M' * (K * 2) = 340282366920938463463374607431768211456 := by rw [← hMK, hMM, Nat.mul_assoc, Nat.mul_comm 2 K]
    have hK1 : M' * K = 170141183460469231731687303715884105728 := by
      have : M' * (K * 2) = M' * K * 2 := by rw [Nat.mul_assoc]
      omega
    obtain ⟨b, Y', hb, hYe, hY'⟩ : ∃ b Y', b ≤ 1 ∧ Y = b * M' + Y' ∧ Y' < M' := by
      refine ⟨Y / M', Y % M', ?_, ?_, Nat.mod_lt _ hM0⟩
      · have : Y / M' < 2 := by rw [Nat.div_lt_iff_lt_mul hM0]; omega
        omega
      · rw [Nat.mul_comm]; exact (Nat.div_add_mod Y M').symm
    have hXb : hi * 18446744073709551616 + lo = b * 170141183460469231731687303715884105728 + Y' * K := by
      rw [hX, hYe, Nat.add_mul, Nat.mul_assoc, hK1]
    have hYK : Y' * K < 170141183460469231731687303715884105728 := by
      rw [← hK1]; exact Nat.mul_lt_mul_of_pos_right hY' (by
        rcases Nat.eq_zero_or_pos K with h | h
        · subst h; omega
        · exact h)
    have hKle : K ≤ 170141183460469231731687303715884105728 := by
      rw [← hK1]; exact Nat.le_mul_of_pos_left _ hM0
    have hYK2 : Y' * (K * 2) = Y' * K * 2 := by rw [Nat.mul_assoc]
    generalize hP : Y' * K = P at *
    have hbit : hi / 9223372036854775808 = b := d_bit hi lo b P hXb hYK hlo
    have hnx := d_next hi lo b P hb hXb hYK hlo
    have hQ2 := d_qh qh ql K hQ hKle
    have hqn := d_q qh ql hql
    have w1 := d_join hi lo
    have w2 := d_two lo
    have w3 := d_join' qh ql hQ2 hql
    have w4 := d_two ql
    have w4' := d_odd ql
    have w5 : IntKind.u64.wrap (IntKind.u64.wrap (2 * (r : Int)) + IntKind.u64.wrap (Int.tdiv (hi : Int) 9223372036854775808)) = (((2 * r + b) % 18446744073709551616 : Nat) : Int) := by
      rw [d_join, hbit]
    have w6 : wrap64 ((i : Int) + 1) = ((i + 1 : Nat) : Int) := by clear hXb hYK hnx hqn hQ hX hMK hK' hK1 hKle; unfold wrap64; omega
    have hlo' : 2 * lo % 18446744073709551616 < 18446744073709551616 := Nat.mod_lt _ (by decide)
    have hhi' : (2 * hi + lo / 9223372036854775808) % 18446744073709551616 < 18446744073709551616 := Nat.mod_lt _ (by decide)
    have hq0 : (qh * 18446744073709551616 + ql) * 2 + 1 < K * 2 := by clear hXb hYK hnx hqn hX hMK hK' hK1 hKle w1 w2 w3 w4 w4' w5 w6; omega
    -- what the round leaves to be divided is the same number
    have tot : ∀ d : Nat, d ≤ 1 → d * c ≤ 2 * r + b → (((qh * 18446744073709551616 + ql) * 2 + d) * c + (2 * r + b - d * c)) * M' + Y' = ((qh * 18446744073709551616 + ql) * c + r) * M + Y := by
      intro d hd hdc
      have e1 : ((qh * 18446744073709551616 + ql) * 2 + d) * c + (2 * r + b - d * c) = ((qh * 18446744073709551616 + ql) * c + r) * 2 + b := by
        rw [Nat.add_mul, Nat.mul_right_comm]
        generalize (qh * 18446744073709551616 + ql) * c = u
        clear hXb hYK hnx hqn hQ hX hMK hK' hK1 hKle w1 w2 w3 w4 w4' w5 w6
        omega
      rw [e1, hMM, hYe, Nat.add_mul, Nat.mul_assoc _ 2 M', Nat.mul_comm 2 M', Nat.add_assoc]
    refine Ev.step (fun k => by rw [accountingref02_divide.l0]) (Ev.yes hi1 ?_)
    simp only [w1, w2, w3, w4, w4', w5, w6]
    have take : c ≤ 2 * r + b → Ev (fun k => accountingref02_divide.l0 k (((2 * hi + lo / 9223372036854775808) % 18446744073709551616 : Nat) : Int) ((2 * lo % 18446744073709551616 : Nat) : Int) (c : Int) ((2 * qh + ql / 9223372036854775808 : Nat) : Int) ((2 * ql % 18446744073709551616 + 1 : Nat) : Int) (IntKind.u64.wrap ((((2 * r + b) % 18446744073709551616 : Nat) : Int) - (c : Int))) ((i + 1 : Nat) : Int)) _ := fun h => by
      obtain ⟨w7, w9⟩ := d_sub r b c hb hr hc h
      rw [w7]
      have := ih (i + 1) Y' (K * 2) M' _ _ (2 * qh + ql / 9223372036854775808) (2 * ql % 18446744073709551616 + 1) (2 * r + b - c) (by omega) hM' hK' hY' (by rw [hYK2]; exact hnx) hlo' hhi' w9 (by rw [← Nat.add_assoc, hqn]; exact hq0) (d_odd_lt ql)
      rw [← Nat.add_assoc, hqn] at this
      have e := tot 1 (by omega) (by omega)
      rw [Nat.one_mul] at e
      rw [e] at this
      exact this
    have w8 := d_less r b c hb hr hc
    clear hXb hYK w1 w2 w3 w4 w4' w5 w6
    have wd : (2 * r + b) % 18446744073709551616 = 2 * r + b := w8
    refine Ev.both (fun h1 => take (d_top r b c hc h1)) (fun h1 => Ev.both (fun h2 => take (d_ge r b c wd h2)) (fun h2 => ?_))
    have hlt : 2 * r + b < c := d_lt r b c wd h2
    rw [w8]
    have := ih (i + 1) Y' (K * 2) M' _ _ (2 * qh + ql / 9223372036854775808) (2 * ql % 18446744073709551616) (2 * r + b) (by omega) hM' hK' hY' (by rw [hYK2]; exact hnx) hlo' hhi' hlt (by rw [hqn]; exact Nat.lt_of_succ_lt hq0) (Nat.mod_lt _ (by decide))
    rw [hqn] at this
    have e := tot 0 (by omega) (by omega)
    rw [Nat.zero_mul, Nat.add_zero, Nat.sub_zero] at e
    rw [e] at this
    exact this
theorem two_words (hi lo : Nat) (hhi : hi < 18446744073709551616) (hlo : lo < 18446744073709551616) : hi * 18446744073709551616 + lo < 340282366920938463463374607431768211456 := by
  have h1 : hi * 18446744073709551616 + lo < (hi + 1) * 18446744073709551616 := by omega
  have h2 : (hi + 1) * 18446744073709551616 ≤ 18446744073709551616 * 18446744073709551616 := Nat.mul_le_mul_right _ hhi
  exact Nat.lt_of_lt_of_le h1 h2
theorem ref02_divide_ev (hi lo c : Nat) (hc0 : 0 < c) (hc : c ≤ 9223372036854775808) (hhi : hi < 18446744073709551616) (hlo : lo < 18446744073709551616) :
    Ev (fun k => accountingref02_divide.f k (hi : Int) (lo : Int) (c : Int)) (((hi * 18446744073709551616 + lo) / c / 18446744073709551616 : Nat), ((hi * 18446744073709551616 + lo) / c % 18446744073709551616 : Nat), ((hi * 18446744073709551616 + lo) % c : Nat)) := by
  have := ref02_divide_l0 c hc0 hc 128 0 (hi * 18446744073709551616 + lo) 1 340282366920938463463374607431768211456 hi lo 0 0 0 (by rfl) (by decide) (by rfl) (two_words hi lo hhi hlo) (by rw [Nat.mul_one]) hlo hhi hc0 (by decide) (by decide)
  rw [show ((0 * 18446744073709551616 + 0) * c + 0) * 340282366920938463463374607431768211456 + (hi * 18446744073709551616 + lo) = hi * 18446744073709551616 + lo by simp only [Nat.zero_mul, Nat.zero_add]] at this
  exact this
theorem ref02_away_eq (mode : Int) (neg odd : Bool) (r c : Nat) (hr : r < c) (hc : c ≤ 9223372036854775808) (hm : 1 ≤ mode) : accountingref02_away.f mode neg odd (r : Int) (c : Int) = some (mdAway mode neg odd r c) := by
  unfold accountingref02_away.f mdAway
  have e : IntKind.u64.wrap ((c : Int) - (r : Int)) = ((c - r : Nat) : Int) := by rw [wu64]; omega
  rw [e]
  by_cases h2 : mode = 2
  · subst h2; rw [if_pos rfl, Option.some.injEq, Bool.eq_iff_iff]; simp; omega
  by_cases h3 : mode = 3
  · subst h3; rw [if_neg (by decide), if_pos rfl, Option.some.injEq, Bool.eq_iff_iff]; simp; omega
  by_cases h4 : mode = 4
  · subst h4; rw [if_neg (by decide), if_neg (by decide), if_pos rfl]
    by_cases g1 : c - r < r
    · rw [if_pos (by omega)]; simp [g1]; omega
    · rw [if_neg (by omega)]
      by_cases g2 : r = c - r
      · rw [if_pos (by omega)]; simp [g1, ← g2]; cases odd <;> simp <;> omega
      · rw [if_neg (by omega)]; simp [g1, g2]
  by_cases h5 : mode = 5
  · subst h5; rw [if_neg (by decide), if_neg (by decide), if_neg (by decide), if_pos rfl]
    cases neg
    · rw [if_neg (by decide)]; simp
    · rw [if_pos rfl, Option.some.injEq, Bool.eq_iff_iff]; simp; omega
  rw [if_neg h2, if_neg h3, if_neg h4, if_neg h5]; simp [h2, h3, h4, h5]
theorem ref02_g_eq (q : Nat) (neg : Bool) : accountingref02_MulDiv.g (q : Int) neg = mdSigned neg q := by
  unfold accountingref02_MulDiv.g mdSigned
  cases neg <;> simp only [Bool.false_eq_true, if_false, if_true] <;> (repeat' split) <;> first | rfl | (exfalso; omega) | (congr 1; omega)
theorem mdSigned_zero (n m : Bool) : mdSigned n 0 = mdSigned m 0 := by cases n <;> cases m <;> rfl
theorem ref02_MulDiv_ev (a b c mode : Int) (ha : I64 a) (hb : I64 b) (hc : I64 c) : Ev (fun k => accountingref02_MulDiv.f k a b c mode) (mulDivS a b c mode) := by
  unfold accountingref02_MulDiv.f mulDivS
  refine Ev.both (fun h => Ev.is (by rw [if_pos (.inl h)])) (fun h1 => Ev.both (fun h => Ev.is (by rw [if_pos (.inr h)])) (fun h2 => ?_))
  rw [if_neg (by omega)]
  refine Ev.both (fun h => Ev.is (by rw [if_pos h])) (fun h3 => ?_)
  rw [if_neg h3, ref02_mag_eq a ha, ref02_mag_eq b hb, ref02_mag_eq c hc]
  simp only [Option.bind_some]
  unfold I64 at ha hb hc
  have hx : a.natAbs < 18446744073709551616 := by omega
  have hy : b.natAbs < 18446744073709551616 := by omega
  rw [ref02_wide_eq _ _ hx hy]
  simp only [Option.bind_some]
  have hH : a.natAbs * b.natAbs / 18446744073709551616 < 18446744073709551616 := by rw [Nat.div_lt_iff_lt_mul (by decide)]; exact Nat.mul_lt_mul'' hx hy
  have hL : a.natAbs * b.natAbs % 18446744073709551616 < 18446744073709551616 := Nat.mod_lt _ (by decide)
  refine Ev.bind (ref02_divide_ev _ _ c.natAbs (by omega) (by omega) hH hL) ?_
  rw [Nat.div_add_mod' (a.natAbs * b.natAbs) 18446744073709551616]
  have hz : a.natAbs * b.natAbs = 0 → a.natAbs * b.natAbs / c.natAbs = 0 ∧ a.natAbs * b.natAbs % c.natAbs = 0 := fun h => by rw [h]; exact ⟨Nat.zero_div _, Nat.zero_mod _⟩
  have hr : a.natAbs * b.natAbs % c.natAbs < c.natAbs := Nat.mod_lt _ (by omega)
  generalize ((decide (a < 0) != decide (b < 0)) != decide (c < 0)) = sg
  clear hH hL hx hy
  generalize hp : a.natAbs * b.natAbs = p at *
  generalize p / c.natAbs = D at *
  generalize p % c.natAbs = R at *
  have hcz : c.natAbs ≤ 9223372036854775808 := by omega
  generalize c.natAbs = z at *
  clear ha hb hc h3 hp
  refine Ev.yes (by dsimp only; omega) ?_
  dsimp only
  by_cases hp0 : p = 0
  · obtain ⟨hd, hrr⟩ := hz hp0
    subst hd hrr
    refine Ev.no (by decide) (Ev.no (by decide) ?_)
    rw [ref02_away_eq mode sg _ 0 z hr hcz (by omega)]
    simp only [Option.bind_some]
    refine Ev.is ?_
    have : ∀ n o, mdAway mode n o 0 z = false := fun n o => by unfold mdAway; simp
    rw [this, this, if_neg (by decide), if_neg (by decide), Nat.add_zero]
    show accountingref02_MulDiv.g ((0 : Nat) : Int) sg = _
    rw [ref02_g_eq]
    exact mdSigned_zero _ _
  · rw [show (decide (p ≠ 0) && sg) = sg by rw [decide_eq_true hp0, Bool.true_and]]
    refine Ev.both (fun h => Ev.is ?_) (fun h => ?_)
    · exact (mdSigned_big sg (by omega)).symm
    have hD : D < 18446744073709551616 := by omega
    have hDm : D % 18446744073709551616 = D := Nat.mod_eq_of_lt hD
    rw [hDm]
    refine Ev.both (fun h => Ev.is ?_) (fun h4 => ?_)
    · exact (mdSigned_big sg (by omega)).symm
    have ho : ((D : Int) % 2 == 1) = decide (D % 2 = 1) := by rw [Bool.eq_iff_iff, beq_iff_eq, decide_eq_true_iff]; omega
    rw [ho, ref02_away_eq mode sg _ R z hr hcz (by omega)]
    simp only [Option.bind_some]
    refine Ev.is ?_
    cases mdAway mode sg (decide (D % 2 = 1)) R z
    · simp only [Bool.false_eq_true, if_false, Nat.add_zero]; exact ref02_g_eq _ _
    · simp only [if_true]; exact ref02_g_eq (D + 1) sg
end Go.Proofs.Ytoenhagbgfkihaa.A
