-- By gen.py, a program of this session's, over the print's forms: not the print's own text.
import Derived.Test.YtienccbadjhcpaaAx0
import Derived.Test.YtienccbadjhcpaaAx6
namespace Go.Proofs.Ytienccbadjhcpaa.A
open Go.RowKit Go.Proofs.Ytienccbadjhcpaa.B Go.Proofs.YtienccbadjhcpaaW.PrintWords Go.Proofs.YtienccbadjhcpaaW.PrintLast Go.Proofs.YtienccbadjhcpaaW.PrintMore
attribute [local go_sem] max2_int min2_int max_two min_two max_three min_three max_four min_four   -- for this text's walks alone
set_option linter.unusedVariables false
set_option linter.unusedSimpArgs false

/-! ### num_Near: function 24 -/
def num_Near.f (a0 : Int) (a1 : Int) (a2 : Int) : Option (Int) := if a0 < a1 then (some a1) else (if a0 > a2 then (some a2) else (some a0))
set_option maxHeartbeats 8000000 in
set_option maxRecDepth 100000 in
theorem num_Near.calls (a0 : Int) (a1 : Int) (a2 : Int) (r : Int) (w : World) (h : num_Near.f a0 a1 a2 = some r) :
    Calls Try.prog 24 #[.int .i64 a0, .int .i64 a1, .int .i64 a2] w fun e w' => e = .returned (.int .i64 r) ∧ Drawn0 w w' := by
  have H : (if a0 < a1 then (some a1) else (if a0 > a2 then (some a2) else (some a0))) = some r := h
  clear h
  by_cases c4 : a0 < a1
  · rw [if_pos c4] at H
    have c4b0 : decide (a0 < a1) = true := decide_eq_true c4
    clear c4
    obtain rfl := Option.some.inj H
    go_enter Try.func24, Try.ntmps24
    go_wp2
    go_ret
    exact ⟨by first | rfl | (simp; done) | (simp [*]; done) | (simp; generalize ByteArray.toList _ = l_; cases l_ <;> rfl), by repeat (first | exact Drawn0.refl _ | apply Drawn0.step)⟩
  · rw [if_neg c4] at H
    have c4b0 : decide (a0 < a1) = false := decide_eq_false c4
    clear c4
    by_cases c5 : a0 > a2
    · rw [if_pos c5] at H
      have c5b0 : decide (a2 < a0) = true := decide_eq_true c5
      clear c5
      obtain rfl := Option.some.inj H
      go_enter Try.func24, Try.ntmps24
      go_wp2
      go_ret
      exact ⟨by first | rfl | (simp; done) | (simp [*]; done) | (simp; generalize ByteArray.toList _ = l_; cases l_ <;> rfl), by repeat (first | exact Drawn0.refl _ | apply Drawn0.step)⟩
    · rw [if_neg c5] at H
      have c5b0 : decide (a2 < a0) = false := decide_eq_false c5
      clear c5
      obtain rfl := Option.some.inj H
      go_enter Try.func24, Try.ntmps24
      go_wp2
      go_ret
      exact ⟨by first | rfl | (simp; done) | (simp [*]; done) | (simp; generalize ByteArray.toList _ = l_; cases l_ <;> rfl), by repeat (first | exact Drawn0.refl _ | apply Drawn0.step)⟩

/-! ### accountingref01_Near: function 25 -/
def accountingref01_Near.f (a0 : Int) (a1 : Int) (a2 : Int) : Option (Int) := if a0 < a1 then (some a1) else (if a0 > a2 then (some a2) else (some a0))
set_option maxHeartbeats 8000000 in
set_option maxRecDepth 100000 in
theorem accountingref01_Near.calls (a0 : Int) (a1 : Int) (a2 : Int) (r : Int) (w : World) (h : accountingref01_Near.f a0 a1 a2 = some r) :
    Calls Try.prog 25 #[.int .i64 a0, .int .i64 a1, .int .i64 a2] w fun e w' => e = .returned (.int .i64 r) ∧ Drawn0 w w' := by
  have H : (if a0 < a1 then (some a1) else (if a0 > a2 then (some a2) else (some a0))) = some r := h
  clear h
  by_cases c4 : a0 < a1
  · rw [if_pos c4] at H
    have c4b0 : decide (a0 < a1) = true := decide_eq_true c4
    clear c4
    obtain rfl := Option.some.inj H
    go_enter Try.func25, Try.ntmps25
    go_wp2
    go_ret
    exact ⟨by first | rfl | (simp; done) | (simp [*]; done) | (simp; generalize ByteArray.toList _ = l_; cases l_ <;> rfl), by repeat (first | exact Drawn0.refl _ | apply Drawn0.step)⟩
  · rw [if_neg c4] at H
    have c4b0 : decide (a0 < a1) = false := decide_eq_false c4
    clear c4
    by_cases c5 : a0 > a2
    · rw [if_pos c5] at H
      have c5b0 : decide (a2 < a0) = true := decide_eq_true c5
      clear c5
      obtain rfl := Option.some.inj H
      go_enter Try.func25, Try.ntmps25
      go_wp2
      go_ret
      exact ⟨by first | rfl | (simp; done) | (simp [*]; done) | (simp; generalize ByteArray.toList _ = l_; cases l_ <;> rfl), by repeat (first | exact Drawn0.refl _ | apply Drawn0.step)⟩
    · rw [if_neg c5] at H
      have c5b0 : decide (a2 < a0) = false := decide_eq_false c5
      clear c5
      obtain rfl := Option.some.inj H
      go_enter Try.func25, Try.ntmps25
      go_wp2
      go_ret
      exact ⟨by first | rfl | (simp; done) | (simp [*]; done) | (simp; generalize ByteArray.toList _ = l_; cases l_ <;> rfl), by repeat (first | exact Drawn0.refl _ | apply Drawn0.step)⟩

/-! ### accountinglaw01_NumNear: function 8 -/
def accountinglaw01_NumNear.f (a0 : Int) (a1 : Int) (a2 : Int) : Option (Bool) := (num_Near.f a0 a1 a2).bind fun t165 => ((accountingref01_Near.f a0 a1 a2).bind fun t166 => (if t165 = t166 then ((num_Near.f 5 1 3).bind fun t167 => (if t167 = 3 then ((accountinglaw01_lives.f).bind fun t168 => (some t168)) else (some false))) else (some false)))
set_option maxHeartbeats 8000000 in
set_option maxRecDepth 100000 in
theorem accountinglaw01_NumNear.calls (a0 : Int) (a1 : Int) (a2 : Int) (r : Bool) (w : World) (h : accountinglaw01_NumNear.f a0 a1 a2 = some r) :
    Calls Try.prog 8 #[.int .i64 a0, .int .i64 a1, .int .i64 a2] w fun e w' => e = .returned (.bool r) ∧ Below w.heap.size w w' := by
  have HB := Aside0.mk (Below.refl w.heap.size w)
  have H : ((num_Near.f a0 a1 a2).bind fun t165 => ((accountingref01_Near.f a0 a1 a2).bind fun t166 => (if t165 = t166 then ((num_Near.f 5 1 3).bind fun t167 => (if t167 = 3 then ((accountinglaw01_lives.f).bind fun t168 => (some t168)) else (some false))) else (some false)))) = some r := h
  clear h
  replace H := Option.bind_eq_some_iff.mp H
  obtain ⟨t165, A40, H⟩ := H
  replace H : ((accountingref01_Near.f a0 a1 a2).bind fun t166 => (if t165 = t166 then ((num_Near.f 5 1 3).bind fun t167 => (if t167 = 3 then ((accountinglaw01_lives.f).bind fun t168 => (some t168)) else (some false))) else (some false))) = some r := H
  have A4 := Aside0.mk A40
  clear A40
  replace H := Option.bind_eq_some_iff.mp H
  obtain ⟨t166, A50, H⟩ := H
  replace H : (if t165 = t166 then ((num_Near.f 5 1 3).bind fun t167 => (if t167 = 3 then ((accountinglaw01_lives.f).bind fun t168 => (some t168)) else (some false))) else (some false)) = some r := H
  have A5 := Aside0.mk A50
  clear A50
  by_cases c6 : t165 = t166
  · rw [if_pos c6] at H
    have c6b0 : (t165 == t166) = true := beq_iff_eq.mpr c6
    have c6b1 : (t165 != t166) = false := bne_eq_false_iff_eq.mpr c6
    clear c6
    replace H := Option.bind_eq_some_iff.mp H
    obtain ⟨t167, A70, H⟩ := H
    replace H : (if t167 = 3 then ((accountinglaw01_lives.f).bind fun t168 => (some t168)) else (some false)) = some r := H
    have A7 := Aside0.mk A70
    clear A70
    by_cases c8 : t167 = 3
    · rw [if_pos c8] at H
      have c8b0 : (t167 == 3) = true := beq_iff_eq.mpr c8
      have c8b1 : (t167 != 3) = false := bne_eq_false_iff_eq.mpr c8
      clear c8
      replace H := Option.bind_eq_some_iff.mp H
      obtain ⟨t168, A90, H⟩ := H
      replace H : (some t168) = some r := H
      have A9 := Aside0.mk A90
      clear A90
      obtain rfl := Option.some.inj H
      go_enter Try.func8, Try.ntmps8
      go_wp2_with (first | ((with_reducible refine gate_callee (f := 24) rfl ?_); refine goesL_ (some 10) rfl rfl Try.func24 (by kernel_rfl) rfl #[.int .i64 a0, .int .i64 a1, .int .i64 a2] rfl (by (try simp only [List.map_toArray, List.map_cons, List.map_nil]); first | done | rfl | (simp only [List.length_drop, List.length_take]; rfl)) ?_; (with_reducible refine (num_Near.calls a0 a1 a2 t165 _ A4.out).mono ?_); rintro e w' ⟨rfl, ⟨nd, rfl⟩⟩; refine ⟨_, rfl, ?_⟩) | ((with_reducible refine gate_callee (f := 25) rfl ?_); refine goesL_ (some 14) rfl rfl Try.func25 (by kernel_rfl) rfl #[.int .i64 a0, .int .i64 a1, .int .i64 a2] rfl (by (try simp only [List.map_toArray, List.map_cons, List.map_nil]); first | done | rfl | (simp only [List.length_drop, List.length_take]; rfl)) ?_; (with_reducible refine (accountingref01_Near.calls a0 a1 a2 t166 _ A5.out).mono ?_); rintro e w' ⟨rfl, ⟨nd, rfl⟩⟩; refine ⟨_, rfl, ?_⟩) | (go_at_call 24; (with_reducible refine (num_Near.calls 5 1 3 t167 _ A7.out).mono ?_); rintro e w' ⟨rfl, ⟨nd, rfl⟩⟩) | (go_at_call 15; (with_reducible refine (accountinglaw01_lives.calls  t168 _ A9.out).mono ?_); rintro e w10 ⟨rfl, hb⟩; have n0_ := Aside0.mk (below_step (by repeat (first | (with_reducible first | exact HB.out | apply below_alloc | apply pw_below_drewN | apply below_drew1) | exact HB.out)) hb); clear HB; have HB := n0_; clear n0_; (try clear hb); (try clear hb2); (try clear hk); (try clear hi)))
      go_ret
      exact ⟨by first | rfl | (simp [errW_none, errW_some] <;> rfl) | (simp [*, errW_none, errW_some] <;> rfl), by repeat (first | (with_reducible first | exact HB.out | apply below_alloc | apply pw_below_drewN | apply below_drew1) | exact HB.out)⟩
    · rw [if_neg c8] at H
      have c8b0 : (t167 == 3) = false := beq_eq_false_iff_ne.mpr c8
      have c8b1 : (t167 != 3) = true := bne_iff_ne.mpr c8
      obtain rfl := Option.some.inj H
      go_enter Try.func8, Try.ntmps8
      go_wp2_with (first | ((with_reducible refine gate_callee (f := 24) rfl ?_); refine goesL_ (some 10) rfl rfl Try.func24 (by kernel_rfl) rfl #[.int .i64 a0, .int .i64 a1, .int .i64 a2] rfl (by (try simp only [List.map_toArray, List.map_cons, List.map_nil]); first | done | rfl | (simp only [List.length_drop, List.length_take]; rfl)) ?_; (with_reducible refine (num_Near.calls a0 a1 a2 t165 _ A4.out).mono ?_); rintro e w' ⟨rfl, ⟨nd, rfl⟩⟩; refine ⟨_, rfl, ?_⟩) | ((with_reducible refine gate_callee (f := 25) rfl ?_); refine goesL_ (some 14) rfl rfl Try.func25 (by kernel_rfl) rfl #[.int .i64 a0, .int .i64 a1, .int .i64 a2] rfl (by (try simp only [List.map_toArray, List.map_cons, List.map_nil]); first | done | rfl | (simp only [List.length_drop, List.length_take]; rfl)) ?_; (with_reducible refine (accountingref01_Near.calls a0 a1 a2 t166 _ A5.out).mono ?_); rintro e w' ⟨rfl, ⟨nd, rfl⟩⟩; refine ⟨_, rfl, ?_⟩) | (go_at_call 24; (with_reducible refine (num_Near.calls 5 1 3 t167 _ A7.out).mono ?_); rintro e w' ⟨rfl, ⟨nd, rfl⟩⟩))
      go_ret
      exact ⟨by first | rfl | (simp [errW_none, errW_some] <;> rfl) | (simp [*, errW_none, errW_some] <;> rfl), by repeat (first | (with_reducible first | exact HB.out | apply below_alloc | apply pw_below_drewN | apply below_drew1) | exact HB.out)⟩
  · rw [if_neg c6] at H
    have c6b0 : (t165 == t166) = false := beq_eq_false_iff_ne.mpr c6
    have c6b1 : (t165 != t166) = true := bne_iff_ne.mpr c6
    obtain rfl := Option.some.inj H
    go_enter Try.func8, Try.ntmps8
    go_wp2_with (first | ((with_reducible refine gate_callee (f := 24) rfl ?_); refine goesL_ (some 10) rfl rfl Try.func24 (by kernel_rfl) rfl #[.int .i64 a0, .int .i64 a1, .int .i64 a2] rfl (by (try simp only [List.map_toArray, List.map_cons, List.map_nil]); first | done | rfl | (simp only [List.length_drop, List.length_take]; rfl)) ?_; (with_reducible refine (num_Near.calls a0 a1 a2 t165 _ A4.out).mono ?_); rintro e w' ⟨rfl, ⟨nd, rfl⟩⟩; refine ⟨_, rfl, ?_⟩) | ((with_reducible refine gate_callee (f := 25) rfl ?_); refine goesL_ (some 14) rfl rfl Try.func25 (by kernel_rfl) rfl #[.int .i64 a0, .int .i64 a1, .int .i64 a2] rfl (by (try simp only [List.map_toArray, List.map_cons, List.map_nil]); first | done | rfl | (simp only [List.length_drop, List.length_take]; rfl)) ?_; (with_reducible refine (accountingref01_Near.calls a0 a1 a2 t166 _ A5.out).mono ?_); rintro e w' ⟨rfl, ⟨nd, rfl⟩⟩; refine ⟨_, rfl, ?_⟩))
    go_ret
    exact ⟨by first | rfl | (simp [errW_none, errW_some] <;> rfl) | (simp [*, errW_none, errW_some] <;> rfl), by repeat (first | (with_reducible first | exact HB.out | apply below_alloc | apply pw_below_drewN | apply below_drew1) | exact HB.out)⟩

/-- THE ONE PURE STATEMENT of accountinglaw01_NumNear: yours. -/
def accountinglaw01_NumNear.Pure : Prop := ∀ (a0 : Int) (a1 : Int) (a2 : Int), (Lit.int .i64 a0).wf = true → (Lit.int .i64 a1).wf = true → (Lit.int .i64 a2).wf = true → accountinglaw01_NumNear.f a0 a1 a2 = some true
theorem accountinglaw01_NumNear.walk (P : accountinglaw01_NumNear.Pure) (a0 : Int) (a1 : Int) (a2 : Int) (w : World) (w0 : (Lit.int .i64 a0).wf = true) (w1 : (Lit.int .i64 a1).wf = true) (w2 : (Lit.int .i64 a2).wf = true) :
    Calls Try.prog 8 #[.int .i64 a0, .int .i64 a1, .int .i64 a2] w fun e w' => e = .returned (.bool true) ∧ Below w.heap.size w w' := by
  have h := P a0 a1 a2 w0 w1 w2
  refine (accountinglaw01_NumNear.calls a0 a1 a2 true w h).mono ?_
  rintro e w' ⟨rfl, hd⟩
  exact ⟨rfl, hd⟩

-- NOT PRINTED: function 33 (bits_Add64)

/-! ### num_Sum: function 26 (by hand) -/
def num_Sum.f (l0 : List Int) : Option (Int × Bool) := if l0.length ≤ 17592186044416 ∧ allI64 l0 = true then some (fit (sumL l0)) else none
theorem add64_run (x y c : Int) (hx : 0 ≤ x) (hy : 0 ≤ y) (hc0 : 0 ≤ c) (hc : c ≤ 1) (w : World) :
    (callFunc 33 #[.int .u64 x, .int .u64 y, .int .u64 c]).run Try.prog w = .ok (.value (.tuple #[.int .u64 ((x + y + c) % 18446744073709551616), .int .u64 ((x + y + c) / 18446744073709551616)])) w := by
  rw [run_callFunc_extern Try.func33 (by kernel_rfl) (by kernel_rfl) (by kernel_rfl) (e := add64Entry) (by kernel_rfl), run_add64 x y c hx hy hc0 hc]
  rfl
set_option maxHeartbeats 1600000 in
theorem num_Sum.calls (A0 : Option Addr) (c0 : Nat) (l0 : List Int) (r1 : Int) (r2 : Bool) (w : World) (hr0 : Kd.C (Kd.int .i64) w A0 l0.length l0) (hc0 : l0.length ≤ c0) (h : num_Sum.f l0 = some (r1, r2)) :
    Calls Try.prog 26 #[.slice A0 l0.length c0] w fun e w' => e = .returned (.tuple #[.int .i64 r1, .bool r2]) ∧ Drawn0 w w' := by
  unfold num_Sum.f at h
  split at h <;> simp only [Option.some.injEq, reduceCtorEq] at h
  rename_i hb
  obtain ⟨hl, hal⟩ := hb
  have HL := Aside0.mk hl
  have HA : Aside0 (∀ k, (h : k < l0.length) → I64 l0[k]) := ⟨fun k h => by simpa using List.all_eq_true.mp hal _ (List.getElem_mem h)⟩
  have HE := Aside0.mk h
  have HR0 := Aside0.mk hr0
  clear h hal hr0 hl
  have hl : l0.length ≤ 17592186044416 := HL.out
  go_enter Try.func26, Try.ntmps26
  go_wp2
  go_loopw [4, 5, 11] (fun vh vl vi wr => ∃ (k : Nat) (hi lo : Int), k ≤ l0.length ∧ vh = .int .u64 hi ∧ vl = .int .u64 lo ∧ vi = .int .i64 (k : Int) ∧ Aside0 (SumInv l0 k hi lo) ∧ Drawn0 w wr) (fun _ _ vi _ => l0.length - (RowKit.intOf vi).toNat)
  case atStart => exact ⟨0, 0, 0, by omega, rfl, rfl, rfl, ⟨⟨rfl, rfl, by simp [sumL], by simp [sumL]⟩⟩, Drawn0.refl _⟩
  case round =>
    obtain ⟨k, hi, lo, hk, rfl, rfl, rfl, HI, ⟨m1, rfl⟩⟩ := hrel
    have b1 : 0 ≤ hi := by have := HI.out.hi_eq; omega
    have b2 : 0 ≤ lo := by have := HI.out.lo_eq; omega
    have b3 : lo < 18446744073709551616 := by have := HI.out.lo_eq; omega
    have b4 : hi < 18446744073709551616 := by have := HI.out.hi_eq; omega
    by_cases hlt : k < l0.length
    · obtain ⟨ad, rfl, hx⟩ := Kd.at_int HR0.out (k : Int) (by omega) (by omega)
      have hN := HI.out.next hlt (HA.out k hlt)
      have hxi : I64 l0[k] := HA.out k hlt
      have hrd : rd l0 (k : Int) = l0[k] := by simp [rd, List.getD_eq_getElem?_getD, List.getElem?_eq_getElem hlt]
      rw [hrd, Int.toNat_natCast] at hx
      generalize l0[k] = x at hN hxi hx
      obtain ⟨x1, x2⟩ := hxi
      obtain ⟨xu, hxu⟩ : ∃ xu, IntKind.u64.wrap x = xu := ⟨_, rfl⟩
      obtain ⟨xh, hxh⟩ : ∃ xh, IntKind.u64.wrap (x / 9223372036854775808) = xh := ⟨_, rfl⟩
      have exu : xu = x % 18446744073709551616 := by rw [← hxu, wu64]
      have exh : xh = x / 9223372036854775808 % 18446744073709551616 := by rw [← hxh, wu64]
      rw [← exu, ← exh, Int.add_zero] at hN
      have hc1 := fun W => add64_run lo xu 0 b2 (by omega) (by omega) (by omega) W
      have hc2 := fun W => add64_run hi xh ((lo + xu) / 18446744073709551616) b1 (by omega) (by omega) (by omega) W
      simp only [Int.add_zero] at hc1
      generalize (lo + xu) / 18446744073709551616 = cy at hN hc1 hc2
      generalize (lo + xu) % 18446744073709551616 = lo' at hN hc1
      generalize (hi + xh + cy) % 18446744073709551616 = hi' at hN hc2
      generalize (hi + xh + cy) / 18446744073709551616 = cz at hc2
      have HN := Aside0.mk hN
      clear hN hrd exu exh
      go_wp2
      go_roundw
      case rel => exact ⟨k + 1, hi', lo', by omega, rfl, rfl, by go_num, HN, (Drawn0.refl _).step _⟩
      case measure => simp [RowKit.intOf]; omega
    · obtain rfl : k = l0.length := by omega
      have hS := sum_end HI.out HL.out
      rw [HE.out] at hS
      have HS := Aside0.mk hS
      clear hS
      by_cases h1 : lo < 9223372036854775808
      · have HS1 := HS.out
        rw [if_pos h1] at HS1
        have hd : lo / 9223372036854775808 = 0 := by omega
        by_cases h2 : hi = 0
        · rw [if_pos h2] at HS1
          have HQ := Aside0.mk HS1
          clear HS1
          subst h2
          go_wp2
          go_ret2
          exact ⟨by have := HQ.out; simp only [Prod.mk.injEq] at this; rw [← this.1, ← this.2]; rfl, ⟨⟨_, rfl⟩⟩⟩
        · rw [if_neg h2] at HS1
          have HQ := Aside0.mk HS1
          clear HS1
          have h3 : ((0 : Int) != hi) = true := by rw [bne_iff_ne]; omega
          clear h2
          go_wp2
          go_ret2
          exact ⟨by have := HQ.out; simp only [Prod.mk.injEq] at this; rw [← this.1, ← this.2]; rfl, ⟨⟨_, rfl⟩⟩⟩
      · have HS1 := HS.out
        rw [if_neg h1] at HS1
        obtain ⟨n', hn'⟩ : ∃ n', wrap64 lo = n' := ⟨_, rfl⟩
        have en : n' = lo - 18446744073709551616 := by rw [← hn']; unfold wrap64; omega
        rw [← en] at HS1
        have hd : n' / 9223372036854775808 = -1 := by omega
        obtain ⟨M, hM⟩ : ∃ M, IntKind.u64.wrap (-1) = M := ⟨_, rfl⟩
        have eM : M = 18446744073709551615 := by rw [← hM, wu64]; rfl
        by_cases h2 : hi = 18446744073709551615
        · rw [if_pos h2] at HS1
          have HQ := Aside0.mk HS1
          clear HS1 en
          have h3 : (M != hi) = false := by rw [bne_eq_false_iff_eq]; omega
          clear h2 eM
          go_wp2
          go_ret2
          exact ⟨by have := HQ.out; simp only [Prod.mk.injEq] at this; rw [← this.1, ← this.2]; rfl, ⟨⟨_, rfl⟩⟩⟩
        · rw [if_neg h2] at HS1
          have HQ := Aside0.mk HS1
          clear HS1 en
          have h3 : (M != hi) = true := by rw [bne_iff_ne]; omega
          clear h2 eM
          go_wp2
          go_ret2
          exact ⟨by have := HQ.out; simp only [Prod.mk.injEq] at this; rw [← this.1, ← this.2]; rfl, ⟨⟨_, rfl⟩⟩⟩


end Go.Proofs.Ytienccbadjhcpaa.A
