-- By gen.py, a program of this session's, over the print's forms: not the print's own text.
import Derived.Test.YtoenhagbgfkihaaAx0
import Derived.Test.YtoenhagbgfkihaaQ
import Derived.Test.YtoenhagbgfkihaaAx2
import Derived.Test.YtoenhagbgfkihaaAx3
namespace Go.Proofs.Ytoenhagbgfkihaa.A
open Go.RowKit Go.Proofs.Ytoenhagbgfkihaa.B Go.Proofs.YtoenhagbgfkihaaW.PrintWords Go.Proofs.YtoenhagbgfkihaaW.PrintLast Go.Proofs.YtoenhagbgfkihaaW.PrintMore
attribute [local go_sem] max2_int min2_int max_two min_two max_three min_three max_four min_four   -- for this text's walks alone
set_option linter.unusedVariables false
set_option linter.unusedSimpArgs false

/-! ### num_Text: function 39 (by hand) -/
theorem sl20 (W : World) (b m : Nat) (z : Int) (hz : z = (m : Int)) (h : m < 20) :
  (Instr.sliceAt 85 (.pointer (some ⟨b, 0, none⟩)) (some (.int .i64 z)) none none).run Try.prog W = .ok (.slice (some ⟨b, m, none⟩) (20 - m) (20 - m)) W := by
 subst hz
 have e1 : Try.prog.arrayLen 85 = 20 := by kernel_rfl
 have e2 : Try.prog.elem 85 = 5 := by kernel_rfl
 rw [run_sliceAt_array_l W 85 ⟨b, 0, none⟩ (by rw [e1, e2]; exact Try.underlying85) .i64 (m : Int) (by omega) (by rw [e1]; omega), e1, e2]
 have e3 : (Go.sizeOf 5).run Try.prog W = .ok 1 W := by kernel_rfl
 rw [e3]
 simp only [Result.andThen, slicedAt, Int.toNat_natCast, if_neg (show ¬ 20 = m by omega), Nat.mul_one, add_plain']
set_option maxHeartbeats 800000 in
set_option maxRecDepth 100000 in
theorem num_Text.itoa_calls (n : Int) (h0 : -9223372036854775808 ≤ n) (h1 : n < 9223372036854775808) (w : World) : Calls Try.prog 39 #[.int .i64 n] w fun e w' => e = .returned (.string ⟨(Lib.itoa n).toArray⟩) ∧ Below w.heap.size w w' := by
 have HP := Lib.hid (@itoa_pos n)
 have HM := Lib.hid (@itoa_neg' n)
 obtain ⟨u, hu⟩ : ∃ u : Nat, u = n.natAbs := ⟨_, rfl⟩
 rw [← hu] at HP HM
 have hu1 : u ≤ 9223372036854775808 := by omega
 have HU := Lib.hid hu
 clear hu
 go_enter Try.func39, Try.ntmps39
 go_wp2_with fail
 refine (num_size.same n ⟨h0, by omega⟩ _).mono ?_
 rintro e w' ⟨rfl, rfl⟩
 rw [← HU.out]
 go_wp2_with fail
 go_loopw [4, 5, 8] (fun at_ left i wr => ∃ m k : Nat, m + k = 19 ∧ at_ = .int .i64 ((m : Int) + 1) ∧ left = .int .u64 ((u / 10 ^ k : Nat) : Int) ∧ i = .int .i64 (k : Int) ∧ wr = w.alloc (.cells (trow u (m + 1)) 85) ∧ (k = 0 ∨ u / 10 ^ k ≠ 0)) (fun _ _ i _ => (19 - (RowKit.intOf i).toNat))
 case atStart => exact ⟨19, 0, rfl, rfl, by simp, rfl, by rw [trow_start]; rfl, .inl rfl⟩
 case round =>
  obtain ⟨m, k, hmk, rfl, rfl, rfl, rfl, hz⟩ := hrel
  have HZ := Lib.hid hz
  have hv19 : k = 19 → u / 10 ^ k = 0 := by intro e; rw [e]; exact Nat.div_eq_of_lt (by omega)
  have hk : k < 19 := by
   rcases Nat.lt_or_ge k 19 with h | h
   ·exact h
   ·have := hv19 (by omega); omega
  have hk18 : k = 18 → u / 10 ^ k < 10 := by intro e; rw [e]; omega
  clear hz hv19
  have HS := Lib.hid (trow_set u m k _ hmk rfl)
  have HY := Lib.hid (trow_digits u m k hmk)
  obtain ⟨v, hv⟩ : ∃ v, v = u / 10 ^ k := ⟨_, rfl⟩
  have hvle : v ≤ u := by rw [hv]; exact Nat.div_le_self _ _
  have hvq : u / 10 ^ (k + 1) = v / 10 := by rw [hv, Nat.pow_succ, Nat.div_div_eq_div_mul]
  rw [← hv] at HZ HS HY hk18 ⊢
  have HV := Lib.hid hv
  clear hv
  have hX := trow_at u (m + 1) m (by omega)
  obtain ⟨X, HX⟩ : ∃ X, X = trow u (m + 1) := ⟨_, rfl⟩
  obtain ⟨Y, HYY⟩ : ∃ Y, Y = trow u m := ⟨_, rfl⟩
  have HYA := Lib.hid (fun i h => trow_at u m i h)
  rw [← HX] at hX HS ⊢
  rw [← HYY] at HS HY HYA
  rw [if_neg (by omega)] at hX
  have HXX := Lib.hid HX
  clear HX
  have HYY' := Lib.hid HYY
  clear HYY
  have hset : X.setIfInBounds m (Value.int IntKind.u8 (48 + (v : Int) % 10)) = Y := by rw [← HS.out]; congr 2
  by_cases hv0 : v / 10 = 0
  ·obtain ⟨hl, hd⟩ := HY.out (by rw [hvq]; exact hv0) HZ.out
   clear hk18
   have hb0 : ((v : Int) / 10 == 0) = true := by rw [beq_iff_eq]; omega
   by_cases hn : n < 0
   ·obtain ⟨j, rfl⟩ : ∃ j, m = j + 1 := ⟨m - 1, by omega⟩
    have hY := HYA.out j (by omega)
    rw [if_neg (by omega)] at hY
    obtain ⟨Z, HZZ⟩ : ∃ Z, Z = Y.setIfInBounds j (.int .u8 45) := ⟨_, rfl⟩
    have hset2 : Y.setIfInBounds j (.int .u8 45) = Z := HZZ.symm
    have hsl := fun W b => sl20 W b j j rfl (by omega)
    have hcv := fun cap => conv_row (P := Try.prog) w 85 55 9 5 Try.underlying55 Try.underlying5 Try.underlying9 Z j (20 - j) cap (45 :: Lib.decDigits u) (by simp only [List.length_cons]; omega) (fun i hi => by
     subst HZZ
     rcases i with _ | i
     ·rw [Nat.add_zero, Array.getElem?_setIfInBounds, if_pos rfl, if_pos (by rw [HYY'.out, trow_size]; omega)]; rfl
     ·rw [Array.getElem?_setIfInBounds, if_neg (by omega), show j + (i + 1) = j + 1 + i by omega, hd i (by simpa using hi)]; rfl)
    clear hl hd hv0 HZZ hvq
    go_wp2_with fail
    go_ret
    refine ⟨by rw [HM.out hn]; rfl, ?_⟩
    exact (Below.refl _ _).alloc (Nat.le_refl _) _
   ·have hsl := fun W b => sl20 W b m m rfl (by omega)
    have hcv := fun cap => conv_row (P := Try.prog) w 85 55 9 5 Try.underlying55 Try.underlying5 Try.underlying9 Y m (20 - m) cap (Lib.decDigits u) hl hd
    clear hl hd hv0 hvq
    go_wp2_with fail
    go_ret
    refine ⟨by rw [HP.out (by omega)]; rfl, ?_⟩
    exact (Below.refl _ _).alloc (Nat.le_refl _) _
  ·have hb0 : ((v : Int) / 10 == 0) = false := by rw [beq_eq_false_iff_ne]; omega
   clear hk18
   clear HY HYA
   have HQ := Lib.hid hvq
   clear hvq
   have HV0 := Lib.hid hv0
   clear hv0
   go_wp2_with fail
   go_roundw
   case rel =>
    obtain ⟨j, rfl⟩ : ∃ j, m = j + 1 := ⟨m - 1, by omega⟩
    exact ⟨j, k + 1, by omega, by go_num, by rw [HQ.out]; go_num, by go_num, by rw [HYY'.out], .inr (by rw [HQ.out]; exact HV0.out)⟩
   case measure => simp [RowKit.intOf]; omega
def num_Text.f (a0 : Int) : Option (ByteArray) := if I64 a0 then some ⟨(Lib.itoa a0).toArray⟩ else none
theorem num_Text.calls (a0 : Int) (r : ByteArray) (w : World) (h : num_Text.f a0 = some r) :
  Calls Try.prog 39 #[.int .i64 a0] w fun e w' => e = .returned (.string r) ∧ Below w.heap.size w w' := by
 unfold num_Text.f at h
 split at h <;> simp only [Option.some.injEq, reduceCtorEq] at h
 rename_i hb
 subst h
 exact num_Text.itoa_calls a0 hb.1 (by have := hb.2; omega) w


/-! ### frac_Text: function 19 -/
def frac_Text.f (k : Nat) (a0_0 : Int) (a0_1 : Int) : Option (ByteArray × Int) := (frac_Right.f k a0_0 a0_1).bind fun t119 => (if t119 = true then ((num_Text.f a0_0).bind fun t120 => (if a0_1 = 1 then (some (t120, 0)) else ((num_Text.f a0_1).bind fun t121 => (if 1 + t121.size ≤ 9223372036854775807 then (if t120.size + ((⟨#[47]⟩ : ByteArray) ++ t121).size ≤ 9223372036854775807 then (some (t120 ++ ((⟨#[47]⟩ : ByteArray) ++ t121), 0)) else (none)) else (none))))) else (some ((⟨#[]⟩ : ByteArray), 2)))
theorem frac_Text.mono : ∀ a0 a1 k, LeO (frac_Text.f k a0 a1) (frac_Text.f (k + 1) a0 a1) := by
 intro a0 a1 k
 unfold frac_Text.f
 repeat' first
   | (with_reducible exact frac_Right.mono _ _ _)
   | (with_reducible exact LeO.refl _)
   | (with_reducible exact LeO.none _)
   | (with_reducible refine LeO.ite ?_ ?_)
   | (with_reducible refine LeO.bind ?_ (fun _ => ?_))
   | exact frac_Right.mono _ _ _
   | exact LeO.none _
   | refine LeO.ite ?_ ?_
   | refine LeO.bind ?_ (fun _ => ?_)
set_option maxHeartbeats 8000000 in
set_option maxRecDepth 100000 in
theorem frac_Text.calls (k : Nat) (a0_0 : Int) (a0_1 : Int) (r1 : ByteArray) (r2 : Int) (w : World) (h : frac_Text.f k a0_0 a0_1 = some (r1, r2)) :
  Calls Try.prog 19 #[.agg #[.int .i64 a0_0, .int .i64 a0_1]] w fun e w' => e = .returned (.tuple #[.string r1, .int .i64 r2]) ∧ Below w.heap.size w w' := by
 have hu23 := Try.underlying23
 have HB := Aside0.mk (Below.refl w.heap.size w)
 have H : ((frac_Right.f k a0_0 a0_1).bind fun t119 => (if t119 = true then ((num_Text.f a0_0).bind fun t120 => (if a0_1 = 1 then (some (t120, 0)) else ((num_Text.f a0_1).bind fun t121 => (if 1 + t121.size ≤ 9223372036854775807 then (if t120.size + ((⟨#[47]⟩ : ByteArray) ++ t121).size ≤ 9223372036854775807 then (some (t120 ++ ((⟨#[47]⟩ : ByteArray) ++ t121), 0)) else (none)) else (none))))) else (some ((⟨#[]⟩ : ByteArray), 2)))) = some (r1, r2) := h
 clear h
 replace H := Option.bind_eq_some_iff.mp H
 obtain ⟨t119, A20, H⟩ := H
 replace H : (if t119 = true then ((num_Text.f a0_0).bind fun t120 => (if a0_1 = 1 then (some (t120, 0)) else ((num_Text.f a0_1).bind fun t121 => (if 1 + t121.size ≤ 9223372036854775807 then (if t120.size + ((⟨#[47]⟩ : ByteArray) ++ t121).size ≤ 9223372036854775807 then (some (t120 ++ ((⟨#[47]⟩ : ByteArray) ++ t121), 0)) else (none)) else (none))))) else (some ((⟨#[]⟩ : ByteArray), 2))) = some (r1, r2) := H
 have A2 := Aside0.mk A20
 clear A20
 by_cases c3 : t119 = true
 ·subst c3
  have H1 : ((num_Text.f a0_0).bind fun t120 => (if a0_1 = 1 then (some (t120, 0)) else ((num_Text.f a0_1).bind fun t121 => (if 1 + t121.size ≤ 9223372036854775807 then (if t120.size + ((⟨#[47]⟩ : ByteArray) ++ t121).size ≤ 9223372036854775807 then (some (t120 ++ ((⟨#[47]⟩ : ByteArray) ++ t121), 0)) else (none)) else (none))))) = some (r1, r2) := by rw [if_pos rfl] at H; exact H
  clear H
  have H := H1
  clear H1
  replace H := Option.bind_eq_some_iff.mp H
  obtain ⟨t120, A40, H⟩ := H
  replace H : (if a0_1 = 1 then (some (t120, 0)) else ((num_Text.f a0_1).bind fun t121 => (if 1 + t121.size ≤ 9223372036854775807 then (if t120.size + ((⟨#[47]⟩ : ByteArray) ++ t121).size ≤ 9223372036854775807 then (some (t120 ++ ((⟨#[47]⟩ : ByteArray) ++ t121), 0)) else (none)) else (none)))) = some (r1, r2) := H
  have A4 := Aside0.mk A40
  clear A40
  by_cases c5 : a0_1 = 1
  ·rw [if_pos c5] at H
   have c5b0 : (a0_1 == 1) = true := beq_iff_eq.mpr c5
   have c5b1 : (a0_1 != 1) = false := bne_eq_false_iff_eq.mpr c5
   clear c5
   simp only [Option.some.injEq, Prod.mk.injEq] at H
   obtain ⟨rfl, rfl⟩ := H
   go_enter Try.func19, Try.ntmps19
   go_wp2_with (first | ((with_reducible refine gate_dst (N := 1) rfl ?_); refine box_event ?hg (N := 1) ?hd (cs := #[.int .i64 a0_0, .int .i64 a0_1]) (t := 23) ?hr ?_; (case hd => rfl); (case hg => rfl); (case hr => first | (go_simp; done) | (go_simp; rfl)); intro gb118 hg w6 hbox hb; have n0_ := Aside0.mk (below_step q11 hb); have n1_ := Aside0.mk (hbox); have n2_ := Aside0.mk ((q12 : w.heap.size ≤ gb118)); have n3_ := Aside0.mk ((q12 : w.heap.size ≤ gb118)); clear HB; have HB := n0_; have BK118 := n1_; have GW118 := n2_; have GE118 := n3_; clear n0_ n1_ n2_ n3_; clear hb hbox hg; have hcz7_0 : w6.cell? ⟨gb118, 0, none⟩ = some (.int .i64 a0_0) := (blk_cell BK118.out 0).trans rfl; have hcz7_1 : w6.cell? ⟨gb118, 1, none⟩ = some (.int .i64 a0_1) := (blk_cell BK118.out 1).trans rfl; have hfz7_0 := blk_frozen BK118.out 0; have hfz7_1 := blk_frozen BK118.out 1) | ((with_reducible refine gate_callee (f := 12) rfl ?_); refine goesL_ (some 5) rfl rfl Try.func12 (by kernel_rfl) rfl #[.agg #[.int .i64 a0_0, .int .i64 a0_1]] rfl q20 ?_; (with_reducible refine (frac_Right.calls k a0_0 a0_1 true _ A2.out).mono ?_); rintro e w8 ⟨rfl, hb⟩; refine ⟨_, rfl, ?_⟩; have n0_ := Aside0.mk (blk_below (g := gb118) (o := .cells #[.int .i64 a0_0, .int .i64 a0_1] 23 (0, 0)) q188 hb); have n1_ := Aside0.mk (below_step q189 hb); clear BK118; clear HB; have BK118 := n0_; have HB := n1_; clear n0_ n1_; (try clear hb); (try clear hb2); (try clear hk); (try clear hi); have hcz9_0 : w8.cell? ⟨gb118, 0, none⟩ = some (.int .i64 a0_0) := (blk_cell BK118.out 0).trans rfl; have hcz9_1 : w8.cell? ⟨gb118, 1, none⟩ = some (.int .i64 a0_1) := (blk_cell BK118.out 1).trans rfl; have hfz9_0 := blk_frozen BK118.out 0; have hfz9_1 := blk_frozen BK118.out 1) | ((with_reducible refine gate_callee (f := 39) rfl ?_); refine goesL_ (some 9) rfl rfl Try.func39 (by kernel_rfl) rfl #[.int .i64 a0_0] rfl q20 ?_; (with_reducible refine (num_Text.calls a0_0 t120 _ A4.out).mono ?_); rintro e w10 ⟨rfl, hb⟩; refine ⟨_, rfl, ?_⟩; have n0_ := Aside0.mk (blk_below (g := gb118) (o := .cells #[.int .i64 a0_0, .int .i64 a0_1] 23 (0, 0)) q188 hb); have n1_ := Aside0.mk (below_step q189 hb); clear BK118; clear HB; have BK118 := n0_; have HB := n1_; clear n0_ n1_; (try clear hb); (try clear hb2); (try clear hk); (try clear hi); have hcz11_0 : w10.cell? ⟨gb118, 0, none⟩ = some (.int .i64 a0_0) := (blk_cell BK118.out 0).trans rfl; have hcz11_1 : w10.cell? ⟨gb118, 1, none⟩ = some (.int .i64 a0_1) := (blk_cell BK118.out 1).trans rfl; have hfz11_0 := blk_frozen BK118.out 0; have hfz11_1 := blk_frozen BK118.out 1))
   go_ret2
   exact ⟨q13, q189⟩
  ·rw [if_neg c5] at H
   have c5b0 : (a0_1 == 1) = false := beq_eq_false_iff_ne.mpr c5
   have c5b1 : (a0_1 != 1) = true := bne_iff_ne.mpr c5
   replace H := Option.bind_eq_some_iff.mp H
   obtain ⟨t121, A120, H⟩ := H
   replace H : (if 1 + t121.size ≤ 9223372036854775807 then (if t120.size + ((⟨#[47]⟩ : ByteArray) ++ t121).size ≤ 9223372036854775807 then (some (t120 ++ ((⟨#[47]⟩ : ByteArray) ++ t121), 0)) else (none)) else (none)) = some (r1, r2) := H
   have A12 := Aside0.mk A120
   clear A120
   by_cases c13 : 1 + t121.size ≤ 9223372036854775807
   ·rw [if_pos c13] at H
    have c13b0 := eq_true c13
    have c13b1 : decide (1 + t121.size ≤ 9223372036854775807) = true := decide_eq_true c13
    try have c13b2 : (9223372036854775807 < 1 + t121.size) = False := eq_false (Nat.not_lt.2 c13)
    by_cases c14 : t120.size + ((⟨#[47]⟩ : ByteArray) ++ t121).size ≤ 9223372036854775807
    ·rw [if_pos c14] at H
     have c14b0 := eq_true c14
     have c14b1 : decide (t120.size + ((⟨#[47]⟩ : ByteArray) ++ t121).size ≤ 9223372036854775807) = true := decide_eq_true c14
     try have c14b2 : (9223372036854775807 < t120.size + ((⟨#[47]⟩ : ByteArray) ++ t121).size) = False := eq_false (Nat.not_lt.2 c14)
     simp only [Option.some.injEq, Prod.mk.injEq] at H
     obtain ⟨rfl, rfl⟩ := H
     go_enter Try.func19, Try.ntmps19
     go_wp2_with (first | ((with_reducible refine gate_dst (N := 1) rfl ?_); refine box_event ?hg (N := 1) ?hd (cs := #[.int .i64 a0_0, .int .i64 a0_1]) (t := 23) ?hr ?_; (case hd => rfl); (case hg => rfl); (case hr => first | (go_simp; done) | (go_simp; rfl)); intro gb118 hg w15 hbox hb; have n0_ := Aside0.mk (below_step q11 hb); have n1_ := Aside0.mk (hbox); have n2_ := Aside0.mk ((q12 : w.heap.size ≤ gb118)); have n3_ := Aside0.mk ((q12 : w.heap.size ≤ gb118)); clear HB; have HB := n0_; have BK118 := n1_; have GW118 := n2_; have GE118 := n3_; clear n0_ n1_ n2_ n3_; clear hb hbox hg; have hcz16_0 : w15.cell? ⟨gb118, 0, none⟩ = some (.int .i64 a0_0) := (blk_cell BK118.out 0).trans rfl; have hcz16_1 : w15.cell? ⟨gb118, 1, none⟩ = some (.int .i64 a0_1) := (blk_cell BK118.out 1).trans rfl; have hfz16_0 := blk_frozen BK118.out 0; have hfz16_1 := blk_frozen BK118.out 1) | ((with_reducible refine gate_callee (f := 12) rfl ?_); refine goesL_ (some 5) rfl rfl Try.func12 (by kernel_rfl) rfl #[.agg #[.int .i64 a0_0, .int .i64 a0_1]] rfl q20 ?_; (with_reducible refine (frac_Right.calls k a0_0 a0_1 true _ A2.out).mono ?_); rintro e w17 ⟨rfl, hb⟩; refine ⟨_, rfl, ?_⟩; have n0_ := Aside0.mk (blk_below (g := gb118) (o := .cells #[.int .i64 a0_0, .int .i64 a0_1] 23 (0, 0)) q188 hb); have n1_ := Aside0.mk (below_step q189 hb); clear BK118; clear HB; have BK118 := n0_; have HB := n1_; clear n0_ n1_; (try clear hb); (try clear hb2); (try clear hk); (try clear hi); have hcz18_0 : w17.cell? ⟨gb118, 0, none⟩ = some (.int .i64 a0_0) := (blk_cell BK118.out 0).trans rfl; have hcz18_1 : w17.cell? ⟨gb118, 1, none⟩ = some (.int .i64 a0_1) := (blk_cell BK118.out 1).trans rfl; have hfz18_0 := blk_frozen BK118.out 0; have hfz18_1 := blk_frozen BK118.out 1) | ((with_reducible refine gate_callee (f := 39) rfl ?_); refine goesL_ (some 9) rfl rfl Try.func39 (by kernel_rfl) rfl #[.int .i64 a0_0] rfl q20 ?_; (with_reducible refine (num_Text.calls a0_0 t120 _ A4.out).mono ?_); rintro e w19 ⟨rfl, hb⟩; refine ⟨_, rfl, ?_⟩; have n0_ := Aside0.mk (blk_below (g := gb118) (o := .cells #[.int .i64 a0_0, .int .i64 a0_1] 23 (0, 0)) q188 hb); have n1_ := Aside0.mk (below_step q189 hb); clear BK118; clear HB; have BK118 := n0_; have HB := n1_; clear n0_ n1_; (try clear hb); (try clear hb2); (try clear hk); (try clear hi); have hcz20_0 : w19.cell? ⟨gb118, 0, none⟩ = some (.int .i64 a0_0) := (blk_cell BK118.out 0).trans rfl; have hcz20_1 : w19.cell? ⟨gb118, 1, none⟩ = some (.int .i64 a0_1) := (blk_cell BK118.out 1).trans rfl; have hfz20_0 := blk_frozen BK118.out 0; have hfz20_1 := blk_frozen BK118.out 1) | ((with_reducible refine gate_callee (f := 39) rfl ?_); refine goesL_ (some 16) rfl rfl Try.func39 (by kernel_rfl) rfl #[.int .i64 a0_1] rfl q20 ?_; (with_reducible refine (num_Text.calls a0_1 t121 _ A12.out).mono ?_); rintro e w21 ⟨rfl, hb⟩; refine ⟨_, rfl, ?_⟩; have n0_ := Aside0.mk (blk_below (g := gb118) (o := .cells #[.int .i64 a0_0, .int .i64 a0_1] 23 (0, 0)) q188 hb); have n1_ := Aside0.mk (below_step q189 hb); clear BK118; clear HB; have BK118 := n0_; have HB := n1_; clear n0_ n1_; (try clear hb); (try clear hb2); (try clear hk); (try clear hi)))
     go_ret2
     exact ⟨q13, q189⟩
    ·rw [if_neg c14] at H
     exact absurd H (by simp)
   ·rw [if_neg c13] at H
    exact absurd H (by simp)
 ·replace c3 := Bool.eq_false_iff.mpr c3
  subst c3
  have H1 : (some ((⟨#[]⟩ : ByteArray), 2)) = some (r1, r2) := by rw [if_neg (show ¬ (false = true) by decide)] at H; exact H
  clear H
  have H := H1
  clear H1
  simp only [Option.some.injEq, Prod.mk.injEq] at H
  obtain ⟨rfl, rfl⟩ := H
  go_enter Try.func19, Try.ntmps19
  go_wp2_with (first | ((with_reducible refine gate_dst (N := 1) rfl ?_); refine box_event ?hg (N := 1) ?hd (cs := #[.int .i64 a0_0, .int .i64 a0_1]) (t := 23) ?hr ?_; (case hd => rfl); (case hg => rfl); (case hr => first | (go_simp; done) | (go_simp; rfl)); intro gb118 hg w22 hbox hb; have n0_ := Aside0.mk (below_step q11 hb); have n1_ := Aside0.mk (hbox); have n2_ := Aside0.mk ((q12 : w.heap.size ≤ gb118)); have n3_ := Aside0.mk ((q12 : w.heap.size ≤ gb118)); clear HB; have HB := n0_; have BK118 := n1_; have GW118 := n2_; have GE118 := n3_; clear n0_ n1_ n2_ n3_; clear hb hbox hg; have hcz23_0 : w22.cell? ⟨gb118, 0, none⟩ = some (.int .i64 a0_0) := (blk_cell BK118.out 0).trans rfl; have hcz23_1 : w22.cell? ⟨gb118, 1, none⟩ = some (.int .i64 a0_1) := (blk_cell BK118.out 1).trans rfl; have hfz23_0 := blk_frozen BK118.out 0; have hfz23_1 := blk_frozen BK118.out 1) | ((with_reducible refine gate_callee (f := 12) rfl ?_); refine goesL_ (some 5) rfl rfl Try.func12 (by kernel_rfl) rfl #[.agg #[.int .i64 a0_0, .int .i64 a0_1]] rfl q20 ?_; (with_reducible refine (frac_Right.calls k a0_0 a0_1 false _ A2.out).mono ?_); rintro e w24 ⟨rfl, hb⟩; refine ⟨_, rfl, ?_⟩; have n0_ := Aside0.mk (blk_below (g := gb118) (o := .cells #[.int .i64 a0_0, .int .i64 a0_1] 23 (0, 0)) q188 hb); have n1_ := Aside0.mk (below_step q189 hb); clear BK118; clear HB; have BK118 := n0_; have HB := n1_; clear n0_ n1_; (try clear hb); (try clear hb2); (try clear hk); (try clear hi)))
  go_ret2
  exact ⟨q13, q189⟩

/-! ### frac_scan: function 65 -/
def frac_scan.l0 : Nat → ByteArray → List Int → Option (List Int × ByteArray)
 | 0, _, _ => none
 | k + 1, x0, x4 => if x0.toList = ([] : List UInt8) then (some (x4, x0)) else (if 0 < (x0.size : Int) then (if (bt x0 0) ≥ 48 then (if (bt x0 0) ≤ 57 then (if x4.length < 140737488355328 then (if 1 ≤ (x0.size : Int) then (frac_scan.l0 k (x0.extract 1 x0.size) (x4 ++ [((bt x0 0) - 48) % 256])) else (none)) else (none)) else (some (x4, x0))) else (some (x4, x0))) else (none))
def frac_scan.f (k : Nat) (a0 : ByteArray) : Option (List Int × ByteArray) := frac_scan.l0 k a0 ([] : List Int)
theorem frac_scan.mono_l : ∀ k, (∀ y0 y1, LeO (frac_scan.l0 k y0 y1) (frac_scan.l0 (k + 1) y0 y1))
 | 0 => fun _ _ r h => by simp [frac_scan.l0] at h
 | k + 1 => by
  have ih0 := frac_scan.mono_l k
  ·intro y0 y1
   unfold frac_scan.l0
   repeat' first
   | (with_reducible exact ih0 _ _)
   | (with_reducible exact LeO.refl _)
   | (with_reducible exact LeO.none _)
   | (with_reducible refine LeO.ite ?_ ?_)
   | (with_reducible refine LeO.bind ?_ (fun _ => ?_))
   | exact ih0 _ _
   | exact LeO.none _
   | refine LeO.ite ?_ ?_
   | refine LeO.bind ?_ (fun _ => ?_)
theorem frac_scan.mono : ∀ a0 k, LeO (frac_scan.f k a0) (frac_scan.f (k + 1) a0) := by
 intro a0 k
 have ih0 := frac_scan.mono_l k
 unfold frac_scan.f
 repeat' first
   | (with_reducible exact ih0 _ _)
   | (with_reducible exact LeO.refl _)
   | (with_reducible exact LeO.none _)
   | (with_reducible refine LeO.ite ?_ ?_)
   | (with_reducible refine LeO.bind ?_ (fun _ => ?_))
   | exact ih0 _ _
   | exact LeO.none _
   | refine LeO.ite ?_ ?_
   | refine LeO.bind ?_ (fun _ => ?_)
set_option maxHeartbeats 8000000 in
set_option maxRecDepth 100000 in
theorem frac_scan.calls (k : Nat) (a0 : ByteArray) (r1 : List Int) (r2 : ByteArray) (w : World) (h : frac_scan.f k a0 = some (r1, r2)) :
  Calls Try.prog 65 #[.string a0] w fun e w' => ∃ v0_ : Value, e = .returned (.tuple #[v0_, .string r2]) ∧ Kd.R (Kd.int .u8) 5 w' w.heap.size (fun _ => True) v0_ r1 ∧ Below w.heap.size w w' := by
 have HB := Aside0.mk (Below.refl w.heap.size w)
 have H : (frac_scan.l0 k a0 ([] : List Int)) = some (r1, r2) := h
 clear h
 have H' := Aside0.mk H
 clear H
 go_enter Try.func65, Try.ntmps65
 go_wp2
 go_loopg [0, 4] k (fun kq v0 v4 w' => ∃ (x0_1 : ByteArray) (x4_1 : List Int), v0 = .string x0_1 ∧ Aside0 (frac_scan.l0 kq x0_1 x4_1 = some (r1, r2)) ∧ Aside0 (kq ≤ k) ∧ Aside0 (Kd.R (Kd.int .u8) 5 w' w.heap.size (fun _ => True) v4 x4_1) ∧ Aside0 (Below w.heap.size w w'))
 case atStart => exact ⟨(a0), (([] : List Int)), q9, H', ⟨Nat.le_refl _⟩, ⟨q80⟩, ⟨q11⟩⟩
 case round =>
  clear H'
  obtain ⟨x0_1, x4_1, rfl, HA, HK1, HO_4, HB⟩ := hrel
  cases gk with
  | zero => exact absurd HA.out (by simp [frac_scan.l0])
  | succ k1 =>
   have H := HA.out
   clear HA
   simp only [frac_scan.l0] at H
   by_cases c2 : x0_1.toList = ([] : List UInt8)
   ·rw [if_pos c2] at H
    have c2b0 : (x0_1.toList == ([] : List UInt8)) = true := beq_iff_eq.mpr c2
    have c2b1 : (x0_1.toList != ([] : List UInt8)) = false := bne_eq_false_iff_eq.mpr c2
    clear c2
    simp only [Option.some.injEq, Prod.mk.injEq] at H
    obtain ⟨rfl, rfl⟩ := H
    go_wp2
    go_ret2
    exact ⟨_, q13, q190, q11⟩
   ·rw [if_neg c2] at H
    have c2b0 : (x0_1.toList == ([] : List UInt8)) = false := beq_eq_false_iff_ne.mpr c2
    have c2b1 : (x0_1.toList != ([] : List UInt8)) = true := bne_iff_ne.mpr c2
    by_cases c3 : 0 < (x0_1.size : Int)
    ·rw [if_pos c3] at H
     have c3b0 : decide (0 < (x0_1.size : Int)) = true := decide_eq_true c3
     have c3b1 : decide (0 < x0_1.size) = true := decide_eq_true (by omega)
     clear c3
     by_cases c5 : (bt x0_1 0) ≥ 48
     ·rw [if_pos c5] at H
      have c5b0 : decide (48 ≤ (bt x0_1 0)) = true := decide_eq_true c5
      clear c5
      by_cases c7 : (bt x0_1 0) ≤ 57
      ·rw [if_pos c7] at H
       have c7b0 : decide ((bt x0_1 0) ≤ 57) = true := decide_eq_true c7
       clear c7
       by_cases c9 : x4_1.length < 140737488355328
       ·rw [if_pos c9] at H
        have LMc9 := Aside0.mk c9
        clear c9
        obtain ⟨y122, hy122⟩ : ∃ y_ : List Int, y_ = (x4_1 ++ [((bt x0_1 0) - 48) % 256]) := ⟨_, rfl⟩
        replace H : (if 1 ≤ (x0_1.size : Int) then (frac_scan.l0 k1 (x0_1.extract 1 x0_1.size) y122) else (none)) = some (r1, r2) := by first | (rw [hy122]; with_reducible exact H) | (have H2_ := (Option.bind_some _ _).symm.trans H; rw [hy122]; with_reducible exact H2_) | (have H2_ := (Option.bind_some _ _).symm.trans H; with_reducible exact H2_) | with_reducible exact H | (rw [hy122]; exact H) | exact H
        have Ny122 := Aside0.mk hy122
        clear hy122
        by_cases c10 : 1 ≤ (x0_1.size : Int)
        ·rw [if_pos c10] at H
         have c10b0 := eq_true c10
         have c10b1 : decide (1 ≤ (x0_1.size : Int)) = true := decide_eq_true c10
         clear c10
         have H' := Aside0.mk H
         clear H
         have p4 : 0 ≤ (0 : Int) := (by omega)
         have q4 : 0 < x0_1.size := (by have : (0 : Int) < (x0_1.size : Int) := of_decide_eq_true q78; omega)
         have hx4 : ∀ h : 0 < x0_1.size, ((x0_1[0]'h).toNat : Int) = bt x0_1 0 := bt_at x0_1 0
         clear p4
         have qi4 : (0 < (x0_1.size : Int)) = True := eq_true (of_decide_eq_true q78)
         replace q4 := eq_true q4
         have p6 : 0 ≤ (0 : Int) := (by omega)
         have q6 : 0 < x0_1.size := (by have : (0 : Int) < (x0_1.size : Int) := of_decide_eq_true q78; omega)
         have hx6 : ∀ h : 0 < x0_1.size, ((x0_1[0]'h).toNat : Int) = bt x0_1 0 := bt_at x0_1 0
         clear p6
         have qi6 : (0 < (x0_1.size : Int)) = True := eq_true (of_decide_eq_true q78)
         replace q6 := eq_true q6
         have p8 : 0 ≤ (0 : Int) := (by omega)
         have q8 : 0 < x0_1.size := (by have : (0 : Int) < (x0_1.size : Int) := of_decide_eq_true q78; omega)
         have hx8 : ∀ h : 0 < x0_1.size, ((x0_1[0]'h).toNat : Int) = bt x0_1 0 := bt_at x0_1 0
         clear p8
         have qi8 : (0 < (x0_1.size : Int)) = True := eq_true (of_decide_eq_true q78)
         replace q8 := eq_true q8
         go_wp2_with (first | ((with_reducible refine gate_builtin (b := .append) (xs := #[.tmp 17, .tmp 21]) rfl ?_); at_builtin; refine Kd.R_append (Kd.int .u8) (w0 := w) w.heap.size rfl (.tmp 17) (.tmp 21) 56 5 (.int .u8 0) 1 rfl Try.underlying56 info5 rfl (by decide) (by omega) u4 x4_1 (((bt x0_1 0) - 48) % 256) [.int .u8 (((bt x0_1 0) - 48) % 256)] (fun _ => True) (fun _ => False) rfl rfl ?aP (fun _ hk => hk.elim) ?aF ?aO ?aB ?aS ?aL ?_; (case aP => exact rfl); (case aB => exact q11); (case aF => exact (fun _ _ => trivial)); (case aO => exact q190); (case aS => exact (below_size q11)); (case aL => have := LMc9.out; omega); intro v123 w11 ho hb hg hat; rw [← Ny122.out] at ho; have n0_ := Aside0.mk (hb); have n1_ := Aside0.mk (ho); clear HB; clear HO_4; have HB := n0_; have HO124 := n1_; clear n0_ n1_; clear ho hb hg hat))
         go_roundg k1
         case measure => have := HK1.out; omega
         case rel => exact ⟨(x0_1.extract 1 x0_1.size), (y122), q9, H', ⟨by have := HK1.out; omega⟩, ⟨by (with_reducible repeat (first | apply Kd.R_alloc | apply Kd.R_drewN | apply Kd.R_drew)); exact HO124.out⟩, ⟨q11⟩⟩
        ·rw [if_neg c10] at H
         exact absurd H (by simp)
       ·rw [if_neg c9] at H
        exact absurd H (by simp)
      ·rw [if_neg c7] at H
       have c7b0 : decide ((bt x0_1 0) ≤ 57) = false := decide_eq_false c7
       clear c7
       simp only [Option.some.injEq, Prod.mk.injEq] at H
       obtain ⟨rfl, rfl⟩ := H
       have p4 : 0 ≤ (0 : Int) := (by omega)
       have q4 : 0 < x0_1.size := (by have : (0 : Int) < (x0_1.size : Int) := of_decide_eq_true q78; omega)
       have hx4 : ∀ h : 0 < x0_1.size, ((x0_1[0]'h).toNat : Int) = bt x0_1 0 := bt_at x0_1 0
       clear p4
       have qi4 : (0 < (x0_1.size : Int)) = True := eq_true (of_decide_eq_true q78)
       replace q4 := eq_true q4
       have p6 : 0 ≤ (0 : Int) := (by omega)
       have q6 : 0 < x0_1.size := (by have : (0 : Int) < (x0_1.size : Int) := of_decide_eq_true q78; omega)
       have hx6 : ∀ h : 0 < x0_1.size, ((x0_1[0]'h).toNat : Int) = bt x0_1 0 := bt_at x0_1 0
       clear p6
       have qi6 : (0 < (x0_1.size : Int)) = True := eq_true (of_decide_eq_true q78)
       replace q6 := eq_true q6
       go_wp2
       go_ret2
       exact ⟨_, q13, q190, q11⟩
     ·rw [if_neg c5] at H
      have c5b0 : decide (48 ≤ (bt x0_1 0)) = false := decide_eq_false c5
      clear c5
      simp only [Option.some.injEq, Prod.mk.injEq] at H
      obtain ⟨rfl, rfl⟩ := H
      have p4 : 0 ≤ (0 : Int) := (by omega)
      have q4 : 0 < x0_1.size := (by have : (0 : Int) < (x0_1.size : Int) := of_decide_eq_true q78; omega)
      have hx4 : ∀ h : 0 < x0_1.size, ((x0_1[0]'h).toNat : Int) = bt x0_1 0 := bt_at x0_1 0
      clear p4
      have qi4 : (0 < (x0_1.size : Int)) = True := eq_true (of_decide_eq_true q78)
      replace q4 := eq_true q4
      go_wp2
      go_ret2
      exact ⟨_, q13, q190, q11⟩
    ·rw [if_neg c3] at H
     exact absurd H (by simp)

end Go.Proofs.Ytoenhagbgfkihaa.A
