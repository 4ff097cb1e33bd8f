-- By gen.py, a program of this session's, over the print's forms: not the print's own text.
import Derived.Test.YthmpapnhomngnaaDoorAx0
namespace Go.Proofs.YthmpapnhomngnaaDoor.A
open Go.RowKit Go.Proofs.YthmpapnhomngnaaDoor.B Go.Proofs.YthmpapnhomngnaaDoorW.PrintWords Go.Proofs.YthmpapnhomngnaaDoorW.PrintLast Go.Proofs.YthmpapnhomngnaaDoorW.PrintMore
attribute [local go_sem] max2_int min2_int max_two min_two max_three min_three max_four min_four   -- for this text's walks alone
set_option linter.unusedVariables false
set_option linter.unusedSimpArgs false

/-! ### num_size: function 43 (by hand) -/
def num_size.f (a0 : Int) : Option (Int) := if I64 a0 then some (a0.natAbs : Int) else none
theorem num_size.same (a0 : Int) (hb : I64 a0) (w : World) :
    Calls Tryd.prog 43 #[.int .i64 a0] w fun e w' => e = .returned (.int .u64 (a0.natAbs : Int)) ∧ w = w' := by
  obtain ⟨h0, h1⟩ := hb
  by_cases h : a0 < 0
  · go_enter Tryd.func43, Tryd.ntmps43
    go_wp2
    go_ret
    exact ⟨ret_int (by rw [wu64, wu64]; omega), rfl⟩
  · go_enter Tryd.func43, Tryd.ntmps43
    go_wp2
    go_ret
    exact ⟨ret_int (by omega), rfl⟩
theorem num_size.calls (a0 : Int) (r : Int) (w : World) (h : num_size.f a0 = some r) :
    Calls Tryd.prog 43 #[.int .i64 a0] w fun e w' => e = .returned (.int .u64 r) ∧ Drawn0 w w' := by
  unfold num_size.f at h
  split at h <;> simp only [Option.some.injEq, reduceCtorEq] at h
  rename_i hb
  subst h
  refine (num_size.same a0 hb w).mono ?_
  rintro e w' ⟨rfl, rfl⟩
  exact ⟨rfl, Drawn0.refl _⟩


/-! ### num_Text: function 30 (by hand) -/
theorem sl20 (W : World) (b m : Nat) (z : Int) (hz : z = (m : Int)) (h : m < 20) :
    (Instr.sliceAt 66 (.pointer (some ⟨b, 0, none⟩)) (some (.int .i64 z)) none none).run Tryd.prog W = .ok (.slice (some ⟨b, m, none⟩) (20 - m) (20 - m)) W := by
  subst hz
  have e1 : Tryd.prog.arrayLen 66 = 20 := by kernel_rfl
  have e2 : Tryd.prog.elem 66 = 5 := by kernel_rfl
  rw [run_sliceAt_array_l W 66 ⟨b, 0, none⟩ (by rw [e1, e2]; exact Tryd.underlying66) .i64 (m : Int) (by omega) (by rw [e1]; omega), e1, e2]
  have e3 : (Go.sizeOf 5).run Tryd.prog W = .ok 1 W := by kernel_rfl
  rw [e3]
  simp only [Result.andThen, slicedAt, Int.toNat_natCast, if_neg (show ¬ 20 = m by omega), Nat.mul_one, add_plain']
set_option maxHeartbeats 800000 in
set_option maxRecDepth 100000 in
theorem num_Text.itoa_calls (n : Int) (h0 : -9223372036854775808 ≤ n) (h1 : n < 9223372036854775808) (w : World) : Calls Tryd.prog 30 #[.int .i64 n] w fun e w' => e = .returned (.string ⟨(Lib.itoa n).toArray⟩) ∧ Below w.heap.size w w' := by
  have HP := Lib.hid (@itoa_pos n)
  have HM := Lib.hid (@itoa_neg' n)
  obtain ⟨u, hu⟩ : ∃ u : Nat, u = n.natAbs := ⟨_, rfl⟩
  rw [← hu] at HP HM
  have hu1 : u ≤ 9223372036854775808 := by omega
  have HU := Lib.hid hu
  clear hu
  go_enter Tryd.func30, Tryd.ntmps30
  go_wp2_with fail
  refine (num_size.same n ⟨h0, by omega⟩ _).mono ?_
  rintro e w' ⟨rfl, rfl⟩
  rw [← HU.out]
  go_wp2_with fail
  go_loopw [4, 5, 8] (fun at_ left i wr => ∃ m k : Nat, m + k = 19 ∧ at_ = .int .i64 ((m : Int) + 1) ∧ left = .int .u64 ((u / 10 ^ k : Nat) : Int) ∧ i = .int .i64 (k : Int) ∧ wr = w.alloc (.cells (trow u (m + 1)) 66) ∧ (k = 0 ∨ u / 10 ^ k ≠ 0)) (fun _ _ i _ => (19 - (RowKit.intOf i).toNat))
  case atStart => exact ⟨19, 0, rfl, rfl, by simp, rfl, by rw [trow_start]; rfl, .inl rfl⟩
  case round =>
    obtain ⟨m, k, hmk, rfl, rfl, rfl, rfl, hz⟩ := hrel
    have HZ := Lib.hid hz
    have hv19 : k = 19 → u / 10 ^ k = 0 := by intro e; rw [e]; exact Nat.div_eq_of_lt (by omega)
    have hk : k < 19 := by
      rcases Nat.lt_or_ge k 19 with h | h
      · exact h
      · have := hv19 (by omega); omega
    have hk18 : k = 18 → u / 10 ^ k < 10 := by intro e; rw [e]; omega
    clear hz hv19
    have HS := Lib.hid (trow_set u m k _ hmk rfl)
    have HY := Lib.hid (trow_digits u m k hmk)
    obtain ⟨v, hv⟩ : ∃ v, v = u / 10 ^ k := ⟨_, rfl⟩
    have hvle : v ≤ u := by rw [hv]; exact Nat.div_le_self _ _
    have hvq : u / 10 ^ (k + 1) = v / 10 := by rw [hv, Nat.pow_succ, Nat.div_div_eq_div_mul]
    rw [← hv] at HZ HS HY hk18 ⊢
    have HV := Lib.hid hv
    clear hv
    have hX := trow_at u (m + 1) m (by omega)
    obtain ⟨X, HX⟩ : ∃ X, X = trow u (m + 1) := ⟨_, rfl⟩
    obtain ⟨Y, HYY⟩ : ∃ Y, Y = trow u m := ⟨_, rfl⟩
    have HYA := Lib.hid (fun i h => trow_at u m i h)
    rw [← HX] at hX HS ⊢
    rw [← HYY] at HS HY HYA
    rw [if_neg (by omega)] at hX
    have HXX := Lib.hid HX
    clear HX
    have HYY' := Lib.hid HYY
    clear HYY
    have hset : X.setIfInBounds m (Value.int IntKind.u8 (48 + (v : Int) % 10)) = Y := by rw [← HS.out]; congr 2
    by_cases hv0 : v / 10 = 0
    · obtain ⟨hl, hd⟩ := HY.out (by rw [hvq]; exact hv0) HZ.out
      clear hk18
      have hb0 : ((v : Int) / 10 == 0) = true := by rw [beq_iff_eq]; omega
      by_cases hn : n < 0
      · obtain ⟨j, rfl⟩ : ∃ j, m = j + 1 := ⟨m - 1, by omega⟩
        have hY := HYA.out j (by omega)
        rw [if_neg (by omega)] at hY
        obtain ⟨Z, HZZ⟩ : ∃ Z, Z = Y.setIfInBounds j (.int .u8 45) := ⟨_, rfl⟩
        have hset2 : Y.setIfInBounds j (.int .u8 45) = Z := HZZ.symm
        have hsl := fun W b => sl20 W b j j rfl (by omega)
        have hcv := fun cap => conv_row (P := Tryd.prog) w 66 67 9 5 Tryd.underlying67 Tryd.underlying5 Tryd.underlying9 Z j (20 - j) cap (45 :: Lib.decDigits u) (by simp only [List.length_cons]; omega) (fun i hi => by
          subst HZZ
          rcases i with _ | i
          · rw [Nat.add_zero, Array.getElem?_setIfInBounds, if_pos rfl, if_pos (by rw [HYY'.out, trow_size]; omega)]; rfl
          · rw [Array.getElem?_setIfInBounds, if_neg (by omega), show j + (i + 1) = j + 1 + i by omega, hd i (by simpa using hi)]; rfl)
        clear hl hd hv0 HZZ hvq
        go_wp2_with fail
        go_ret
        refine ⟨by rw [HM.out hn]; rfl, ?_⟩
        exact (Below.refl _ _).alloc (Nat.le_refl _) _
      · have hsl := fun W b => sl20 W b m m rfl (by omega)
        have hcv := fun cap => conv_row (P := Tryd.prog) w 66 67 9 5 Tryd.underlying67 Tryd.underlying5 Tryd.underlying9 Y m (20 - m) cap (Lib.decDigits u) hl hd
        clear hl hd hv0 hvq
        go_wp2_with fail
        go_ret
        refine ⟨by rw [HP.out (by omega)]; rfl, ?_⟩
        exact (Below.refl _ _).alloc (Nat.le_refl _) _
    · have hb0 : ((v : Int) / 10 == 0) = false := by rw [beq_eq_false_iff_ne]; omega
      clear hk18
      clear HY HYA
      have HQ := Lib.hid hvq
      clear hvq
      have HV0 := Lib.hid hv0
      clear hv0
      go_wp2_with fail
      go_roundw
      case rel =>
        obtain ⟨j, rfl⟩ : ∃ j, m = j + 1 := ⟨m - 1, by omega⟩
        exact ⟨j, k + 1, by omega, by go_num, by rw [HQ.out]; go_num, by go_num, by rw [HYY'.out], .inr (by rw [HQ.out]; exact HV0.out)⟩
      case measure => simp [RowKit.intOf]; omega
def num_Text.f (a0 : Int) : Option (ByteArray) := if I64 a0 then some ⟨(Lib.itoa a0).toArray⟩ else none
theorem num_Text.calls (a0 : Int) (r : ByteArray) (w : World) (h : num_Text.f a0 = some r) :
    Calls Tryd.prog 30 #[.int .i64 a0] w fun e w' => e = .returned (.string r) ∧ Below w.heap.size w w' := by
  unfold num_Text.f at h
  split at h <;> simp only [Option.some.injEq, reduceCtorEq] at h
  rename_i hb
  subst h
  exact num_Text.itoa_calls a0 hb.1 (by have := hb.2; omega) w


end Go.Proofs.YthmpapnhomngnaaDoor.A
