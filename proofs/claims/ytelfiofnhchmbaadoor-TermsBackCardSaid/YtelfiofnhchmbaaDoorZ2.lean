-- By pack.py, a program of this session's: declarations of this seat's texts, put together for a claim.
import Derived.Test.YtelfiofnhchmbaaDoorZ1
namespace Go.Proofs.YtelfiofnhchmbaaDoor.A
open Go.RowKit Go.Proofs.YtelfiofnhchmbaaDoor.B Go.Proofs.YtelfiofnhchmbaaDoorW.PrintWords Go.Proofs.YtelfiofnhchmbaaDoorW.PrintLast Go.Proofs.YtelfiofnhchmbaaDoorW.PrintMore
attribute [local go_sem] max2_int min2_int max_two min_two max_three min_three max_four min_four
set_option linter.unusedVariables false
set_option linter.unusedSimpArgs false
set_option maxHeartbeats 8000000
set_option maxRecDepth 100000
theorem num_Text.itoa_calls (n : Int) (h0 : -9223372036854775808 ≤ n) (h1 : n < 9223372036854775808) (w : World) : Calls Tryd.prog 23 #[.int .i64 n] w fun e w' => e = .returned (.string ⟨(Lib.itoa n).toArray⟩) ∧ Below w.heap.size w w' := by
 have HP := Lib.hid (@itoa_pos n)
 have HM := Lib.hid (@itoa_neg' n)
 obtain ⟨u, hu⟩ : ∃ u : Nat, u = n.natAbs := ⟨_, rfl⟩
 rw [← hu] at HP HM
 have hu1 : u ≤ 9223372036854775808 := by omega
 have HU := Lib.hid hu
 clear hu
 go_enter Tryd.func23, Tryd.ntmps23
 go_wp2_with fail
 refine (num_size.same n ⟨h0, by omega⟩ _).mono ?_
 rintro e w' ⟨rfl, rfl⟩
 rw [← HU.out]
 go_wp2_with fail
 go_loopw [4, 5, 8] (fun at_ left i wr => ∃ m k : Nat, m + k = 19 ∧ at_ = .int .i64 ((m : Int) + 1) ∧ left = .int .u64 ((u / 10 ^ k : Nat) : Int) ∧ i = .int .i64 (k : Int) ∧ wr = w.alloc (.cells (trow u (m + 1)) 75) ∧ (k = 0 ∨ u / 10 ^ k ≠ 0)) (fun _ _ i _ => (19 - (RowKit.intOf i).toNat))
 case atStart => exact ⟨19, 0, rfl, rfl, by simp, rfl, by rw [trow_start]; rfl, .inl rfl⟩
 case round =>
  obtain ⟨m, k, hmk, rfl, rfl, rfl, rfl, hz⟩ := hrel
  have HZ := Lib.hid hz
  have hv19 : k = 19 → u / 10 ^ k = 0 := by intro e; rw [e]; exact Nat.div_eq_of_lt (by omega)
  have hk : k < 19 := by
   rcases Nat.lt_or_ge k 19 with h | h
   ·exact h
   ·have := hv19 (by omega); omega
  have hk18 : k = 18 → u / 10 ^ k < 10 := by intro e; rw [e]; omega
  clear hz hv19
  have HS := Lib.hid (trow_set u m k _ hmk rfl)
  have HY := Lib.hid (trow_digits u m k hmk)
  obtain ⟨v, hv⟩ : ∃ v, v = u / 10 ^ k := ⟨_, rfl⟩
  have hvle : v ≤ u := by rw [hv]; exact Nat.div_le_self _ _
  have hvq : u / 10 ^ (k + 1) = v / 10 := by rw [hv, Nat.pow_succ, Nat.div_div_eq_div_mul]
  rw [← hv] at HZ HS HY hk18 ⊢
  have HV := Lib.hid hv
  clear hv
  have hX := trow_at u (m + 1) m (by omega)
  obtain ⟨X, HX⟩ : ∃ X, X = trow u (m + 1) := ⟨_, rfl⟩
  obtain ⟨Y, HYY⟩ : ∃ Y, Y = trow u m := ⟨_, rfl⟩
  have HYA := Lib.hid (fun i h => trow_at u m i h)
  rw [← HX] at hX HS ⊢
  rw [← HYY] at HS HY HYA
  rw [if_neg (by omega)] at hX
  have HXX := Lib.hid HX
  clear HX
  have HYY' := Lib.hid HYY
  clear HYY
  have hset : X.setIfInBounds m (Value.int IntKind.u8 (48 + (v : Int) % 10)) = Y := by rw [← HS.out]; congr 2
  by_cases hv0 : v / 10 = 0
  ·obtain ⟨hl, hd⟩ := HY.out (by rw [hvq]; exact hv0) HZ.out
   clear hk18
   have hb0 : ((v : Int) / 10 == 0) = true := by rw [beq_iff_eq]; omega
   by_cases hn : n < 0
   ·obtain ⟨j, rfl⟩ : ∃ j, m = j + 1 := ⟨m - 1, by omega⟩
    have hY := HYA.out j (by omega)
    rw [if_neg (by omega)] at hY
    obtain ⟨Z, HZZ⟩ : ∃ Z, Z = Y.setIfInBounds j (.int .u8 45) := ⟨_, rfl⟩
    have hset2 : Y.setIfInBounds j (.int .u8 45) = Z := HZZ.symm
    have hsl := fun W b => sl20 W b j j rfl (by omega)
    have hcv := fun cap => conv_row (P := Tryd.prog) w 75 78 9 5 Tryd.underlying78 Tryd.underlying5 Tryd.underlying9 Z j (20 - j) cap (45 :: Lib.decDigits u) (by simp only [List.length_cons]; omega) (fun i hi => by
     subst HZZ
     rcases i with _ | i
     ·rw [Nat.add_zero, Array.getElem?_setIfInBounds, if_pos rfl, if_pos (by rw [HYY'.out, trow_size]; omega)]; rfl
     ·rw [Array.getElem?_setIfInBounds, if_neg (by omega), show j + (i + 1) = j + 1 + i by omega, hd i (by simpa using hi)]; rfl)
    clear hl hd hv0 HZZ hvq
    go_wp2_with fail
    go_ret
    refine ⟨by rw [HM.out hn]; rfl, ?_⟩
    exact (Below.refl _ _).alloc (Nat.le_refl _) _
   have hsl := fun W b => sl20 W b m m rfl (by omega)
   have hcv := fun cap => conv_row (P := Tryd.prog) w 75 78 9 5 Tryd.underlying78 Tryd.underlying5 Tryd.underlying9 Y m (20 - m) cap (Lib.decDigits u) hl hd
   clear hl hd hv0 hvq
   go_wp2_with fail
   go_ret
   refine ⟨by rw [HP.out (by omega)]; rfl, ?_⟩
   exact (Below.refl _ _).alloc (Nat.le_refl _) _
  have hb0 : ((v : Int) / 10 == 0) = false := by rw [beq_eq_false_iff_ne]; omega
  clear hk18
  clear HY HYA
  have HQ := Lib.hid hvq
  clear hvq
  have HV0 := Lib.hid hv0
  clear hv0
  go_wp2_with fail
  go_roundw
  case rel =>
   obtain ⟨j, rfl⟩ : ∃ j, m = j + 1 := ⟨m - 1, by omega⟩
   exact ⟨j, k + 1, by omega, by go_num, by rw [HQ.out]; go_num, by go_num, by rw [HYY'.out], .inr (by rw [HQ.out]; exact HV0.out)⟩
  case measure => simp [RowKit.intOf]; omega
def num_Text.f (a0 : Int) : Option (ByteArray) := if I64 a0 then some ⟨(Lib.itoa a0).toArray⟩ else none
theorem num_Text.calls (a0 : Int) (r : ByteArray) (w : World) (h : num_Text.f a0 = some r) :
  Calls Tryd.prog 23 #[.int .i64 a0] w fun e w' => e = .returned (.string r) ∧ Below w.heap.size w w' := by
 unfold num_Text.f at h
 split at h <;> simp only [Option.some.injEq, reduceCtorEq] at h
 rename_i hb
 subst h
 exact num_Text.itoa_calls a0 hb.1 (by have := hb.2; omega) w
def frac_Text.f (k : Nat) (a0_0 : Int) (a0_1 : Int) : Option (ByteArray × Int) := (frac_Right.f k a0_0 a0_1).bind fun t123 => (if t123 = true then ((num_Text.f a0_0).bind fun t124 => (if a0_1 = 1 then (some (t124, 0)) else ((num_Text.f a0_1).bind fun t125 => (if 1 + t125.size ≤ 9223372036854775807 then (if t124.size + ((⟨#[47]⟩ : ByteArray) ++ t125).size ≤ 9223372036854775807 then (some (t124 ++ ((⟨#[47]⟩ : ByteArray) ++ t125), 0)) else (none)) else (none))))) else (some ((⟨#[]⟩ : ByteArray), 2)))
theorem frac_Text.calls (k : Nat) (a0_0 a0_1 : Int) (r1 : ByteArray) (r2 : Int) (w : World) (h : frac_Text.f k a0_0 a0_1 = some (r1, r2)) :
  Calls Tryd.prog 22 #[.agg #[.int .i64 a0_0, .int .i64 a0_1]] w fun e w' => e = .returned (.tuple #[.string r1, .int .i64 r2]) ∧ Below w.heap.size w w' := by
 have hu38 := Tryd.underlying38
 have HB := sd (Below.refl w.heap.size w)
 have H := h
 clear h
 unfold frac_Text.f at H
 replace H := bdI H
 obtain ⟨t123, A2, H⟩ := H
 (try dsimp only at H)
 by_cases c3 : t123 = true
 ·subst c3
  rw [if_pos rfl] at H
  replace H := bdI H
  obtain ⟨t124, A4, H⟩ := H
  (try dsimp only at H)
  replace H := ifI H
  rcases H with ⟨c5, H⟩ | ⟨c5, H⟩
  ·obtain ⟨c5b0, c5b1⟩ := eqI c5
   clear c5
   simp only [Option.some.injEq, Prod.mk.injEq] at H
   obtain ⟨rfl, rfl⟩ := H
   go_enter Tryd.func22, Tryd.ntmps22
   go_wp2_with (first | ((with_reducible refine gate_dst (N := 1) rfl ?_); refine bxA 1 #[.int .i64 a0_0, .int .i64 a0_1] 38 ?_; intro gb122 hg w6 hbox hb; have BK122 := sd (hbox); have GW122 := gem hg HB; have GE122 := GW122; replace HB := hbm HB hb; clear hb hbox hg; obtain ⟨_, _, _, _⟩ := bk2 BK122) | ((with_reducible refine gate_callee (f := 41) rfl ?_); refine gL 5 Tryd.func41 #[.agg #[.int .i64 a0_0, .int .i64 a0_1]] ?_; (with_reducible refine (frac_Right.calls k a0_0 a0_1 true _ A2.out).mono ?_); rintro e w8 ⟨rfl, hb⟩; refine ⟨_, rfl, ?_⟩; replace BK122 := bkm BK122 hb; replace HB := hbm HB hb; clear hb; obtain ⟨_, _, _, _⟩ := bk2 BK122) | ((with_reducible refine gate_callee (f := 23) rfl ?_); refine gL 9 Tryd.func23 #[.int .i64 a0_0] ?_; (with_reducible refine (num_Text.calls a0_0 t124 _ A4.out).mono ?_); rintro e w10 ⟨rfl, hb⟩; refine ⟨_, rfl, ?_⟩; replace BK122 := bkm BK122 hb; replace HB := hbm HB hb; clear hb; obtain ⟨_, _, _, _⟩ := bk2 BK122))
   go_ret2
   exact ⟨zq8, zq106⟩
  obtain ⟨c5b0, c5b1⟩ := neI c5
  replace H := bdI H
  obtain ⟨t125, A12, H⟩ := H
  (try dsimp only at H)
  replace H := ifI H
  rcases H with ⟨c13, H⟩ | ⟨c13, H⟩
  ·have c13b0 := eq_true c13
   have c13b1 : decide (1 + t125.size ≤ 9223372036854775807) = true := decide_eq_true c13
   try have c13b2 : (9223372036854775807 < 1 + t125.size) = False := eq_false (Nat.not_lt.2 c13)
   replace H := ifI H
   rcases H with ⟨c14, H⟩ | ⟨c14, H⟩
   ·have c14b0 := eq_true c14
    have c14b1 : decide (t124.size + ((⟨#[47]⟩ : ByteArray) ++ t125).size ≤ 9223372036854775807) = true := decide_eq_true c14
    try have c14b2 : (9223372036854775807 < t124.size + ((⟨#[47]⟩ : ByteArray) ++ t125).size) = False := eq_false (Nat.not_lt.2 c14)
    try have c14y : (9223372036854775807 < t124.size + (1 + t125.size)) = False := by have h_ := c14b2; simp only [ByteArray.size_append] at h_; exact h_
    simp only [Option.some.injEq, Prod.mk.injEq] at H
    obtain ⟨rfl, rfl⟩ := H
    go_enter Tryd.func22, Tryd.ntmps22
    go_wp2_with (first | ((with_reducible refine gate_dst (N := 1) rfl ?_); refine bxA 1 #[.int .i64 a0_0, .int .i64 a0_1] 38 ?_; intro gb122 hg w15 hbox hb; have BK122 := sd (hbox); have GW122 := gem hg HB; have GE122 := GW122; replace HB := hbm HB hb; clear hb hbox hg; obtain ⟨_, _, _, _⟩ := bk2 BK122) | ((with_reducible refine gate_callee (f := 41) rfl ?_); refine gL 5 Tryd.func41 #[.agg #[.int .i64 a0_0, .int .i64 a0_1]] ?_; (with_reducible refine (frac_Right.calls k a0_0 a0_1 true _ A2.out).mono ?_); rintro e w17 ⟨rfl, hb⟩; refine ⟨_, rfl, ?_⟩; replace BK122 := bkm BK122 hb; replace HB := hbm HB hb; clear hb; obtain ⟨_, _, _, _⟩ := bk2 BK122) | ((with_reducible refine gate_callee (f := 23) rfl ?_); refine gL 9 Tryd.func23 #[.int .i64 a0_0] ?_; (with_reducible refine (num_Text.calls a0_0 t124 _ A4.out).mono ?_); rintro e w19 ⟨rfl, hb⟩; refine ⟨_, rfl, ?_⟩; replace BK122 := bkm BK122 hb; replace HB := hbm HB hb; clear hb; obtain ⟨_, _, _, _⟩ := bk2 BK122) | ((with_reducible refine gate_callee (f := 23) rfl ?_); refine gL 16 Tryd.func23 #[.int .i64 a0_1] ?_; (with_reducible refine (num_Text.calls a0_1 t125 _ A12.out).mono ?_); rintro e w21 ⟨rfl, hb⟩; refine ⟨_, rfl, ?_⟩; replace BK122 := bkm BK122 hb; replace HB := hbm HB hb; clear hb))
    go_ret2
    exact ⟨zq8, zq106⟩
   exact absurd H (by simp)
  exact absurd H (by simp)
 replace c3 := Bool.eq_false_iff.mpr c3
 subst c3
 rw [if_neg Bool.false_ne_true] at H
 simp only [Option.some.injEq, Prod.mk.injEq] at H
 obtain ⟨rfl, rfl⟩ := H
 go_enter Tryd.func22, Tryd.ntmps22
 go_wp2_with (first | ((with_reducible refine gate_dst (N := 1) rfl ?_); refine bxA 1 #[.int .i64 a0_0, .int .i64 a0_1] 38 ?_; intro gb122 hg w22 hbox hb; have BK122 := sd (hbox); have GW122 := gem hg HB; have GE122 := GW122; replace HB := hbm HB hb; clear hb hbox hg; obtain ⟨_, _, _, _⟩ := bk2 BK122) | ((with_reducible refine gate_callee (f := 41) rfl ?_); refine gL 5 Tryd.func41 #[.agg #[.int .i64 a0_0, .int .i64 a0_1]] ?_; (with_reducible refine (frac_Right.calls k a0_0 a0_1 false _ A2.out).mono ?_); rintro e w24 ⟨rfl, hb⟩; refine ⟨_, rfl, ?_⟩; replace BK122 := bkm BK122 hb; replace HB := hbm HB hb; clear hb))
 go_ret2
 exact ⟨zq8, zq106⟩
def terms_Text.l0 : Nat → ByteArray → List (S53) → Int → Int → Int → Bool → List (S53) → Option (ByteArray × Int)
 | 0, _, _, _, _, _, _, _ => none
 | k + 1, x2, x12, x13, x14, x127000, x127001, x127002 => if x14 < x13 then (if 0 ≤ x14 then (if x14 < (x12.length : Int) then ((frac_Text.f k ((rd_T53 x12 x14).f1.f0) ((rd_T53 x12 x14).f1.f1)).bind fun bt130 => (if bt130.1.size + 1 ≤ 9223372036854775807 then ((num_Text.f ((rd_T53 x12 x14).f0)).bind fun t132 => (if (bt130.1 ++ (⟨#[32]⟩ : ByteArray)).size + t132.size ≤ 9223372036854775807 then (if ((bt130.1 ++ (⟨#[32]⟩ : ByteArray)) ++ t132).size + 1 ≤ 9223372036854775807 then (if x2.size + (((bt130.1 ++ (⟨#[32]⟩ : ByteArray)) ++ t132) ++ (⟨#[32]⟩ : ByteArray)).size ≤ 9223372036854775807 then (terms_Text.l0 k (x2 ++ (((bt130.1 ++ (⟨#[32]⟩ : ByteArray)) ++ t132) ++ (⟨#[32]⟩ : ByteArray))) x12 x13 (wrap64 (x14 + 1)) x127000 x127001 x127002) else (none)) else (none)) else (none))) else (none))) else (none)) else (none)) else (if x127001 = true then (if x2.size + 4 ≤ 9223372036854775807 then ((num_Text.f x127000).bind fun t133 => (if (x2 ++ (⟨#[101, 111, 109, 32]⟩ : ByteArray)).size + t133.size ≤ 9223372036854775807 then (some ((x2 ++ (⟨#[101, 111, 109, 32]⟩ : ByteArray)) ++ t133, 0)) else (none))) else (none)) else (if x2.size + 4 ≤ 9223372036854775807 then ((num_Text.f x127000).bind fun t134 => (if (x2 ++ (⟨#[110, 101, 116, 32]⟩ : ByteArray)).size + t134.size ≤ 9223372036854775807 then (some ((x2 ++ (⟨#[110, 101, 116, 32]⟩ : ByteArray)) ++ t134, 0)) else (none))) else (none)))
def terms_Text.f (k : Nat) (a0_0 : Int) (a0_1 : Bool) (l0_2 : List (S53)) : Option (ByteArray × Int) := (terms_Right.f k a0_0 a0_1 l0_2).bind fun t127 => (if t127 = true then (terms_Text.l0 k (⟨#[]⟩ : ByteArray) l0_2 (l0_2.length : Int) 0 a0_0 a0_1 l0_2) else (some ((⟨#[]⟩ : ByteArray), 2)))
theorem terms_Text.calls (k : Nat) (a0_0 : Int) (a0_1 : Bool) (A0_2 : Option Addr) (c0_2 : Nat) (l0_2 : List (S53)) (r1 : ByteArray) (r2 : Int) (w : World) (hr0_2 : Kd.C k53 w A0_2 l0_2.length l0_2) (hc0_2 : l0_2.length ≤ c0_2) (h : terms_Text.f k a0_0 a0_1 l0_2 = some (r1, r2)) :
  Calls Tryd.prog 10 #[.agg #[.int .i64 a0_0, .bool a0_1, .slice A0_2 l0_2.length c0_2]] w fun e w' => e = .returned (.tuple #[.string r1, .int .i64 r2]) ∧ Below w.heap.size w w' := by
 have hu24 := Tryd.underlying24
 have hu53 := Tryd.underlying53
 have hu38 := Tryd.underlying38
 have HR0_2 := sd hr0_2
 have HC0_2 := sd hc0_2
 clear hr0_2 hc0_2
 have HB := sd (Below.refl w.heap.size w)
 have H := h
 clear h
 unfold terms_Text.f at H
 replace H := bdI H
 obtain ⟨t127, A2, H⟩ := H
 (try dsimp only at H)
 by_cases c3 : t127 = true
 ·subst c3
  rw [if_pos rfl] at H
  have H' := sd H
  clear H
  go_enter Tryd.func10, Tryd.ntmps10
  go_wp2_with (first | ((with_reducible refine gate_dst (N := 1) rfl ?_); refine bxA 1 #[.int .i64 a0_0, .bool a0_1, .slice A0_2 l0_2.length c0_2] 24 ?_; intro gb126 hg w4 hbox hb; have BK126 := sd (hbox); have GW126 := gem hg HB; have GE126 := GW126; replace HB := hbm HB hb; clear hb hbox hg; obtain ⟨_, _, _, _, _, _⟩ := bk3 BK126) | ((with_reducible refine gate_callee (f := 12) rfl ?_); refine gL 9 Tryd.func12 #[.agg #[.int .i64 a0_0, .bool a0_1, .slice A0_2 l0_2.length c0_2]] ?_; (with_reducible refine (terms_Right.calls k a0_0 a0_1 _ _ l0_2 true _ ?side1 ?side2 A2.out).mono ?_); (case side1 => exact zq32); (case side2 => exact HC0_2.out); rintro e w6 ⟨rfl, hb⟩; refine ⟨_, rfl, ?_⟩; replace BK126 := bkm BK126 hb; replace HB := hbm HB hb; clear hb; obtain ⟨_, _, _, _, _, _⟩ := bk3 BK126))
  go_loopg [2, 14] k (fun kq v2 v14 w' => ∃ (x2_1 : ByteArray) (x14_1 : Int), v2 = .string x2_1 ∧ v14 = .int .i64 x14_1 ∧ Aside0 (terms_Text.l0 kq x2_1 l0_2 (l0_2.length : Int) x14_1 a0_0 a0_1 l0_2 = some (r1, r2)) ∧ Aside0 (kq ≤ k) ∧ Aside0 (w'.heap[gb126]? = some (.cells #[.int .i64 a0_0, .bool a0_1, (.slice A0_2 l0_2.length c0_2)] 24 (0, 0))) ∧ Aside0 (Below w.heap.size w w'))
  case atStart => exact ⟨((⟨#[]⟩ : ByteArray)), (0), zq1, zq1, H', ⟨Nat.le_refl _⟩, ⟨by (with_reducible repeat (first | refine blk_drewN ?_ _ | refine blk_drew ?_ | refine blk_alloc ?_ _)); exact BK126.out⟩, ⟨zq107⟩⟩
  case round =>
   clear H'
   try clear c1
   try clear p2
   try clear c3
   try clear hcz5_0
   try clear hcz5_1
   try clear hcz5_2
   try clear hcz7_0
   try clear hcz7_1
   try clear hcz7_2
   try clear hfz5_0
   try clear hfz5_1
   try clear hfz5_2
   try clear hfz7_0
   try clear hfz7_1
   try clear hfz7_2
   obtain ⟨x2_1, x14_1, rfl, rfl, HA, HK1, BK126, HB⟩ := hrel
   cases gk with
   | zero => exact absurd HA.out (by simp [terms_Text.l0])
   | succ k1 =>
    have H := HA.out
    clear HA
    simp only [terms_Text.l0] at H
    replace H := ifI H
    rcases H with ⟨c8, H⟩ | ⟨c8, H⟩
    ·have c8b0 : decide (x14_1 < (l0_2.length : Int)) = true := decide_eq_true c8
     clear c8
     replace H := ifI H
     rcases H with ⟨c9, H⟩ | ⟨c9, H⟩
     ·have c9b0 : decide (0 ≤ x14_1) = true := decide_eq_true c9
      clear c9
      replace H := ifI H
      rcases H with ⟨c10, H⟩ | ⟨c10, H⟩
      ·have c10b0 : decide (x14_1 < (l0_2.length : Int)) = true := decide_eq_true c10
       clear c10
       replace H := bdI H
       obtain ⟨⟨t130, t131⟩, A11, H⟩ := H
       (try dsimp only at H)
       replace H := ifI H
       rcases H with ⟨c12, H⟩ | ⟨c12, H⟩
       ·have c12b0 := eq_true c12
        have c12b1 : decide (t130.size + 1 ≤ 9223372036854775807) = true := decide_eq_true c12
        try have c12b2 : (9223372036854775807 < t130.size + 1) = False := eq_false (Nat.not_lt.2 c12)
        replace H := bdI H
        obtain ⟨t132, A13, H⟩ := H
        (try dsimp only at H)
        replace H := ifI H
        rcases H with ⟨c14, H⟩ | ⟨c14, H⟩
        ·have c14b0 := eq_true c14
         have c14b1 : decide ((t130 ++ (⟨#[32]⟩ : ByteArray)).size + t132.size ≤ 9223372036854775807) = true := decide_eq_true c14
         try have c14b2 : (9223372036854775807 < (t130 ++ (⟨#[32]⟩ : ByteArray)).size + t132.size) = False := eq_false (Nat.not_lt.2 c14)
         try have c14y : (9223372036854775807 < t130.size + 1 + t132.size) = False := by have h_ := c14b2; simp only [ByteArray.size_append] at h_; exact h_
         replace H := ifI H
         rcases H with ⟨c15, H⟩ | ⟨c15, H⟩
         ·have c15b0 := eq_true c15
          have c15b1 : decide (((t130 ++ (⟨#[32]⟩ : ByteArray)) ++ t132).size + 1 ≤ 9223372036854775807) = true := decide_eq_true c15
          try have c15b2 : (9223372036854775807 < ((t130 ++ (⟨#[32]⟩ : ByteArray)) ++ t132).size + 1) = False := eq_false (Nat.not_lt.2 c15)
          try have c15y : (9223372036854775807 < t130.size + 1 + t132.size + 1) = False := by have h_ := c15b2; simp only [ByteArray.size_append] at h_; exact h_
          replace H := ifI H
          rcases H with ⟨c16, H⟩ | ⟨c16, H⟩
          ·have c16b0 := eq_true c16
           have c16b1 : decide (x2_1.size + (((t130 ++ (⟨#[32]⟩ : ByteArray)) ++ t132) ++ (⟨#[32]⟩ : ByteArray)).size ≤ 9223372036854775807) = true := decide_eq_true c16
           try have c16b2 : (9223372036854775807 < x2_1.size + (((t130 ++ (⟨#[32]⟩ : ByteArray)) ++ t132) ++ (⟨#[32]⟩ : ByteArray)).size) = False := eq_false (Nat.not_lt.2 c16)
           try have c16y : (9223372036854775807 < x2_1.size + (t130.size + 1 + t132.size + 1)) = False := by have h_ := c16b2; simp only [ByteArray.size_append] at h_; exact h_
           have H' := sd H
           clear H
           have p128 : 0 ≤ (x14_1 : Int) := od
           have q128 : x14_1 < (l0_2.length : Int) := od
           obtain ⟨ad128, e128, hx128_0, hx128_1, hx128_2⟩ := at_T53 HR0_2.out x14_1 p128 q128
           cases e128
           replace hx128_0 := (HB.out.cell (World.block_lt_of_cell? w _ hx128_0)).trans hx128_0
           replace hx128_1 := (HB.out.cell (World.block_lt_of_cell? w _ hx128_1)).trans hx128_1
           replace hx128_2 := (HB.out.cell (World.block_lt_of_cell? w _ hx128_2)).trans hx128_2
           replace p128 := eq_true p128
           replace q128 := eq_true q128
           go_wp2_with (first | ((with_reducible refine gate_dst (N := 5) rfl ?_); refine bxA 5 #[.int .i64 0, .int .i64 0, .int .i64 0] 53 ?_; intro gb129 hg w17 hbox hb; have BK129 := sd (hbox); have GW129 := gem hg HB; have GE129 := GW129; have NB126_129 := nlm hg BK126; have NB129_126 := ngm hg BK126; replace BK126 := bkm BK126 hb; replace HB := hbm HB hb; clear hb hbox hg; have hnb18 := NB129_126.out; have hnc18 := NB126_129.out; obtain ⟨_, _, _, _, _, _⟩ := bk3 BK129) | ((with_reducible refine gate_callee (f := 22) rfl ?_); refine gL 21 Tryd.func22 #[.agg #[.int .i64 ((rd_T53 l0_2 x14_1).f1.f0), .int .i64 ((rd_T53 l0_2 x14_1).f1.f1)]] ?_; (with_reducible refine (frac_Text.calls k1 ((rd_T53 l0_2 x14_1).f1.f0) ((rd_T53 l0_2 x14_1).f1.f1) t130 t131 _ A11.out).mono ?_); rintro e w20 ⟨rfl, hb⟩; refine ⟨_, rfl, ?_⟩; replace BK126 := sd (blk_below (g := gb126) (o := .cells #[.int .i64 a0_0, .bool a0_1, .slice (some ad128) l0_2.length c0_2] 24 (0, 0)) (by (with_reducible repeat (first | refine blk_drewN ?_ _ | refine blk_drew ?_ | refine blk_alloc ?_ _)); refine blk_far ?_ NB126_129.out _; (with_reducible repeat (first | refine blk_drewN ?_ _ | refine blk_drew ?_ | refine blk_alloc ?_ _)); refine blk_far ?_ NB126_129.out _; (with_reducible repeat (first | refine blk_drewN ?_ _ | refine blk_drew ?_ | refine blk_alloc ?_ _)); refine blk_far ?_ NB126_129.out _; (with_reducible repeat (first | refine blk_drewN ?_ _ | refine blk_drew ?_ | refine blk_alloc ?_ _)); exact BK126.out) hb); replace BK129 := sd (blk_below (g := gb129) (o := .cells #[.int .i64 ((rd_T53 l0_2 x14_1).f0), .int .i64 ((rd_T53 l0_2 x14_1).f1.f0), .int .i64 ((rd_T53 l0_2 x14_1).f1.f1)] 53 (0, 0)) (by (with_reducible repeat (first | refine blk_drewN ?_ _ | refine blk_drew ?_ | refine blk_alloc ?_ _)); refine blk_put (cs := #[.int .i64 ((rd_T53 l0_2 x14_1).f0), .int .i64 ((rd_T53 l0_2 x14_1).f1.f0), .int .i64 0]) ?_ 2 _ rfl; (with_reducible repeat (first | refine blk_drewN ?_ _ | refine blk_drew ?_ | refine blk_alloc ?_ _)); refine blk_put (cs := #[.int .i64 ((rd_T53 l0_2 x14_1).f0), .int .i64 0, .int .i64 0]) ?_ 1 _ rfl; (with_reducible repeat (first | refine blk_drewN ?_ _ | refine blk_drew ?_ | refine blk_alloc ?_ _)); refine blk_put (cs := #[.int .i64 0, .int .i64 0, .int .i64 0]) ?_ 0 _ rfl; (with_reducible repeat (first | refine blk_drewN ?_ _ | refine blk_drew ?_ | refine blk_alloc ?_ _)); exact BK129.out) hb); replace HB := hbm HB hb; clear hb; obtain ⟨_, _, _, _, _, _⟩ := bk3 BK129) | ((with_reducible refine gate_callee (f := 23) rfl ?_); refine gL 29 Tryd.func23 #[.int .i64 ((rd_T53 l0_2 x14_1).f0)] ?_; (with_reducible refine (num_Text.calls ((rd_T53 l0_2 x14_1).f0) t132 _ A13.out).mono ?_); rintro e w22 ⟨rfl, hb⟩; refine ⟨_, rfl, ?_⟩; replace BK126 := bkm BK126 hb; replace BK129 := bkm BK129 hb; replace HB := hbm HB hb; clear hb))
           go_roundg k1
           case measure => have := HK1.out; omega
           case rel => exact ⟨(x2_1 ++ (((t130 ++ (⟨#[32]⟩ : ByteArray)) ++ t132) ++ (⟨#[32]⟩ : ByteArray))), (wrap64 (x14_1 + 1)), zq1, zq1, H', ⟨by have := HK1.out; omega⟩, ⟨by (with_reducible repeat (first | refine blk_drewN ?_ _ | refine blk_drew ?_ | refine blk_alloc ?_ _)); exact BK126.out⟩, ⟨by repeat (first | (with_reducible first | exact HB.out | apply below_alloc | apply pw_below_drewN | apply below_drew1 | refine below_set ?_ GE126.out | refine below_set ?_ GE129.out) | exact HB.out)⟩⟩
          exact absurd H (by simp)
         exact absurd H (by simp)
        exact absurd H (by simp)
       exact absurd H (by simp)
      exact absurd H (by simp)
     exact absurd H (by simp)
    have c8b0 : decide (x14_1 < (l0_2.length : Int)) = false := decide_eq_false c8
    clear c8
    by_cases c23 : a0_1 = true
    ·subst c23
     rw [if_pos rfl] at H
     replace H := ifI H
     rcases H with ⟨c24, H⟩ | ⟨c24, H⟩
     ·have c24b0 := eq_true c24
      have c24b1 : decide (x2_1.size + 4 ≤ 9223372036854775807) = true := decide_eq_true c24
      try have c24b2 : (9223372036854775807 < x2_1.size + 4) = False := eq_false (Nat.not_lt.2 c24)
      replace H := bdI H
      obtain ⟨t133, A25, H⟩ := H
      (try dsimp only at H)
      replace H := ifI H
      rcases H with ⟨c26, H⟩ | ⟨c26, H⟩
      ·have c26b0 := eq_true c26
       have c26b1 : decide ((x2_1 ++ (⟨#[101, 111, 109, 32]⟩ : ByteArray)).size + t133.size ≤ 9223372036854775807) = true := decide_eq_true c26
       try have c26b2 : (9223372036854775807 < (x2_1 ++ (⟨#[101, 111, 109, 32]⟩ : ByteArray)).size + t133.size) = False := eq_false (Nat.not_lt.2 c26)
       try have c26y : (9223372036854775807 < x2_1.size + 4 + t133.size) = False := by have h_ := c26b2; simp only [ByteArray.size_append] at h_; exact h_
       simp only [Option.some.injEq, Prod.mk.injEq] at H
       obtain ⟨rfl, rfl⟩ := H
       obtain ⟨_, _, _, _, _, _⟩ := bk3 BK126
       go_wp2_with (first | ((with_reducible refine gate_callee (f := 23) rfl ?_); refine gL 40 Tryd.func23 #[.int .i64 a0_0] ?_; (with_reducible refine (num_Text.calls a0_0 t133 _ A25.out).mono ?_); rintro e w28 ⟨rfl, hb⟩; refine ⟨_, rfl, ?_⟩; replace BK126 := bkm BK126 hb; replace HB := hbm HB hb; clear hb))
       go_ret2
       exact ⟨zq8, zq107⟩
      exact absurd H (by simp)
     exact absurd H (by simp)
    replace c23 := Bool.eq_false_iff.mpr c23
    subst c23
    rw [if_neg Bool.false_ne_true] at H
    replace H := ifI H
    rcases H with ⟨c29, H⟩ | ⟨c29, H⟩
    ·have c29b0 := eq_true c29
     have c29b1 : decide (x2_1.size + 4 ≤ 9223372036854775807) = true := decide_eq_true c29
     try have c29b2 : (9223372036854775807 < x2_1.size + 4) = False := eq_false (Nat.not_lt.2 c29)
     replace H := bdI H
     obtain ⟨t134, A30, H⟩ := H
     (try dsimp only at H)
     replace H := ifI H
     rcases H with ⟨c31, H⟩ | ⟨c31, H⟩
     ·have c31b0 := eq_true c31
      have c31b1 : decide ((x2_1 ++ (⟨#[110, 101, 116, 32]⟩ : ByteArray)).size + t134.size ≤ 9223372036854775807) = true := decide_eq_true c31
      try have c31b2 : (9223372036854775807 < (x2_1 ++ (⟨#[110, 101, 116, 32]⟩ : ByteArray)).size + t134.size) = False := eq_false (Nat.not_lt.2 c31)
      try have c31y : (9223372036854775807 < x2_1.size + 4 + t134.size) = False := by have h_ := c31b2; simp only [ByteArray.size_append] at h_; exact h_
      simp only [Option.some.injEq, Prod.mk.injEq] at H
      obtain ⟨rfl, rfl⟩ := H
      obtain ⟨_, _, _, _, _, _⟩ := bk3 BK126
      go_wp2_with (first | ((with_reducible refine gate_callee (f := 23) rfl ?_); refine gL 46 Tryd.func23 #[.int .i64 a0_0] ?_; (with_reducible refine (num_Text.calls a0_0 t134 _ A30.out).mono ?_); rintro e w33 ⟨rfl, hb⟩; refine ⟨_, rfl, ?_⟩; replace BK126 := bkm BK126 hb; replace HB := hbm HB hb; clear hb))
      go_ret2
      exact ⟨zq8, zq107⟩
     exact absurd H (by simp)
    exact absurd H (by simp)
 replace c3 := Bool.eq_false_iff.mpr c3
 subst c3
 rw [if_neg Bool.false_ne_true] at H
 simp only [Option.some.injEq, Prod.mk.injEq] at H
 obtain ⟨rfl, rfl⟩ := H
 go_enter Tryd.func10, Tryd.ntmps10
 go_wp2_with (first | ((with_reducible refine gate_dst (N := 1) rfl ?_); refine bxA 1 #[.int .i64 a0_0, .bool a0_1, .slice A0_2 l0_2.length c0_2] 24 ?_; intro gb126 hg w34 hbox hb; have BK126 := sd (hbox); have GW126 := gem hg HB; have GE126 := GW126; replace HB := hbm HB hb; clear hb hbox hg; obtain ⟨_, _, _, _, _, _⟩ := bk3 BK126) | ((with_reducible refine gate_callee (f := 12) rfl ?_); refine gL 9 Tryd.func12 #[.agg #[.int .i64 a0_0, .bool a0_1, .slice A0_2 l0_2.length c0_2]] ?_; (with_reducible refine (terms_Right.calls k a0_0 a0_1 _ _ l0_2 false _ ?side1 ?side2 A2.out).mono ?_); (case side1 => exact zq32); (case side2 => exact HC0_2.out); rintro e w36 ⟨rfl, hb⟩; refine ⟨_, rfl, ?_⟩; replace BK126 := bkm BK126 hb; replace HB := hbm HB hb; clear hb))
 go_ret2
 exact ⟨zq8, zq107⟩
def days_Leap.f (a0 : Int) : Option (Bool) := if (Int.tmod a0 4) = 0 then (if (Int.tmod a0 100) = 0 then (some ((Int.tmod a0 400) == 0)) else (some true)) else (some ((Int.tmod a0 400) == 0))
theorem days_Leap.calls (a0 : Int) (r : Bool) (w : World) (h : days_Leap.f a0 = some r) :
  Calls Tryd.prog 73 #[.int .i64 a0] w fun e w' => e = .returned (.bool r) ∧ Drawn0 w w' := by
 have H := h
 clear h
 unfold days_Leap.f at H
 replace H := ifI H
 rcases H with ⟨c2, H⟩ | ⟨c2, H⟩
 ·obtain ⟨c2b0, c2b1⟩ := eqI c2
  clear c2
  replace H := ifI H
  rcases H with ⟨c3, H⟩ | ⟨c3, H⟩
  ·obtain ⟨c3b0, c3b1⟩ := eqI c3
   clear c3
   obtain rfl := Option.some.inj H
   go_enter Tryd.func73, Tryd.ntmps73
   go_wp2
   go_ret
   exact ⟨zq1, zq23⟩
  obtain ⟨c3b0, c3b1⟩ := neI c3
  obtain rfl := Option.some.inj H
  go_enter Tryd.func73, Tryd.ntmps73
  go_wp2
  go_ret
  exact ⟨zq1, zq23⟩
 obtain ⟨c2b0, c2b1⟩ := neI c2
 obtain rfl := Option.some.inj H
 go_enter Tryd.func73, Tryd.ntmps73
 go_wp2
 go_ret
 exact ⟨zq1, zq23⟩
def days_Length.f (a0 a1 : Int) : Option Int := if a1 < 1 ∨ 12 < a1 then some 0 else if a1 = 2 then (days_Leap.f a0).bind fun b => some (if b = true then 29 else 28) else some (monLen (a1 - 1).toNat)
theorem days_Length.calls (a0 a1 r : Int) (w : World) (h : days_Length.f a0 a1 = some r) (hG : Gl w) :
  Calls Tryd.prog 46 #[.int .i64 a0, .int .i64 a1] w fun e w' => e = .returned (.int .i64 r) ∧ Drawn0 w w' := by
 have HPost : ∀ W, Drawn0 w W → (fun (e : Ending) (w' : World) => e = .returned (.int .i64 r) ∧ Drawn0 w w') (.returned (.int .i64 r)) W := fun W hW => ⟨rfl, hW⟩
 generalize (fun (e : Ending) (w' : World) => e = .returned (.int .i64 r) ∧ Drawn0 w w') = Post at HPost ⊢
 have HP := sd HPost
 have HG := sd hG
 clear HPost hG
 unfold days_Length.f at h
 by_cases h1 : a1 < 1
 ·rw [if_pos (.inl h1)] at h
  obtain rfl := Option.some.inj h
  go_enter Tryd.func46, Tryd.ntmps46
  go_wp2_with fail
  (try go_ret)
  exact HP.out _ (Drawn0.refl _)
 by_cases h2 : 12 < a1
 ·rw [if_pos (.inr h2)] at h
  obtain rfl := Option.some.inj h
  go_enter Tryd.func46, Tryd.ntmps46
  go_wp2_with fail
  (try go_ret)
  exact HP.out _ (Drawn0.refl _)
 rw [if_neg (by omega)] at h
 have h1b : decide (a1 < 1) = false := decide_eq_false h1
 have h2b : decide (12 < a1) = false := decide_eq_false h2
 by_cases h3 : a1 = 2
 ·subst h3
  rw [if_pos rfl] at h
  replace h := Option.bind_eq_some_iff.mp h
  obtain ⟨b, hb, h⟩ := h
  have HL := sd (fun W => days_Leap.calls a0 b W hb)
  clear hb h1 h2 h1b h2b
  cases b
  ·rw [if_neg (by decide)] at h
   obtain rfl := Option.some.inj h
   have hc := HG.out.mon 1 (by decide)
   rw [show monLen 1 = 28 from rfl] at hc
   go_enter Tryd.func46, Tryd.ntmps46
   go_wp2_with (first | (go_at_call 73; (with_reducible refine (HL.out _).mono ?_); rintro e w' ⟨rfl, nd, rfl⟩))
   (try go_ret)
   exact HP.out _ zq23
  ·rw [if_pos rfl] at h
   obtain rfl := Option.some.inj h
   go_enter Tryd.func46, Tryd.ntmps46
   go_wp2_with (first | (go_at_call 73; (with_reducible refine (HL.out _).mono ?_); rintro e w' ⟨rfl, nd, rfl⟩))
   (try go_ret)
   exact HP.out _ zq23
 rw [if_neg h3] at h
 have h3b : (a1 == 2) = false := beq_eq_false_iff_ne.mpr h3
 obtain ⟨k, rfl⟩ : ∃ k : Nat, a1 = (k : Int) + 1 := ⟨(a1 - 1).toNat, by omega⟩
 rw [show ((k : Int) + 1 - 1).toNat = k by omega] at h
 obtain rfl := Option.some.inj h
 have hk : k < 12 := by omega
 have hc := HG.out.mon k hk
 have e1 : (k : Int) + 1 - 1 = (k : Int) := by omega
 have i0 : (0 : Int) ≤ (k : Int) := by omega
 have i1 : (k : Int) < 12 := by omega
 clear h1 h2 h3 HG
 go_enter Tryd.func46, Tryd.ntmps46
 go_wp2_with fail
 (try go_ret)
 exact HP.out _ (Drawn0.refl _)
def days_is.f (a0 : Int) : Option (Bool) := if a0 ≥ 0 then (some (decide (a0 ≤ 109572))) else (some false)
theorem days_is.calls (a0 : Int) (r : Bool) (w : World) (h : days_is.f a0 = some r) :
  Calls Tryd.prog 71 #[.int .i64 a0] w fun e w' => e = .returned (.bool r) ∧ Drawn0 w w' := by
 have H := h
 clear h
 unfold days_is.f at H
 replace H := ifI H
 rcases H with ⟨c2, H⟩ | ⟨c2, H⟩
 ·have c2b0 : decide (0 ≤ a0) = true := decide_eq_true c2
  clear c2
  obtain rfl := Option.some.inj H
  go_enter Tryd.func71, Tryd.ntmps71
  go_wp2
  go_ret
  exact ⟨zq1, zq23⟩
 have c2b0 : decide (0 ≤ a0) = false := decide_eq_false c2
 clear c2
 obtain rfl := Option.some.inj H
 go_enter Tryd.func71, Tryd.ntmps71
 go_wp2
 go_ret
 exact ⟨zq1, zq23⟩
def days_before.f (a0 : Int) : Option (Int) := some (wrap64 ((wrap64 (365 * (wrap64 (a0 - 1900)))) + (wrap64 ((wrap64 ((wrap64 ((wrap64 ((wrap64 ((wrap64 (Int.tdiv (wrap64 (a0 - 1)) 4)) - (wrap64 (Int.tdiv (wrap64 (a0 - 1)) 100)))) + (wrap64 (Int.tdiv (wrap64 (a0 - 1)) 400)))) - 474)) + 18)) - 4))))
theorem days_before.calls (a0 r : Int) (w : World) (h : days_before.f a0 = some r) :
  Calls Tryd.prog 72 #[.int .i64 a0] w fun e w' => e = .returned (.int .i64 r) ∧ Drawn0 w w' := by
 have H := h
 clear h
 unfold days_before.f at H
 obtain rfl := Option.some.inj H
 go_enter Tryd.func72, Tryd.ntmps72
 go_wp2
 go_ret
 exact ⟨zq1, zq23⟩
mutual
def days_Date.j1 : Nat → Int → Int → Int → Int → Option (Int × Int × Int × Int)
 | 0, _, _, _, _ => none
 | k + 1, x0, x136000, x136001, x136002 => (days_before.f x136000).bind fun t138 => (days_Date.l1 k (wrap64 (x0 - t138)) x136000 1 x136002)
def days_Date.l1 : Nat → Int → Int → Int → Int → Option (Int × Int × Int × Int)
 | 0, _, _, _, _ => none
 | k + 1, x0, x136000, x136001, x136002 => (days_Length.f x136000 x136001).bind fun t139 => (if x0 ≥ t139 then ((days_Length.f x136000 x136001).bind fun t140 => (days_Date.l1 k (wrap64 (x0 - t140)) x136000 (wrap64 (x136001 + 1)) x136002)) else (some (x136000, x136001, wrap64 (x0 + 1), 0)))
def days_Date.l0 : Nat → Int → Int → Int → Int → Option (Int × Int × Int × Int)
 | 0, _, _, _, _ => none
 | k + 1, x0, x136000, x136001, x136002 => if x136000 < 2199 then ((days_before.f (wrap64 (x136000 + 1))).bind fun t137 => (if t137 ≤ x0 then (days_Date.l0 k x0 (wrap64 (x136000 + 1)) x136001 x136002) else (days_Date.j1 k x0 x136000 x136001 x136002))) else (days_Date.j1 k x0 x136000 x136001 x136002)
end
def days_Date.f (k : Nat) (a0 : Int) : Option (Int × Int × Int × Int) := (days_is.f a0).bind fun t136 => (if t136 = true then (days_Date.l0 k a0 (wrap64 (1900 + (wrap64 (Int.tdiv a0 366)))) 0 0) else (some (0, 0, 0, 11)))
theorem days_Date.calls (k : Nat) (a0 r1 r2 r3 r4 : Int) (w : World) (h : days_Date.f k a0 = some (r1, r2, r3, r4)) (hG : Gl w) :
  Calls Tryd.prog 45 #[.int .i64 a0] w fun e w' => e = .returned (.tuple #[.agg #[.int .i64 r1, .int .i64 r2, .int .i64 r3], .int .i64 r4]) ∧ Below w.heap.size w w' := by
 have HG := sd hG
 clear hG
 have hu81 := Tryd.underlying81
 have HB := sd (Below.refl w.heap.size w)
 have H := h
 clear h
 unfold days_Date.f at H
 replace H := bdI H
 obtain ⟨t136, A2, H⟩ := H
 (try dsimp only at H)
 by_cases c3 : t136 = true
 ·subst c3
  rw [if_pos rfl] at H
  have HC4 := sd H
  clear H
  go_enter Tryd.func45, Tryd.ntmps45
  go_upto_block 0 with (first | ((with_reducible refine gate_dst (N := 2) rfl ?_); refine bxA 2 #[.int .i64 0, .int .i64 0, .int .i64 0] 81 ?_; intro gb135 hg w5 hbox hb; have BK135 := sd (hbox); have GW135 := gem hg HB; have GE135 := GW135; replace HB := hbm HB hb; clear hb hbox hg) | ((with_reducible refine gate_callee (f := 71) rfl ?_); refine gL 5 Tryd.func71 #[.int .i64 a0] ?_; (with_reducible refine (days_is.calls a0 true _ A2.out).mono ?_); rintro e w' ⟨rfl, ⟨nd, rfl⟩⟩; refine ⟨_, rfl, ?_⟩; (try (rw [drewN_self w5]; generalize hq_ : World.drewN w5 _ = w5; have n0_ : Aside0 (w5.heap[gb135]? = some (.cells #[.int .i64 0, .int .i64 0, .int .i64 0] 81 (0, 0))) := ⟨zq108⟩; have n1_ : Aside0 (Below w.heap.size w w5) := ⟨zq109⟩; clear BK135 HB hq_; have BK135 := n0_; have HB := n1_; clear n0_ n1_; (try (have hdBK135_0 := (blk_cell BK135.out 0).trans rfl; have heBK135_0 := blk_frozen BK135.out 0; have hdBK135_1 := (blk_cell BK135.out 1).trans rfl; have heBK135_1 := blk_frozen BK135.out 1; have hdBK135_2 := (blk_cell BK135.out 2).trans rfl; have heBK135_2 := blk_frozen BK135.out 2)))); obtain ⟨_, _, _, _, _, _⟩ := bk3 BK135))
  (try simp only [Act.put, List.setIfInBounds_toArray, List.set_cons_zero, List.set_cons_succ])
  go_cut [] (fun wc => ∃ (kq : Nat) (x136000_3 : Int), Aside0 (days_Date.j1 kq a0 x136000_3 0 0 = some (r1, r2, r3, r4)) ∧ Aside0 (kq ≤ k) ∧ Aside0 (wc.heap[gb135]? = some (.cells #[.int .i64 x136000_3, .int .i64 0, .int .i64 0] 81 (0, 0))) ∧ Aside0 (Below w.heap.size w wc))
  case first =>
   have H := HC4.out
   clear HC4
   have H' := sd H
   clear H
   go_wp2
   go_loopg [] k (fun kq w' => ∃ (x136000_1 : Int), Aside0 (days_Date.l0 kq a0 x136000_1 0 0 = some (r1, r2, r3, r4)) ∧ Aside0 (kq ≤ k) ∧ Aside0 (w'.heap[gb135]? = some (.cells #[.int .i64 x136000_1, .int .i64 0, .int .i64 0] 81 (0, 0))) ∧ Aside0 (Below w.heap.size w w'))
   case atStart => exact ⟨(wrap64 (1900 + (wrap64 (Int.tdiv a0 366)))), H', ⟨Nat.le_refl _⟩, ⟨by (with_reducible repeat (first | refine blk_drewN ?_ _ | refine blk_drew ?_ | refine blk_alloc ?_ _)); refine blk_put (cs := #[.int .i64 0, .int .i64 0, .int .i64 0]) ?_ 0 _ rfl; (with_reducible repeat (first | refine blk_drewN ?_ _ | refine blk_drew ?_ | refine blk_alloc ?_ _)); exact BK135.out⟩, ⟨zq110⟩⟩
   case round =>
    clear H'
    try clear p2
    try clear c3
    try clear c4
    try clear p6
    try clear hcz6_0
    try clear hcz6_1
    try clear hcz6_2
    try clear hfz6_0
    try clear hfz6_1
    try clear hfz6_2
    obtain ⟨x136000_1, HA, HK1, BK135, HB⟩ := hrel
    cases gk with
    | zero => exact absurd HA.out (by simp [days_Date.l0])
    | succ k1 =>
     have H := HA.out
     clear HA
     simp only [days_Date.l0] at H
     replace H := ifI H
     rcases H with ⟨c7, H⟩ | ⟨c7, H⟩
     ·have c7b0 : decide (x136000_1 < 2199) = true := decide_eq_true c7
      clear c7
      (first | rw [c7b0] | (simp only [i64_w, i32_w]; rw [c7b0]) | skip)
      replace H := bdI H
      obtain ⟨t137, A8, H⟩ := H
      (try dsimp only at H)
      replace H := ifI H
      rcases H with ⟨c9, H⟩ | ⟨c9, H⟩
      ·have c9b0 : decide (t137 ≤ a0) = true := decide_eq_true c9
       clear c9
       have H' := sd H
       clear H
       obtain ⟨_, _, _, _, _, _⟩ := bk3 BK135
       go_wp2_with (first | (go_at_call 72; (with_reducible refine (days_before.calls (wrap64 (x136000_1 + 1)) t137 _ A8.out).mono ?_); rintro e w' ⟨rfl, ⟨nd, rfl⟩⟩; (try (rw [drewN_self wr]; generalize hq_ : World.drewN wr _ = wr; have n0_ : Aside0 (wr.heap[gb135]? = some (.cells #[.int .i64 x136000_1, .int .i64 0, .int .i64 0] 81 (0, 0))) := ⟨zq108⟩; have n1_ : Aside0 (Below w.heap.size w wr) := ⟨zq109⟩; clear BK135 HB hq_; have BK135 := n0_; have HB := n1_; clear n0_ n1_; (try (have hdBK135_0 := (blk_cell BK135.out 0).trans rfl; have heBK135_0 := blk_frozen BK135.out 0; have hdBK135_1 := (blk_cell BK135.out 1).trans rfl; have heBK135_1 := blk_frozen BK135.out 1; have hdBK135_2 := (blk_cell BK135.out 2).trans rfl; have heBK135_2 := blk_frozen BK135.out 2))))))
       go_roundg k1
       case measure => have := HK1.out; omega
       case rel => exact ⟨(wrap64 (x136000_1 + 1)), H', ⟨by have := HK1.out; omega⟩, ⟨by (with_reducible repeat (first | refine blk_drewN ?_ _ | refine blk_drew ?_ | refine blk_alloc ?_ _)); refine blk_put (cs := #[.int .i64 x136000_1, .int .i64 0, .int .i64 0]) ?_ 0 _ rfl; (with_reducible repeat (first | refine blk_drewN ?_ _ | refine blk_drew ?_ | refine blk_alloc ?_ _)); exact BK135.out⟩, ⟨zq110⟩⟩
      have c9b0 : decide (t137 ≤ a0) = false := decide_eq_false c9
      clear c9
      have H' := sd H
      clear H
      obtain ⟨_, _, _, _, _, _⟩ := bk3 BK135
      go_wp2_with (first | (go_at_call 72; (with_reducible refine (days_before.calls (wrap64 (x136000_1 + 1)) t137 _ A8.out).mono ?_); rintro e w' ⟨rfl, ⟨nd, rfl⟩⟩))
      go_meet
      case rel => exact ⟨_, (x136000_1), H', ⟨zq68⟩, ⟨zq111⟩, ⟨zq110⟩⟩
     have c7b0 : decide (x136000_1 < 2199) = false := decide_eq_false c7
     clear c7
     (first | rw [c7b0] | (simp only [i64_w, i32_w]; rw [c7b0]) | skip)
     have H' := sd H
     clear H
     obtain ⟨_, _, _, _, _, _⟩ := bk3 BK135
     go_wp2
     go_meet
     case rel => exact ⟨_, (x136000_1), H', ⟨zq68⟩, ⟨zq111⟩, ⟨zq110⟩⟩
  case rest =>
   clear HC4
   try clear p2
   try clear c3
   try clear c4
   try clear p6
   try clear c7
   try clear c7b0
   try clear c9
   try clear c9b0
   try clear hcz10_0
   try clear hcz10_1
   try clear hcz10_2
   try clear hcz11_0
   try clear hcz11_1
   try clear hcz11_2
   try clear hcz12_0
   try clear hcz12_1
   try clear hcz12_2
   try clear hcz6_0
   try clear hcz6_1
   try clear hcz6_2
   try clear hfz10_0
   try clear hfz10_1
   try clear hfz10_2
   try clear hfz11_0
   try clear hfz11_1
   try clear hfz11_2
   try clear hfz12_0
   try clear hfz12_1
   try clear hfz12_2
   try clear hfz6_0
   try clear hfz6_1
   try clear hfz6_2
   try clear p2
   try clear p6
   obtain ⟨kq, x136000_3, HA, HJ3, BK135, HB⟩ := hcut
   cases kq with
   | zero => exact absurd HA.out (by simp [days_Date.j1])
   | succ kj3 =>
    have H := HA.out
    clear HA
    simp only [days_Date.j1] at H
    replace H := bdI H
    obtain ⟨t138, A13, H⟩ := H
    (try dsimp only at H)
    have H' := sd H
    clear H
    obtain ⟨_, _, _, _, _, _⟩ := bk3 BK135
    go_wp2_with (first | ((with_reducible refine gate_callee (f := 72) rfl ?_); refine gL 30 Tryd.func72 #[.int .i64 x136000_3] ?_; (with_reducible refine (days_before.calls x136000_3 t138 _ A13.out).mono ?_); rintro e w' ⟨rfl, ⟨nd, rfl⟩⟩; refine ⟨_, rfl, ?_⟩; (try (rw [drewN_self wc]; generalize hq_ : World.drewN wc _ = wc; have n0_ : Aside0 (wc.heap[gb135]? = some (.cells #[.int .i64 x136000_3, .int .i64 0, .int .i64 0] 81 (0, 0))) := ⟨zq108⟩; have n1_ : Aside0 (Below w.heap.size w wc) := ⟨zq109⟩; clear BK135 HB hq_; have BK135 := n0_; have HB := n1_; clear n0_ n1_; (try (have hdBK135_0 := (blk_cell BK135.out 0).trans rfl; have heBK135_0 := blk_frozen BK135.out 0; have hdBK135_1 := (blk_cell BK135.out 1).trans rfl; have heBK135_1 := blk_frozen BK135.out 1; have hdBK135_2 := (blk_cell BK135.out 2).trans rfl; have heBK135_2 := blk_frozen BK135.out 2))))))
    go_loopg [0] kj3 (fun kq v0 w' => ∃ (x0_2 : Int) (x136001_2 : Int), v0 = .int .i64 x0_2 ∧ Aside0 (days_Date.l1 kq x0_2 x136000_3 x136001_2 0 = some (r1, r2, r3, r4)) ∧ Aside0 (kq ≤ kj3) ∧ Aside0 (w'.heap[gb135]? = some (.cells #[.int .i64 x136000_3, .int .i64 x136001_2, .int .i64 0] 81 (0, 0))) ∧ Aside0 (Below w.heap.size w w'))
    case atStart => exact ⟨(wrap64 (a0 - t138)), (1), zq1, H', ⟨Nat.le_refl _⟩, ⟨by (with_reducible repeat (first | refine blk_drewN ?_ _ | refine blk_drew ?_ | refine blk_alloc ?_ _)); refine blk_put (cs := #[.int .i64 x136000_3, .int .i64 0, .int .i64 0]) ?_ 1 _ rfl; (with_reducible repeat (first | refine blk_drewN ?_ _ | refine blk_drew ?_ | refine blk_alloc ?_ _)); exact BK135.out⟩, ⟨zq110⟩⟩
    case round =>
     clear H'
     try clear p2
     try clear c3
     try clear c4
     try clear p6
     try clear c7
     try clear c7b0
     try clear c9
     try clear c9b0
     try clear hcz10_0
     try clear hcz10_1
     try clear hcz10_2
     try clear hcz11_0
     try clear hcz11_1
     try clear hcz11_2
     try clear hcz12_0
     try clear hcz12_1
     try clear hcz12_2
     try clear hcz14_0
     try clear hcz14_1
     try clear hcz14_2
     try clear hcz6_0
     try clear hcz6_1
     try clear hcz6_2
     try clear hfz10_0
     try clear hfz10_1
     try clear hfz10_2
     try clear hfz11_0
     try clear hfz11_1
     try clear hfz11_2
     try clear hfz12_0
     try clear hfz12_1
     try clear hfz12_2
     try clear hfz14_0
     try clear hfz14_1
     try clear hfz14_2
     try clear hfz6_0
     try clear hfz6_1
     try clear hfz6_2
     try clear p2
     try clear p6
     obtain ⟨x0_2, x136001_2, rfl, HA, HK2, BK135, HB⟩ := hrel
     cases gk with
     | zero => exact absurd HA.out (by simp [days_Date.l1])
     | succ k2 =>
      have H := HA.out
      clear HA
      simp only [days_Date.l1] at H
      replace H := bdI H
      obtain ⟨t139, A15, H⟩ := H
      (try dsimp only at H)
      replace H := ifI H
      rcases H with ⟨c16, H⟩ | ⟨c16, H⟩
      ·have c16b0 : decide (t139 ≤ x0_2) = true := decide_eq_true c16
       clear c16
       replace H := bdI H
       obtain ⟨t140, A17, H⟩ := H
       (try dsimp only at H)
       have H' := sd H
       clear H
       obtain ⟨_, _, _, _, _, _⟩ := bk3 BK135
       go_wp2_with (first | ((with_reducible refine gate_callee (f := 46) rfl ?_); refine gL 38 Tryd.func46 #[.int .i64 x136000_3, .int .i64 x136001_2] ?_; (with_reducible refine (days_Length.calls x136000_3 x136001_2 t139 _ A15.out (gl_below HG.out zq91)).mono ?_); rintro e w' ⟨rfl, ⟨nd, rfl⟩⟩; refine ⟨_, rfl, ?_⟩; (try (rw [drewN_self wr]; generalize hq_ : World.drewN wr _ = wr; have n0_ : Aside0 (wr.heap[gb135]? = some (.cells #[.int .i64 x136000_3, .int .i64 x136001_2, .int .i64 0] 81 (0, 0))) := ⟨zq108⟩; have n1_ : Aside0 (Below w.heap.size w wr) := ⟨zq109⟩; clear BK135 HB hq_; have BK135 := n0_; have HB := n1_; clear n0_ n1_; (try (have hdBK135_0 := (blk_cell BK135.out 0).trans rfl; have heBK135_0 := blk_frozen BK135.out 0; have hdBK135_1 := (blk_cell BK135.out 1).trans rfl; have heBK135_1 := blk_frozen BK135.out 1; have hdBK135_2 := (blk_cell BK135.out 2).trans rfl; have heBK135_2 := blk_frozen BK135.out 2))))) | ((with_reducible refine gate_callee (f := 46) rfl ?_); refine gL 45 Tryd.func46 #[.int .i64 x136000_3, .int .i64 x136001_2] ?_; (with_reducible refine (days_Length.calls x136000_3 x136001_2 t140 _ A17.out (gl_below HG.out zq91)).mono ?_); rintro e w' ⟨rfl, ⟨nd, rfl⟩⟩; refine ⟨_, rfl, ?_⟩; (try (rw [drewN_self wr]; generalize hq_ : World.drewN wr _ = wr; have n0_ : Aside0 (wr.heap[gb135]? = some (.cells #[.int .i64 x136000_3, .int .i64 x136001_2, .int .i64 0] 81 (0, 0))) := ⟨zq108⟩; have n1_ : Aside0 (Below w.heap.size w wr) := ⟨zq109⟩; clear BK135 HB hq_; have BK135 := n0_; have HB := n1_; clear n0_ n1_; (try (have hdBK135_0 := (blk_cell BK135.out 0).trans rfl; have heBK135_0 := blk_frozen BK135.out 0; have hdBK135_1 := (blk_cell BK135.out 1).trans rfl; have heBK135_1 := blk_frozen BK135.out 1; have hdBK135_2 := (blk_cell BK135.out 2).trans rfl; have heBK135_2 := blk_frozen BK135.out 2))))))
       go_roundg k2
       case measure => have := HJ3.out; have := HK2.out; omega
       case rel => exact ⟨(wrap64 (x0_2 - t140)), (wrap64 (x136001_2 + 1)), zq1, H', ⟨by have := HJ3.out; have := HK2.out; omega⟩, ⟨by (with_reducible repeat (first | refine blk_drewN ?_ _ | refine blk_drew ?_ | refine blk_alloc ?_ _)); refine blk_put (cs := #[.int .i64 x136000_3, .int .i64 x136001_2, .int .i64 0]) ?_ 1 _ rfl; (with_reducible repeat (first | refine blk_drewN ?_ _ | refine blk_drew ?_ | refine blk_alloc ?_ _)); exact BK135.out⟩, ⟨zq110⟩⟩
      have c16b0 : decide (t139 ≤ x0_2) = false := decide_eq_false c16
      clear c16
      simp only [Option.some.injEq, Prod.mk.injEq] at H
      obtain ⟨rfl, rfl, rfl, rfl⟩ := H
      obtain ⟨_, _, _, _, _, _⟩ := bk3 BK135
      go_wp2_with (first | ((with_reducible refine gate_callee (f := 46) rfl ?_); refine gL 38 Tryd.func46 #[.int .i64 x136000_3, .int .i64 x136001_2] ?_; (with_reducible refine (days_Length.calls x136000_3 x136001_2 t139 _ A15.out (gl_below HG.out zq91)).mono ?_); rintro e w' ⟨rfl, ⟨nd, rfl⟩⟩; refine ⟨_, rfl, ?_⟩; (try (rw [drewN_self wr]; generalize hq_ : World.drewN wr _ = wr; have n0_ : Aside0 (wr.heap[gb135]? = some (.cells #[.int .i64 x136000_3, .int .i64 x136001_2, .int .i64 0] 81 (0, 0))) := ⟨zq108⟩; have n1_ : Aside0 (Below w.heap.size w wr) := ⟨zq109⟩; clear BK135 HB hq_; have BK135 := n0_; have HB := n1_; clear n0_ n1_; (try (have hdBK135_0 := (blk_cell BK135.out 0).trans rfl; have heBK135_0 := blk_frozen BK135.out 0; have hdBK135_1 := (blk_cell BK135.out 1).trans rfl; have heBK135_1 := blk_frozen BK135.out 1; have hdBK135_2 := (blk_cell BK135.out 2).trans rfl; have heBK135_2 := blk_frozen BK135.out 2))))))
      refine bodyPost_ret (results_ct rfl _ _ gb135 81 #[.int .i64 x136000_3, .int .i64 x136001_2, .int .i64 (wrap64 (x0_2 + 1))] (0, 0) _ rfl (by (with_reducible repeat (first | refine blk_drewN ?_ _ | refine blk_drew ?_ | refine blk_alloc ?_ _)); refine blk_put (cs := #[.int .i64 x136000_3, .int .i64 x136001_2, .int .i64 (wrap64 (x0_2 + 1))]) ?_ 2 _ rfl; (with_reducible repeat (first | refine blk_drewN ?_ _ | refine blk_drew ?_ | refine blk_alloc ?_ _)); refine blk_put (cs := #[.int .i64 x136000_3, .int .i64 x136001_2, .int .i64 (wrap64 (x0_2 + 1))]) ?_ 1 _ rfl; (with_reducible repeat (first | refine blk_drewN ?_ _ | refine blk_drew ?_ | refine blk_alloc ?_ _)); refine blk_put (cs := #[.int .i64 x136000_3, .int .i64 x136001_2, .int .i64 (wrap64 (x0_2 + 1))]) ?_ 0 _ rfl; (with_reducible repeat (first | refine blk_drewN ?_ _ | refine blk_drew ?_ | refine blk_alloc ?_ _)); refine blk_put (cs := #[.int .i64 x136000_3, .int .i64 x136001_2, .int .i64 0]) ?_ 2 _ rfl; (with_reducible repeat (first | refine blk_drewN ?_ _ | refine blk_drew ?_ | refine blk_alloc ?_ _)); exact BK135.out) Tryd.underlying81 rfl (by kernel_rfl)) rfl ?_
      exact ⟨zq8, zq110⟩
 replace c3 := Bool.eq_false_iff.mpr c3
 subst c3
 rw [if_neg Bool.false_ne_true] at H
 simp only [Option.some.injEq, Prod.mk.injEq] at H
 obtain ⟨rfl, rfl, rfl, rfl⟩ := H
 go_enter Tryd.func45, Tryd.ntmps45
 go_wp2_with (first | ((with_reducible refine gate_dst (N := 2) rfl ?_); refine bxA 2 #[.int .i64 0, .int .i64 0, .int .i64 0] 81 ?_; intro gb135 hg w20 hbox hb; have BK135 := sd (hbox); have GW135 := gem hg HB; have GE135 := GW135; replace HB := hbm HB hb; clear hb hbox hg) | ((with_reducible refine gate_callee (f := 71) rfl ?_); refine gL 5 Tryd.func71 #[.int .i64 a0] ?_; (with_reducible refine (days_is.calls a0 false _ A2.out).mono ?_); rintro e w' ⟨rfl, ⟨nd, rfl⟩⟩; refine ⟨_, rfl, ?_⟩; (try (rw [drewN_self w20]; generalize hq_ : World.drewN w20 _ = w20; have n0_ : Aside0 (w20.heap[gb135]? = some (.cells #[.int .i64 0, .int .i64 0, .int .i64 0] 81 (0, 0))) := ⟨zq108⟩; have n1_ : Aside0 (Below w.heap.size w w20) := ⟨zq109⟩; clear BK135 HB hq_; have BK135 := n0_; have HB := n1_; clear n0_ n1_; (try (have hdBK135_0 := (blk_cell BK135.out 0).trans rfl; have heBK135_0 := blk_frozen BK135.out 0; have hdBK135_1 := (blk_cell BK135.out 1).trans rfl; have heBK135_1 := blk_frozen BK135.out 1; have hdBK135_2 := (blk_cell BK135.out 2).trans rfl; have heBK135_2 := blk_frozen BK135.out 2)))); obtain ⟨_, _, _, _, _, _⟩ := bk3 BK135))
 refine bodyPost_ret (results_ct rfl _ _ gb135 81 #[.int .i64 0, .int .i64 0, .int .i64 0] (0, 0) _ rfl (by (with_reducible repeat (first | refine blk_drewN ?_ _ | refine blk_drew ?_ | refine blk_alloc ?_ _)); refine blk_put (cs := #[.int .i64 0, .int .i64 0, .int .i64 0]) ?_ 2 _ rfl; (with_reducible repeat (first | refine blk_drewN ?_ _ | refine blk_drew ?_ | refine blk_alloc ?_ _)); refine blk_put (cs := #[.int .i64 0, .int .i64 0, .int .i64 0]) ?_ 1 _ rfl; (with_reducible repeat (first | refine blk_drewN ?_ _ | refine blk_drew ?_ | refine blk_alloc ?_ _)); refine blk_put (cs := #[.int .i64 0, .int .i64 0, .int .i64 0]) ?_ 0 _ rfl; (with_reducible repeat (first | refine blk_drewN ?_ _ | refine blk_drew ?_ | refine blk_alloc ?_ _)); exact BK135.out) Tryd.underlying81 rfl (by kernel_rfl)) rfl ?_
 exact ⟨zq8, zq110⟩
mutual
def days_Of.j0 : Nat → Bool → Int → Int → Int → Option (Int × Int)
 | 0, _, _, _, _ => none
 | k + 1, x27, x142000, x142001, x142002 => if x27 = true then (some (0, 11)) else ((days_before.f x142000).bind fun t143 => (days_Of.l0 k (wrap64 ((wrap64 (t143 + x142002)) - 1)) 1 x142000 x142001 x142002))
def days_Of.l0 : Nat → Int → Int → Int → Int → Int → Option (Int × Int)
 | 0, _, _, _, _, _ => none
 | k + 1, x2, x4, x142000, x142001, x142002 => if x4 < x142001 then ((days_Length.f x142000 x4).bind fun t144 => (days_Of.l0 k (wrap64 (x2 + t144)) (wrap64 (x4 + 1)) x142000 x142001 x142002)) else (some (x2, 0))
end
def days_Of.f (k : Nat) (a0_0 : Int) (a0_1 : Int) (a0_2 : Int) : Option (Int × Int) := if a0_0 < 1900 then (days_Of.j0 k true a0_0 a0_1 a0_2) else (if a0_0 > 2199 then (days_Of.j0 k true a0_0 a0_1 a0_2) else (if a0_2 < 1 then (days_Of.j0 k true a0_0 a0_1 a0_2) else ((days_Length.f a0_0 a0_1).bind fun t142 => (days_Of.j0 k (decide (a0_2 > t142)) a0_0 a0_1 a0_2))))
theorem days_Of.calls (k : Nat) (a0_0 a0_1 a0_2 r1 r2 : Int) (w : World) (h : days_Of.f k a0_0 a0_1 a0_2 = some (r1, r2)) (hG : Gl w) :
  Calls Tryd.prog 47 #[.agg #[.int .i64 a0_0, .int .i64 a0_1, .int .i64 a0_2]] w fun e w' => e = .returned (.tuple #[.int .i64 r1, .int .i64 r2]) ∧ Below w.heap.size w w' := by
 have HG := sd hG
 clear hG
 have hu81 := Tryd.underlying81
 have HB := sd (Below.refl w.heap.size w)
 have H := h
 clear h
 unfold days_Of.f at H
 have HC2 := sd H
 clear H
 go_enter Tryd.func47, Tryd.ntmps47
 go_upto_region 1 with (first | ((with_reducible refine gate_dst (N := 1) rfl ?_); refine bxA 1 #[.int .i64 a0_0, .int .i64 a0_1, .int .i64 a0_2] 81 ?_; intro gb141 hg w3 hbox hb; have BK141 := sd (hbox); have GW141 := gem hg HB; have GE141 := GW141; replace HB := hbm HB hb; clear hb hbox hg))
 repeat (go_quiet (first | ((with_reducible refine gate_dst (N := 1) rfl ?_); refine bxA 1 #[.int .i64 a0_0, .int .i64 a0_1, .int .i64 a0_2] 81 ?_; intro gb141 hg w3 hbox hb; have BK141 := sd (hbox); have GW141 := gem hg HB; have GE141 := GW141; replace HB := hbm HB hb; clear hb hbox hg)); go_upto_region 1 with (first | ((with_reducible refine gate_dst (N := 1) rfl ?_); refine bxA 1 #[.int .i64 a0_0, .int .i64 a0_1, .int .i64 a0_2] 81 ?_; intro gb141 hg w3 hbox hb; have BK141 := sd (hbox); have GW141 := gem hg HB; have GE141 := GW141; replace HB := hbm HB hb; clear hb hbox hg)))
 (try simp only [Act.put, List.setIfInBounds_toArray, List.set_cons_zero, List.set_cons_succ])
 go_cut [27] (fun v27 wc => ∃ (kq : Nat) (x27_1 : Bool), v27 = .bool x27_1 ∧ Aside0 (days_Of.j0 kq x27_1 a0_0 a0_1 a0_2 = some (r1, r2)) ∧ Aside0 (kq ≤ k) ∧ Aside0 (wc.heap[gb141]? = some (.cells #[.int .i64 a0_0, .int .i64 a0_1, .int .i64 a0_2] 81 (0, 0))) ∧ Aside0 (Below w.heap.size w wc))
 case first =>
  have H := HC2.out
  clear HC2
  replace H := ifI H
  rcases H with ⟨c4, H⟩ | ⟨c4, H⟩
  ·have c4b0 : decide (a0_0 < 1900) = true := decide_eq_true c4
   clear c4
   (first | rw [c4b0] | (simp only [i64_w, i32_w]; rw [c4b0]) | skip)
   have H' := sd H
   clear H
   obtain ⟨_, _, _, _, _, _⟩ := bk3 BK141
   go_wp2
   repeat (go_quiet (fail); try go_wp2)
   go_meet
   case rel => exact ⟨_, (true), zq1, H', ⟨by first | omega | exact Nat.le_refl _⟩, ⟨zq112⟩, ⟨zq113⟩⟩
  have c4b0 : decide (a0_0 < 1900) = false := decide_eq_false c4
  clear c4
  (first | rw [c4b0] | (simp only [i64_w, i32_w]; rw [c4b0]) | skip)
  replace H := ifI H
  rcases H with ⟨c6, H⟩ | ⟨c6, H⟩
  ·have c6b0 : decide (2199 < a0_0) = true := decide_eq_true c6
   clear c6
   have H' := sd H
   clear H
   obtain ⟨_, _, _, _, _, _⟩ := bk3 BK141
   go_wp2
   repeat (go_quiet (fail); try go_wp2)
   go_meet
   case rel => exact ⟨_, (true), zq1, H', ⟨by first | omega | exact Nat.le_refl _⟩, ⟨zq112⟩, ⟨zq113⟩⟩
  have c6b0 : decide (2199 < a0_0) = false := decide_eq_false c6
  clear c6
  replace H := ifI H
  rcases H with ⟨c8, H⟩ | ⟨c8, H⟩
  ·have c8b0 : decide (a0_2 < 1) = true := decide_eq_true c8
   clear c8
   have H' := sd H
   clear H
   obtain ⟨_, _, _, _, _, _⟩ := bk3 BK141
   go_wp2
   repeat (go_quiet (fail); try go_wp2)
   go_meet
   case rel => exact ⟨_, (true), zq1, H', ⟨by first | omega | exact Nat.le_refl _⟩, ⟨zq112⟩, ⟨zq113⟩⟩
  have c8b0 : decide (a0_2 < 1) = false := decide_eq_false c8
  clear c8
  replace H := bdI H
  obtain ⟨t142, A10, H⟩ := H
  (try dsimp only at H)
  have H' := sd H
  clear H
  obtain ⟨_, _, _, _, _, _⟩ := bk3 BK141
  go_wp2_with (first | (go_at_call 46; (with_reducible refine (days_Length.calls a0_0 a0_1 t142 _ A10.out (gl_below HG.out zq91)).mono ?_); rintro e w' ⟨rfl, ⟨nd, rfl⟩⟩; (try first | exact ⟨rfl, _, World.drewN_drewN _ _ _⟩ | exact ⟨rfl, _, Eq.trans (World.drewN_drewN _ _ _) (congrArg (World.drewN _) (Nat.add_assoc _ _ _))⟩)))
  repeat (go_quiet (first | (go_at_call 46; (with_reducible refine (days_Length.calls a0_0 a0_1 t142 _ A10.out (gl_below HG.out zq91)).mono ?_); rintro e w' ⟨rfl, ⟨nd, rfl⟩⟩; (try first | exact ⟨rfl, _, World.drewN_drewN _ _ _⟩ | exact ⟨rfl, _, Eq.trans (World.drewN_drewN _ _ _) (congrArg (World.drewN _) (Nat.add_assoc _ _ _))⟩))); try go_wp2_with (first | (go_at_call 46; (with_reducible refine (days_Length.calls a0_0 a0_1 t142 _ A10.out (gl_below HG.out zq91)).mono ?_); rintro e w' ⟨rfl, ⟨nd, rfl⟩⟩; (try first | exact ⟨rfl, _, World.drewN_drewN _ _ _⟩ | exact ⟨rfl, _, Eq.trans (World.drewN_drewN _ _ _) (congrArg (World.drewN _) (Nat.add_assoc _ _ _))⟩))))
  go_meet
  case rel => exact ⟨_, (decide (a0_2 > t142)), zq1, H', ⟨by first | omega | exact Nat.le_refl _⟩, ⟨zq112⟩, ⟨zq113⟩⟩
 case rest =>
  clear HC2
  try clear p2
  try clear c4
  try clear c4b0
  try clear c6
  try clear c6b0
  try clear c8
  try clear c8b0
  try clear hcz11_0
  try clear hcz11_1
  try clear hcz11_2
  try clear hcz5_0
  try clear hcz5_1
  try clear hcz5_2
  try clear hcz7_0
  try clear hcz7_1
  try clear hcz7_2
  try clear hcz9_0
  try clear hcz9_1
  try clear hcz9_2
  try clear hfz11_0
  try clear hfz11_1
  try clear hfz11_2
  try clear hfz5_0
  try clear hfz5_1
  try clear hfz5_2
  try clear hfz7_0
  try clear hfz7_1
  try clear hfz7_2
  try clear hfz9_0
  try clear hfz9_1
  try clear hfz9_2
  obtain ⟨kq, x27_1, rfl, HA, HJ1, BK141, HB⟩ := hcut
  cases kq with
  | zero => exact absurd HA.out (by simp [days_Of.j0])
  | succ kj1 =>
   have H := HA.out
   clear HA
   simp only [days_Of.j0] at H
   by_cases c12 : x27_1 = true
   ·subst c12
    rw [if_pos rfl] at H
    simp only [Option.some.injEq, Prod.mk.injEq] at H
    obtain ⟨rfl, rfl⟩ := H
    go_wp2
    repeat (go_quiet (fail); try go_wp2)
    go_ret2
    exact ⟨zq8, zq113⟩
   replace c12 := Bool.eq_false_iff.mpr c12
   subst c12
   rw [if_neg Bool.false_ne_true] at H
   replace H := bdI H
   obtain ⟨t143, A13, H⟩ := H
   (try dsimp only at H)
   have H' := sd H
   clear H
   obtain ⟨_, _, _, _, _, _⟩ := bk3 BK141
   go_wp2_with (first | (go_at_call 72; (with_reducible refine (days_before.calls a0_0 t143 _ A13.out).mono ?_); rintro e w' ⟨rfl, ⟨nd, rfl⟩⟩; (try first | exact ⟨rfl, _, World.drewN_drewN _ _ _⟩ | exact ⟨rfl, _, Eq.trans (World.drewN_drewN _ _ _) (congrArg (World.drewN _) (Nat.add_assoc _ _ _))⟩)))
   repeat (go_quiet (first | (go_at_call 72; (with_reducible refine (days_before.calls a0_0 t143 _ A13.out).mono ?_); rintro e w' ⟨rfl, ⟨nd, rfl⟩⟩; (try first | exact ⟨rfl, _, World.drewN_drewN _ _ _⟩ | exact ⟨rfl, _, Eq.trans (World.drewN_drewN _ _ _) (congrArg (World.drewN _) (Nat.add_assoc _ _ _))⟩))); try go_wp2_with (first | (go_at_call 72; (with_reducible refine (days_before.calls a0_0 t143 _ A13.out).mono ?_); rintro e w' ⟨rfl, ⟨nd, rfl⟩⟩; (try first | exact ⟨rfl, _, World.drewN_drewN _ _ _⟩ | exact ⟨rfl, _, Eq.trans (World.drewN_drewN _ _ _) (congrArg (World.drewN _) (Nat.add_assoc _ _ _))⟩))))
   go_loopg [2, 4] kj1 (fun kq v2 v4 w' => ∃ (x2_2 : Int) (x4_2 : Int), v2 = .int .i64 x2_2 ∧ v4 = .int .i64 x4_2 ∧ Aside0 (days_Of.l0 kq x2_2 x4_2 a0_0 a0_1 a0_2 = some (r1, r2)) ∧ Aside0 (kq ≤ kj1) ∧ Aside0 (w'.heap[gb141]? = some (.cells #[.int .i64 a0_0, .int .i64 a0_1, .int .i64 a0_2] 81 (0, 0))) ∧ Aside0 (Below w.heap.size w w'))
   case atStart => exact ⟨(wrap64 ((wrap64 (t143 + a0_2)) - 1)), (1), zq1, zq1, H', ⟨Nat.le_refl _⟩, ⟨zq112⟩, ⟨zq113⟩⟩
   case round =>
    clear H'
    try clear c1
    try clear p2
    try clear c4
    try clear c4b0
    try clear c6
    try clear c6b0
    try clear p6
    try clear c8
    try clear c8b0
    try clear c12
    try clear hcz11_0
    try clear hcz11_1
    try clear hcz11_2
    try clear hcz14_0
    try clear hcz14_1
    try clear hcz14_2
    try clear hcz5_0
    try clear hcz5_1
    try clear hcz5_2
    try clear hcz7_0
    try clear hcz7_1
    try clear hcz7_2
    try clear hcz9_0
    try clear hcz9_1
    try clear hcz9_2
    try clear hfz11_0
    try clear hfz11_1
    try clear hfz11_2
    try clear hfz14_0
    try clear hfz14_1
    try clear hfz14_2
    try clear hfz5_0
    try clear hfz5_1
    try clear hfz5_2
    try clear hfz7_0
    try clear hfz7_1
    try clear hfz7_2
    try clear hfz9_0
    try clear hfz9_1
    try clear hfz9_2
    try clear p2
    obtain ⟨x2_2, x4_2, rfl, rfl, HA, HK2, BK141, HB⟩ := hrel
    cases gk with
    | zero => exact absurd HA.out (by simp [days_Of.l0])
    | succ k2 =>
     have H := HA.out
     clear HA
     simp only [days_Of.l0] at H
     replace H := ifI H
     rcases H with ⟨c15, H⟩ | ⟨c15, H⟩
     ·have c15b0 : decide (x4_2 < a0_1) = true := decide_eq_true c15
      clear c15
      replace H := bdI H
      obtain ⟨t144, A16, H⟩ := H
      (try dsimp only at H)
      have H' := sd H
      clear H
      obtain ⟨_, _, _, _, _, _⟩ := bk3 BK141
      go_wp2_with (first | (go_at_call 46; (with_reducible refine (days_Length.calls a0_0 x4_2 t144 _ A16.out (gl_below HG.out zq91)).mono ?_); rintro e w' ⟨rfl, ⟨nd, rfl⟩⟩; (try first | exact ⟨rfl, _, World.drewN_drewN _ _ _⟩ | exact ⟨rfl, _, Eq.trans (World.drewN_drewN _ _ _) (congrArg (World.drewN _) (Nat.add_assoc _ _ _))⟩)))
      repeat (go_quiet (first | (go_at_call 46; (with_reducible refine (days_Length.calls a0_0 x4_2 t144 _ A16.out (gl_below HG.out zq91)).mono ?_); rintro e w' ⟨rfl, ⟨nd, rfl⟩⟩; (try first | exact ⟨rfl, _, World.drewN_drewN _ _ _⟩ | exact ⟨rfl, _, Eq.trans (World.drewN_drewN _ _ _) (congrArg (World.drewN _) (Nat.add_assoc _ _ _))⟩))); try go_wp2_with (first | (go_at_call 46; (with_reducible refine (days_Length.calls a0_0 x4_2 t144 _ A16.out (gl_below HG.out zq91)).mono ?_); rintro e w' ⟨rfl, ⟨nd, rfl⟩⟩; (try first | exact ⟨rfl, _, World.drewN_drewN _ _ _⟩ | exact ⟨rfl, _, Eq.trans (World.drewN_drewN _ _ _) (congrArg (World.drewN _) (Nat.add_assoc _ _ _))⟩))))
      go_roundg k2
      case measure => have := HJ1.out; have := HK2.out; omega
      case rel => exact ⟨(wrap64 (x2_2 + t144)), (wrap64 (x4_2 + 1)), zq1, zq1, H', ⟨by have := HJ1.out; have := HK2.out; omega⟩, ⟨zq112⟩, ⟨zq113⟩⟩
     have c15b0 : decide (x4_2 < a0_1) = false := decide_eq_false c15
     clear c15
     simp only [Option.some.injEq, Prod.mk.injEq] at H
     obtain ⟨rfl, rfl⟩ := H
     obtain ⟨_, _, _, _, _, _⟩ := bk3 BK141
     go_wp2
     repeat (go_quiet (fail); try go_wp2)
     go_ret2
     exact ⟨zq8, zq113⟩
theorem eqParts (a b c x y z : Int) (W : World) : (Op.equalIn 10000 85 (.agg #[.int .i64 a, .int .i64 b, .int .i64 c]) (.agg #[.int .i64 x, .int .i64 y, .int .i64 z])).run Tryd.prog W = .ok (decide (a = x ∧ b = y ∧ c = z)) W := by
 have hu : Tryd.prog.underlying 85 = some (.array 3 3) := by kernel_rfl
 have hs : ∀ W, (Go.sizeOf 3).run Tryd.prog W = .ok 1 W := fun _ => by kernel_rfl
 have p1 : ∀ (x y z : Int) W, (part 3 #[.int .i64 x, .int .i64 y, .int .i64 z] 0).run Tryd.prog W = .ok (.int .i64 x) W := fun _ _ _ _ => by kernel_rfl
 have p2 : ∀ (x y z : Int) W, (part 3 #[.int .i64 x, .int .i64 y, .int .i64 z] 1).run Tryd.prog W = .ok (.int .i64 y) W := fun _ _ _ _ => by kernel_rfl
 have p3 : ∀ (x y z : Int) W, (part 3 #[.int .i64 x, .int .i64 y, .int .i64 z] 2).run Tryd.prog W = .ok (.int .i64 z) W := fun _ _ _ _ => by kernel_rfl
 have e1 : ∀ (x y : Int) W, (Op.equalIn 9999 3 (.int .i64 x) (.int .i64 y)).run Tryd.prog W = .ok (x == y) W := fun x y W => run_equalIn_int W 9998 3 .i64 .i64 x y Tryd.underlying3
 rw [show (10000 : Nat) = 9999 + 1 from rfl, Op.equalIn]
 simp only [Sem.run_bind, run_underlying hu, Result.andThen_ok, hs]
 rw [Std.Legacy.Range.forIn_eq_forIn_range']
 simp [Std.Legacy.Range.size, List.range', p1, p2, p3, e1]
 by_cases h1 : a = x <;> by_cases h2 : b = y <;> by_cases h3 : c = z <;> simp [h1, h2, h3]
def days_MonthEnd.f (k : Nat) (a0 : Int) : Option (Int × Int) := (days_Date.f k a0).bind fun d => if d.2.2.2 ≠ 0 then some (0, d.2.2.2) else
 if d.1 = 2199 ∧ d.2.1 = 12 ∧ d.2.2.1 = 31 then some (109572, 0) else (days_Length.f d.1 d.2.1).bind fun n => days_Of.f k d.1 d.2.1 n
theorem days_MonthEnd.calls (k : Nat) (a0 r1 r2 : Int) (w : World) (h : days_MonthEnd.f k a0 = some (r1, r2)) (hG : Gl w) :
  Calls Tryd.prog 31 #[.int .i64 a0] w fun e w' => e = .returned (.tuple #[.int .i64 r1, .int .i64 r2]) ∧ Below w.heap.size w w' := by
 have HPost : ∀ W, Below w.heap.size w W → (fun (e : Ending) (w' : World) => e = .returned (.tuple #[.int .i64 r1, .int .i64 r2]) ∧ Below w.heap.size w w') (.returned (.tuple #[.int .i64 r1, .int .i64 r2])) W := fun W hW => ⟨rfl, hW⟩
 generalize (fun (e : Ending) (w' : World) => e = .returned (.tuple #[.int .i64 r1, .int .i64 r2]) ∧ Below w.heap.size w w') = Post at HPost ⊢
 have HP := sd HPost
 have HG := sd hG
 clear HPost hG
 unfold days_MonthEnd.f at h
 replace h := Option.bind_eq_some_iff.mp h
 obtain ⟨⟨y, m, d, e0⟩, hd, h⟩ := h
 dsimp only at h
 have CD := sd (days_Date.calls k a0 y m d e0 w hd HG.out)
 clear hd
 by_cases he : e0 = 0
 ·subst he
  rw [if_neg (by decide)] at h
  by_cases hl : y = 2199 ∧ m = 12 ∧ d = 31
  ·rw [if_pos hl] at h
   obtain ⟨rfl, rfl, rfl⟩ := hl
   simp only [Option.some.injEq, Prod.mk.injEq] at h
   obtain ⟨rfl, rfl⟩ := h
   have hq := fun W => eqParts 2199 12 31 2199 12 31 W
   rw [show decide ((2199 : Int) = 2199 ∧ (12 : Int) = 12 ∧ (31 : Int) = 31) = true from rfl] at hq
   go_enter Tryd.func31, Tryd.ntmps31
   go_wp2_with fail
   refine CD.out.mono ?_
   rintro e W1 ⟨rfl, hb⟩
   have HB := sd hb
   clear hb CD
   go_wp2_with fail
   (try go_ret2)
   exact HP.out _ (below_alloc HB.out _)
  rw [if_neg hl] at h
  replace h := Option.bind_eq_some_iff.mp h
  obtain ⟨n, hn, h⟩ := h
  have CL := sd (fun W hG => days_Length.calls y m n W hn hG)
  have CO := sd (fun W hG => days_Of.calls k y m n r1 r2 W h hG)
  clear hn h
  have hq := fun W => eqParts y m d 2199 12 31 W
  rw [decide_eq_false hl] at hq
  clear hl
  go_enter Tryd.func31, Tryd.ntmps31
  go_wp2_with fail
  refine CD.out.mono ?_
  rintro e W1 ⟨rfl, hb⟩
  have HB := sd hb
  clear hb CD
  go_wp2_with fail
  refine (CL.out _ (gl_below HG.out (below_alloc HB.out _))).mono ?_
  rintro e w' ⟨rfl, nd, rfl⟩
  go_wp2_with fail
  have hz : w.heap.size ≤ W1.heap.size := HB.out.size
  have HB3 := sd (Below.setCell (pw_below_drewN (below_alloc HB.out (Obj.cells #[.int .i64 y, .int .i64 m, .int .i64 d] 81)) nd) (p := ⟨W1.heap.size, 2, none⟩) hz (.int .i64 n))
  refine (CO.out _ (gl_below HG.out HB3.out)).mono ?_
  rintro e W2 ⟨rfl, hb⟩
  have HB2 := sd (HB3.out.trans (hb.mono HB3.out.size))
  clear hb
  go_wp2_with fail
  (try go_ret2)
  exact HP.out _ HB2.out
 rw [if_pos he] at h
 simp only [Option.some.injEq, Prod.mk.injEq] at h
 obtain ⟨rfl, rfl⟩ := h
 have heb : (e0 == 0) = false := beq_eq_false_iff_ne.mpr he
 have heb2 : (e0 != 0) = true := bne_iff_ne.mpr he
 clear he
 go_enter Tryd.func31, Tryd.ntmps31
 go_wp2_with fail
 refine CD.out.mono ?_
 rintro e W1 ⟨rfl, hb⟩
 have HB := sd hb
 clear hb CD
 go_wp2_with fail
 (try go_ret2)
 exact HP.out _ (below_alloc HB.out _)
def terms_Due.f (k : Nat) (a0_0 : Int) (a0_1 : Bool) (l0_2 : List (S53)) (a1 : Int) : Option (Int × Int) := (terms_Right.f k a0_0 a0_1 l0_2).bind fun t146 => (if t146 = true then ((days_MonthEnd.f k a1).bind fun bt147 => (if bt147.2 = 0 then (if a0_1 = true then (if (wrap64 (bt147.1 + a0_0)) > 109572 then (some (0, 11)) else (some (wrap64 (bt147.1 + a0_0), 0))) else (if (wrap64 (a1 + a0_0)) > 109572 then (some (0, 11)) else (some (wrap64 (a1 + a0_0), 0)))) else (some (0, bt147.2)))) else (some (0, 2)))
theorem terms_Due.calls (k : Nat) (a0_0 : Int) (a0_1 : Bool) (A0_2 : Option Addr) (c0_2 : Nat) (l0_2 : List (S53)) (a1 r1 r2 : Int) (w : World) (hr0_2 : Kd.C k53 w A0_2 l0_2.length l0_2) (hc0_2 : l0_2.length ≤ c0_2) (h : terms_Due.f k a0_0 a0_1 l0_2 a1 = some (r1, r2)) (hG : Gl w) :
  Calls Tryd.prog 14 #[.agg #[.int .i64 a0_0, .bool a0_1, .slice A0_2 l0_2.length c0_2], .int .i64 a1] w fun e w' => e = .returned (.tuple #[.int .i64 r1, .int .i64 r2]) ∧ Below w.heap.size w w' := by
 have HG := sd hG
 clear hG
 have hu24 := Tryd.underlying24
 have HR0_2 := sd hr0_2
 have HC0_2 := sd hc0_2
 clear hr0_2 hc0_2
 have HB := sd (Below.refl w.heap.size w)
 have H := h
 clear h
 unfold terms_Due.f at H
 replace H := bdI H
 obtain ⟨t146, A3, H⟩ := H
 (try dsimp only at H)
 by_cases c4 : t146 = true
 ·subst c4
  rw [if_pos rfl] at H
  replace H := bdI H
  obtain ⟨⟨t147, t148⟩, A5, H⟩ := H
  (try dsimp only at H)
  replace H := ifI H
  rcases H with ⟨c6, H⟩ | ⟨c6, H⟩
  ·obtain ⟨c6b0, c6b1⟩ := eqI c6
   clear c6
   by_cases c7 : a0_1 = true
   ·subst c7
    rw [if_pos rfl] at H
    replace H := ifI H
    rcases H with ⟨c8, H⟩ | ⟨c8, H⟩
    ·have c8b0 : decide (109572 < (wrap64 (t147 + a0_0))) = true := decide_eq_true c8
     clear c8
     simp only [Option.some.injEq, Prod.mk.injEq] at H
     obtain ⟨rfl, rfl⟩ := H
     go_enter Tryd.func14, Tryd.ntmps14
     go_wp2_with (first | ((with_reducible refine gate_dst (N := 2) rfl ?_); refine bxA 2 #[.int .i64 a0_0, .bool true, .slice A0_2 l0_2.length c0_2] 24 ?_; intro gb145 hg w9 hbox hb; have BK145 := sd (hbox); have GW145 := gem hg HB; have GE145 := GW145; replace HB := hbm HB hb; clear hb hbox hg; obtain ⟨_, _, _, _, _, _⟩ := bk3 BK145) | ((with_reducible refine gate_callee (f := 12) rfl ?_); refine gL 8 Tryd.func12 #[.agg #[.int .i64 a0_0, .bool true, .slice A0_2 l0_2.length c0_2]] ?_; (with_reducible refine (terms_Right.calls k a0_0 true _ _ l0_2 true _ ?side1 ?side2 A3.out).mono ?_); (case side1 => exact zq32); (case side2 => exact HC0_2.out); rintro e w11 ⟨rfl, hb⟩; refine ⟨_, rfl, ?_⟩; replace BK145 := bkm BK145 hb; replace HB := hbm HB hb; clear hb) | ((with_reducible refine gate_callee (f := 31) rfl ?_); refine gL 12 Tryd.func31 #[.int .i64 a1] ?_; (with_reducible refine (days_MonthEnd.calls k a1 t147 t148 _ A5.out (gl_below HG.out zq114)).mono ?_); rintro e w12 ⟨rfl, hb⟩; refine ⟨_, rfl, ?_⟩; replace BK145 := bkm BK145 hb; replace HB := hbm HB hb; clear hb; obtain ⟨_, _, _, _, _, _⟩ := bk3 BK145))
     go_ret2
     exact ⟨zq8, zq115⟩
    have c8b0 : decide (109572 < (wrap64 (t147 + a0_0))) = false := decide_eq_false c8
    clear c8
    simp only [Option.some.injEq, Prod.mk.injEq] at H
    obtain ⟨rfl, rfl⟩ := H
    go_enter Tryd.func14, Tryd.ntmps14
    go_wp2_with (first | ((with_reducible refine gate_dst (N := 2) rfl ?_); refine bxA 2 #[.int .i64 a0_0, .bool true, .slice A0_2 l0_2.length c0_2] 24 ?_; intro gb145 hg w14 hbox hb; have BK145 := sd (hbox); have GW145 := gem hg HB; have GE145 := GW145; replace HB := hbm HB hb; clear hb hbox hg; obtain ⟨_, _, _, _, _, _⟩ := bk3 BK145) | ((with_reducible refine gate_callee (f := 12) rfl ?_); refine gL 8 Tryd.func12 #[.agg #[.int .i64 a0_0, .bool true, .slice A0_2 l0_2.length c0_2]] ?_; (with_reducible refine (terms_Right.calls k a0_0 true _ _ l0_2 true _ ?side1 ?side2 A3.out).mono ?_); (case side1 => exact zq32); (case side2 => exact HC0_2.out); rintro e w16 ⟨rfl, hb⟩; refine ⟨_, rfl, ?_⟩; replace BK145 := bkm BK145 hb; replace HB := hbm HB hb; clear hb) | ((with_reducible refine gate_callee (f := 31) rfl ?_); refine gL 12 Tryd.func31 #[.int .i64 a1] ?_; (with_reducible refine (days_MonthEnd.calls k a1 t147 t148 _ A5.out (gl_below HG.out zq114)).mono ?_); rintro e w17 ⟨rfl, hb⟩; refine ⟨_, rfl, ?_⟩; replace BK145 := bkm BK145 hb; replace HB := hbm HB hb; clear hb; obtain ⟨_, _, _, _, _, _⟩ := bk3 BK145))
    go_ret2
    exact ⟨zq8, zq115⟩
   replace c7 := Bool.eq_false_iff.mpr c7
   subst c7
   rw [if_neg Bool.false_ne_true] at H
   replace H := ifI H
   rcases H with ⟨c19, H⟩ | ⟨c19, H⟩
   ·have c19b0 : decide (109572 < (wrap64 (a1 + a0_0))) = true := decide_eq_true c19
    clear c19
    simp only [Option.some.injEq, Prod.mk.injEq] at H
    obtain ⟨rfl, rfl⟩ := H
    go_enter Tryd.func14, Tryd.ntmps14
    go_wp2_with (first | ((with_reducible refine gate_dst (N := 2) rfl ?_); refine bxA 2 #[.int .i64 a0_0, .bool false, .slice A0_2 l0_2.length c0_2] 24 ?_; intro gb145 hg w20 hbox hb; have BK145 := sd (hbox); have GW145 := gem hg HB; have GE145 := GW145; replace HB := hbm HB hb; clear hb hbox hg; obtain ⟨_, _, _, _, _, _⟩ := bk3 BK145) | ((with_reducible refine gate_callee (f := 12) rfl ?_); refine gL 8 Tryd.func12 #[.agg #[.int .i64 a0_0, .bool false, .slice A0_2 l0_2.length c0_2]] ?_; (with_reducible refine (terms_Right.calls k a0_0 false _ _ l0_2 true _ ?side1 ?side2 A3.out).mono ?_); (case side1 => exact zq32); (case side2 => exact HC0_2.out); rintro e w22 ⟨rfl, hb⟩; refine ⟨_, rfl, ?_⟩; replace BK145 := bkm BK145 hb; replace HB := hbm HB hb; clear hb) | ((with_reducible refine gate_callee (f := 31) rfl ?_); refine gL 12 Tryd.func31 #[.int .i64 a1] ?_; (with_reducible refine (days_MonthEnd.calls k a1 t147 t148 _ A5.out (gl_below HG.out zq114)).mono ?_); rintro e w23 ⟨rfl, hb⟩; refine ⟨_, rfl, ?_⟩; replace BK145 := bkm BK145 hb; replace HB := hbm HB hb; clear hb; obtain ⟨_, _, _, _, _, _⟩ := bk3 BK145))
    go_ret2
    exact ⟨zq8, zq115⟩
   have c19b0 : decide (109572 < (wrap64 (a1 + a0_0))) = false := decide_eq_false c19
   clear c19
   simp only [Option.some.injEq, Prod.mk.injEq] at H
   obtain ⟨rfl, rfl⟩ := H
   go_enter Tryd.func14, Tryd.ntmps14
   go_wp2_with (first | ((with_reducible refine gate_dst (N := 2) rfl ?_); refine bxA 2 #[.int .i64 a0_0, .bool false, .slice A0_2 l0_2.length c0_2] 24 ?_; intro gb145 hg w25 hbox hb; have BK145 := sd (hbox); have GW145 := gem hg HB; have GE145 := GW145; replace HB := hbm HB hb; clear hb hbox hg; obtain ⟨_, _, _, _, _, _⟩ := bk3 BK145) | ((with_reducible refine gate_callee (f := 12) rfl ?_); refine gL 8 Tryd.func12 #[.agg #[.int .i64 a0_0, .bool false, .slice A0_2 l0_2.length c0_2]] ?_; (with_reducible refine (terms_Right.calls k a0_0 false _ _ l0_2 true _ ?side1 ?side2 A3.out).mono ?_); (case side1 => exact zq32); (case side2 => exact HC0_2.out); rintro e w27 ⟨rfl, hb⟩; refine ⟨_, rfl, ?_⟩; replace BK145 := bkm BK145 hb; replace HB := hbm HB hb; clear hb) | ((with_reducible refine gate_callee (f := 31) rfl ?_); refine gL 12 Tryd.func31 #[.int .i64 a1] ?_; (with_reducible refine (days_MonthEnd.calls k a1 t147 t148 _ A5.out (gl_below HG.out zq114)).mono ?_); rintro e w28 ⟨rfl, hb⟩; refine ⟨_, rfl, ?_⟩; replace BK145 := bkm BK145 hb; replace HB := hbm HB hb; clear hb; obtain ⟨_, _, _, _, _, _⟩ := bk3 BK145))
   go_ret2
   exact ⟨zq8, zq115⟩
  obtain ⟨c6b0, c6b1⟩ := neI c6
  simp only [Option.some.injEq, Prod.mk.injEq] at H
  obtain ⟨rfl, rfl⟩ := H
  go_enter Tryd.func14, Tryd.ntmps14
  go_wp2_with (first | ((with_reducible refine gate_dst (N := 2) rfl ?_); refine bxA 2 #[.int .i64 a0_0, .bool a0_1, .slice A0_2 l0_2.length c0_2] 24 ?_; intro gb145 hg w30 hbox hb; have BK145 := sd (hbox); have GW145 := gem hg HB; have GE145 := GW145; replace HB := hbm HB hb; clear hb hbox hg; obtain ⟨_, _, _, _, _, _⟩ := bk3 BK145) | ((with_reducible refine gate_callee (f := 12) rfl ?_); refine gL 8 Tryd.func12 #[.agg #[.int .i64 a0_0, .bool a0_1, .slice A0_2 l0_2.length c0_2]] ?_; (with_reducible refine (terms_Right.calls k a0_0 a0_1 _ _ l0_2 true _ ?side1 ?side2 A3.out).mono ?_); (case side1 => exact zq32); (case side2 => exact HC0_2.out); rintro e w32 ⟨rfl, hb⟩; refine ⟨_, rfl, ?_⟩; replace BK145 := bkm BK145 hb; replace HB := hbm HB hb; clear hb) | ((with_reducible refine gate_callee (f := 31) rfl ?_); refine gL 12 Tryd.func31 #[.int .i64 a1] ?_; (with_reducible refine (days_MonthEnd.calls k a1 t147 t148 _ A5.out (gl_below HG.out zq114)).mono ?_); rintro e w33 ⟨rfl, hb⟩; refine ⟨_, rfl, ?_⟩; replace BK145 := bkm BK145 hb; replace HB := hbm HB hb; clear hb))
  go_ret2
  exact ⟨zq8, zq115⟩
 replace c4 := Bool.eq_false_iff.mpr c4
 subst c4
 rw [if_neg Bool.false_ne_true] at H
 simp only [Option.some.injEq, Prod.mk.injEq] at H
 obtain ⟨rfl, rfl⟩ := H
 go_enter Tryd.func14, Tryd.ntmps14
 go_wp2_with (first | ((with_reducible refine gate_dst (N := 2) rfl ?_); refine bxA 2 #[.int .i64 a0_0, .bool a0_1, .slice A0_2 l0_2.length c0_2] 24 ?_; intro gb145 hg w34 hbox hb; have BK145 := sd (hbox); have GW145 := gem hg HB; have GE145 := GW145; replace HB := hbm HB hb; clear hb hbox hg; obtain ⟨_, _, _, _, _, _⟩ := bk3 BK145) | ((with_reducible refine gate_callee (f := 12) rfl ?_); refine gL 8 Tryd.func12 #[.agg #[.int .i64 a0_0, .bool a0_1, .slice A0_2 l0_2.length c0_2]] ?_; (with_reducible refine (terms_Right.calls k a0_0 a0_1 _ _ l0_2 false _ ?side1 ?side2 A3.out).mono ?_); (case side1 => exact zq32); (case side2 => exact HC0_2.out); rintro e w36 ⟨rfl, hb⟩; refine ⟨_, rfl, ?_⟩; replace BK145 := bkm BK145 hb; replace HB := hbm HB hb; clear hb))
 go_ret2
 exact ⟨zq8, zq115⟩
def terms_isDay.f (k : Nat) (a0 : Int) : Option (Bool) := (days_Date.f k a0).bind fun bt149 => (some (bt149.2.2.2 == 0))
theorem terms_isDay.calls (k : Nat) (a0 : Int) (r : Bool) (w : World) (h : terms_isDay.f k a0 = some r) (hG : Gl w) :
  Calls Tryd.prog 34 #[.int .i64 a0] w fun e w' => e = .returned (.bool r) ∧ Below w.heap.size w w' := by
 have HG := sd hG
 clear hG
 have hu81 := Tryd.underlying81
 have HB := sd (Below.refl w.heap.size w)
 have H := h
 clear h
 unfold terms_isDay.f at H
 replace H := bdI H
 obtain ⟨⟨t149, t150, t151, t152⟩, A2, H⟩ := H
 (try dsimp only at H)
 obtain rfl := Option.some.inj H
 go_enter Tryd.func34, Tryd.ntmps34
 go_wp2_with (first | ((with_reducible refine gate_callee (f := 45) rfl ?_); refine gL 7 Tryd.func45 #[.int .i64 a0] ?_; (with_reducible refine (days_Date.calls k a0 t149 t150 t151 t152 _ A2.out (gl_below HG.out zq91)).mono ?_); rintro e w3 ⟨rfl, hb⟩; refine ⟨_, rfl, ?_⟩; replace HB := hbm HB hb; clear hb) | ((with_reducible refine gate_dst (N := 3) rfl ?_); refine bxA 3 #[.int .i64 0, .int .i64 0, .int .i64 0] 81 ?_; intro gb153 hg w4 hbox hb; have BK153 := sd (hbox); have GW153 := gem hg HB; have GE153 := GW153; replace HB := hbm HB hb; clear hb hbox hg; obtain ⟨_, _, _, _, _, _⟩ := bk3 BK153))
 go_ret
 exact ⟨zq8, by repeat (first | (with_reducible first | exact HB.out | apply below_alloc | apply pw_below_drewN | apply below_drew1 | refine below_set ?_ GE153.out) | exact HB.out)⟩
mutual
def terms_Cut.j0 : Nat → Int → Int → Bool → Int → Bool → List (S53) → Int → Int → Option (Int × Int × Int)
 | 0, _, _, _, _, _, _, _, _ => none
 | k + 1, x1, x2, x21, x155000, x155001, x155002, x156000, x156001 => if x21 = true then (some (x156000, x156001, 11)) else (terms_Cut.l0 k x1 x2 x155002 (x155002.length : Int) 0)
def terms_Cut.l0 : Nat → Int → Int → List (S53) → Int → Int → Option (Int × Int × Int)
 | 0, _, _, _, _, _ => none
 | k + 1, x1, x2, x24, x25, x26 => if x26 < x25 then (if 0 ≤ x26 then (if x26 < (x24.length : Int) then (if x2 ≤ (wrap64 (x1 + ((rd_T53 x24 x26).f0))) then (some ((rd_T53 x24 x26).f1.f0, (rd_T53 x24 x26).f1.f1, 0)) else (terms_Cut.l0 k x1 x2 x24 x25 (wrap64 (x26 + 1)))) else (none)) else (none)) else (some (0, 1, 0))
end
def terms_Cut.f (k : Nat) (a0_0 : Int) (a0_1 : Bool) (l0_2 : List (S53)) (a1 : Int) (a2 : Int) : Option (Int × Int × Int) := (terms_Right.f k a0_0 a0_1 l0_2).bind fun t156 => (if t156 = true then ((terms_isDay.f k a1).bind fun t157 => (if t157 = true then ((terms_isDay.f k a2).bind fun t158 => (terms_Cut.j0 k a1 a2 (!t158) a0_0 a0_1 l0_2 0 0)) else (terms_Cut.j0 k a1 a2 true a0_0 a0_1 l0_2 0 0))) else (some (0, 0, 2)))
theorem terms_Cut.calls (k : Nat) (a0_0 : Int) (a0_1 : Bool) (A0_2 : Option Addr) (c0_2 : Nat) (l0_2 : List (S53)) (a1 a2 r1 r2 r3 : Int) (w : World) (hr0_2 : Kd.C k53 w A0_2 l0_2.length l0_2) (hc0_2 : l0_2.length ≤ c0_2) (h : terms_Cut.f k a0_0 a0_1 l0_2 a1 a2 = some (r1, r2, r3)) (hG : Gl w) :
  Calls Tryd.prog 16 #[.agg #[.int .i64 a0_0, .bool a0_1, .slice A0_2 l0_2.length c0_2], .int .i64 a1, .int .i64 a2] w fun e w' => e = .returned (.tuple #[.agg #[.int .i64 r1, .int .i64 r2], .int .i64 r3]) ∧ Below w.heap.size w w' := by
 have HG := sd hG
 clear hG
 have hu24 := Tryd.underlying24
 have hu38 := Tryd.underlying38
 have hu53 := Tryd.underlying53
 have HR0_2 := sd hr0_2
 have HC0_2 := sd hc0_2
 clear hr0_2 hc0_2
 have HB := sd (Below.refl w.heap.size w)
 have H := h
 clear h
 unfold terms_Cut.f at H
 replace H := bdI H
 obtain ⟨t156, A4, H⟩ := H
 (try dsimp only at H)
 by_cases c5 : t156 = true
 ·subst c5
  rw [if_pos rfl] at H
  have HC6 := sd H
  clear H
  go_enter Tryd.func16, Tryd.ntmps16
  go_upto_region 3 with (first | ((with_reducible refine gate_dst (N := 3) rfl ?_); refine bxA 3 #[.int .i64 a0_0, .bool a0_1, .slice A0_2 l0_2.length c0_2] 24 ?_; intro gb154 hg w7 hbox hb; have BK154 := sd (hbox); have GW154 := gem hg HB; have GE154 := GW154; replace HB := hbm HB hb; clear hb hbox hg) | ((with_reducible refine gate_dst (N := 6) rfl ?_); refine bxA 6 #[.int .i64 0, .int .i64 0] 38 ?_; intro gb155 hg w8 hbox hb; have BK155 := sd (hbox); have GW155 := gem hg HB; have GE155 := GW155; have NB154_155 := nlm hg BK154; have NB155_154 := ngm hg BK154; replace BK154 := bkm BK154 hb; replace HB := hbm HB hb; clear hb hbox hg; have hnb9 := NB154_155.out; have hnc9 := NB155_154.out; obtain ⟨_, _, _, _, _, _⟩ := bk3 BK154) | ((with_reducible refine gate_callee (f := 12) rfl ?_); refine gL 11 Tryd.func12 #[.agg #[.int .i64 a0_0, .bool a0_1, .slice A0_2 l0_2.length c0_2]] ?_; (with_reducible refine (terms_Right.calls k a0_0 a0_1 _ _ l0_2 true _ ?side1 ?side2 A4.out).mono ?_); (case side1 => exact zq32); (case side2 => exact HC0_2.out); rintro e w11 ⟨rfl, hb⟩; refine ⟨_, rfl, ?_⟩; replace BK154 := bkm BK154 hb; replace BK155 := bkm BK155 hb; replace HB := hbm HB hb; clear hb))
  (try simp only [Act.put, List.setIfInBounds_toArray, List.set_cons_zero, List.set_cons_succ])
  go_cut [21] (fun v21 wc => ∃ (kq : Nat) (x21_5 : Bool), v21 = .bool x21_5 ∧ Aside0 (terms_Cut.j0 kq a1 a2 x21_5 a0_0 a0_1 l0_2 0 0 = some (r1, r2, r3)) ∧ Aside0 (kq ≤ k) ∧ Aside0 (wc.heap[gb154]? = some (.cells #[.int .i64 a0_0, .bool a0_1, (.slice A0_2 l0_2.length c0_2)] 24 (0, 0))) ∧ Aside0 (wc.heap[gb155]? = some (.cells #[.int .i64 0, .int .i64 0] 38 (0, 0))) ∧ Aside0 (Below w.heap.size w wc))
  case first =>
   have H := HC6.out
   clear HC6
   replace H := bdI H
   obtain ⟨t157, A12, H⟩ := H
   (try dsimp only at H)
   by_cases c13 : t157 = true
   ·subst c13
    rw [if_pos rfl] at H
    replace H := bdI H
    obtain ⟨t158, A14, H⟩ := H
    (try dsimp only at H)
    have H' := sd H
    clear H
    go_wp2_with (first | ((with_reducible refine gate_callee (f := 34) rfl ?_); refine gL 15 Tryd.func34 #[.int .i64 a1] ?_; (with_reducible refine (terms_isDay.calls k a1 true _ A12.out (gl_below HG.out zq116)).mono ?_); rintro e w15 ⟨rfl, hb⟩; refine ⟨_, rfl, ?_⟩; replace BK154 := bkm BK154 hb; replace BK155 := bkm BK155 hb; replace HB := hbm HB hb; clear hb) | (go_at_call 34; (with_reducible refine (terms_isDay.calls k a2 t158 _ A14.out (gl_below HG.out zq116)).mono ?_); rintro e w16 ⟨rfl, hb⟩; replace BK154 := bkm BK154 hb; replace BK155 := bkm BK155 hb; replace HB := hbm HB hb; clear hb))
    go_meet
    case rel => exact ⟨_, (!t158), zq1, H', ⟨by first | omega | exact Nat.le_refl _⟩, ⟨zq117⟩, ⟨zq118⟩, ⟨zq119⟩⟩
   replace c13 := Bool.eq_false_iff.mpr c13
   subst c13
   rw [if_neg Bool.false_ne_true] at H
   have H' := sd H
   clear H
   go_wp2_with (first | ((with_reducible refine gate_callee (f := 34) rfl ?_); refine gL 15 Tryd.func34 #[.int .i64 a1] ?_; (with_reducible refine (terms_isDay.calls k a1 false _ A12.out (gl_below HG.out zq116)).mono ?_); rintro e w17 ⟨rfl, hb⟩; refine ⟨_, rfl, ?_⟩; replace BK154 := bkm BK154 hb; replace BK155 := bkm BK155 hb; replace HB := hbm HB hb; clear hb))
   go_meet
   case rel => exact ⟨_, (true), zq1, H', ⟨by first | omega | exact Nat.le_refl _⟩, ⟨zq117⟩, ⟨zq118⟩, ⟨zq119⟩⟩
  case rest =>
   clear HC6
   try clear c1
   try clear p2
   try clear c3
   try clear c5
   try clear c9
   try clear c12
   try clear c13
   try clear c16
   try clear hcz10_0
   try clear hcz10_1
   try clear hcz10_2
   try clear hfz10_0
   try clear hfz10_1
   try clear hfz10_2
   obtain ⟨kq, x21_5, rfl, HA, HJ5, BK154, BK155, HB⟩ := hcut
   cases kq with
   | zero => exact absurd HA.out (by simp [terms_Cut.j0])
   | succ kj5 =>
    have H := HA.out
    clear HA
    simp only [terms_Cut.j0] at H
    by_cases c18 : x21_5 = true
    ·subst c18
     rw [if_pos rfl] at H
     simp only [Option.some.injEq, Prod.mk.injEq] at H
     obtain ⟨rfl, rfl, rfl⟩ := H
     have hnb19 := NB155_154.out
     have hnc19 := NB154_155.out
     obtain ⟨_, _, _, _⟩ := bk2 BK155
     go_wp2
     refine bodyPost_ret (results_ct rfl _ _ gb155 38 #[.int .i64 0, .int .i64 0] (0, 0) _ rfl (by (with_reducible repeat (first | refine blk_drewN ?_ _ | refine blk_drew ?_ | refine blk_alloc ?_ _)); refine blk_put (cs := #[.int .i64 0, .int .i64 0]) ?_ 1 _ rfl; (with_reducible repeat (first | refine blk_drewN ?_ _ | refine blk_drew ?_ | refine blk_alloc ?_ _)); refine blk_put (cs := #[.int .i64 0, .int .i64 0]) ?_ 0 _ rfl; (with_reducible repeat (first | refine blk_drewN ?_ _ | refine blk_drew ?_ | refine blk_alloc ?_ _)); exact BK155.out) Tryd.underlying38 rfl (by kernel_rfl)) rfl ?_
     exact ⟨zq8, zq119⟩
    replace c18 := Bool.eq_false_iff.mpr c18
    subst c18
    rw [if_neg Bool.false_ne_true] at H
    have H' := sd H
    clear H
    have hnb21 := NB154_155.out
    have hnc21 := NB155_154.out
    obtain ⟨_, _, _, _, _, _⟩ := bk3 BK154
    go_wp2
    go_loopg [26] kj5 (fun kq v26 w' => ∃ (x26_2 : Int) (x156000_2 : Int) (x156001_2 : Int), v26 = .int .i64 x26_2 ∧ Aside0 (terms_Cut.l0 kq a1 a2 l0_2 (l0_2.length : Int) x26_2 = some (r1, r2, r3)) ∧ Aside0 (kq ≤ kj5) ∧ Aside0 (w'.heap[gb154]? = some (.cells #[.int .i64 a0_0, .bool a0_1, (.slice A0_2 l0_2.length c0_2)] 24 (0, 0))) ∧ Aside0 (w'.heap[gb155]? = some (.cells #[.int .i64 x156000_2, .int .i64 x156001_2] 38 (0, 0))) ∧ Aside0 (Below w.heap.size w w'))
    case atStart => exact ⟨(0), (0), (0), zq1, H', ⟨Nat.le_refl _⟩, ⟨zq117⟩, ⟨zq118⟩, ⟨zq119⟩⟩
    case round =>
     clear H'
     try clear c1
     try clear c2
     try clear p2
     try clear c3
     try clear c5
     try clear c9
     try clear c12
     try clear c13
     try clear c16
     try clear c18
     try clear c19
     try clear c21
     try clear hcz10_0
     try clear hcz10_1
     try clear hcz10_2
     try clear hcz20_0
     try clear hcz20_1
     try clear hcz22_0
     try clear hcz22_1
     try clear hcz22_2
     try clear hfz10_0
     try clear hfz10_1
     try clear hfz10_2
     try clear hfz20_0
     try clear hfz20_1
     try clear hfz22_0
     try clear hfz22_1
     try clear hfz22_2
     try clear p2
     obtain ⟨x26_2, x156000_2, x156001_2, rfl, HA, HK2, BK154, BK155, HB⟩ := hrel
     cases gk with
     | zero => exact absurd HA.out (by simp [terms_Cut.l0])
     | succ k2 =>
      have H := HA.out
      clear HA
      simp only [terms_Cut.l0] at H
      replace H := ifI H
      rcases H with ⟨c23, H⟩ | ⟨c23, H⟩
      ·have c23b0 : decide (x26_2 < (l0_2.length : Int)) = true := decide_eq_true c23
       clear c23
       replace H := ifI H
       rcases H with ⟨c24, H⟩ | ⟨c24, H⟩
       ·have c24b0 : decide (0 ≤ x26_2) = true := decide_eq_true c24
        clear c24
        replace H := ifI H
        rcases H with ⟨c25, H⟩ | ⟨c25, H⟩
        ·have c25b0 : decide (x26_2 < (l0_2.length : Int)) = true := decide_eq_true c25
         clear c25
         replace H := ifI H
         rcases H with ⟨c26, H⟩ | ⟨c26, H⟩
         ·have c26b0 : decide (a2 ≤ (wrap64 (a1 + ((rd_T53 l0_2 x26_2).f0)))) = true := decide_eq_true c26
          clear c26
          simp only [Option.some.injEq, Prod.mk.injEq] at H
          obtain ⟨rfl, rfl, rfl⟩ := H
          have p159 : 0 ≤ (x26_2 : Int) := od
          have q159 : x26_2 < (l0_2.length : Int) := od
          obtain ⟨ad159, e159, hx159_0, hx159_1, hx159_2⟩ := at_T53 HR0_2.out x26_2 p159 q159
          cases e159
          replace hx159_0 := (HB.out.cell (World.block_lt_of_cell? w _ hx159_0)).trans hx159_0
          replace hx159_1 := (HB.out.cell (World.block_lt_of_cell? w _ hx159_1)).trans hx159_1
          replace hx159_2 := (HB.out.cell (World.block_lt_of_cell? w _ hx159_2)).trans hx159_2
          replace p159 := eq_true p159
          replace q159 := eq_true q159
          go_wp2_with (first | ((with_reducible refine gate_dst (N := 9) rfl ?_); refine bxA 9 #[.int .i64 0, .int .i64 0, .int .i64 0] 53 ?_; intro gb160 hg w27 hbox hb; have BK160 := sd (hbox); have GW160 := gem hg HB; have GE160 := GW160; have NB154_160 := nlm hg BK154; have NB160_154 := ngm hg BK154; have NB155_160 := nlm hg BK155; have NB160_155 := ngm hg BK155; replace BK154 := bkm BK154 hb; replace BK155 := bkm BK155 hb; replace HB := hbm HB hb; clear hb hbox hg; have hnb28 := NB160_154.out; have hnc28 := NB154_160.out; have hnb29 := NB160_155.out; have hnc29 := NB155_160.out; obtain ⟨_, _, _, _, _, _⟩ := bk3 BK160; have hnb31 := NB155_154.out; have hnc31 := NB154_155.out; obtain ⟨_, _, _, _⟩ := bk2 BK155))
          refine bodyPost_ret (results_ct rfl _ _ gb155 38 #[.int .i64 ((rd_T53 l0_2 x26_2).f1.f0), .int .i64 ((rd_T53 l0_2 x26_2).f1.f1)] (0, 0) _ rfl (by (with_reducible repeat (first | refine blk_drewN ?_ _ | refine blk_drew ?_ | refine blk_alloc ?_ _)); refine blk_put (cs := #[.int .i64 ((rd_T53 l0_2 x26_2).f1.f0), .int .i64 x156001_2]) ?_ 1 _ rfl; (with_reducible repeat (first | refine blk_drewN ?_ _ | refine blk_drew ?_ | refine blk_alloc ?_ _)); refine blk_put (cs := #[.int .i64 x156000_2, .int .i64 x156001_2]) ?_ 0 _ rfl; (with_reducible repeat (first | refine blk_drewN ?_ _ | refine blk_drew ?_ | refine blk_alloc ?_ _)); refine blk_far ?_ NB155_160.out _; (with_reducible repeat (first | refine blk_drewN ?_ _ | refine blk_drew ?_ | refine blk_alloc ?_ _)); refine blk_far ?_ NB155_160.out _; (with_reducible repeat (first | refine blk_drewN ?_ _ | refine blk_drew ?_ | refine blk_alloc ?_ _)); refine blk_far ?_ NB155_160.out _; (with_reducible repeat (first | refine blk_drewN ?_ _ | refine blk_drew ?_ | refine blk_alloc ?_ _)); exact BK155.out) Tryd.underlying38 rfl (by kernel_rfl)) rfl ?_
          exact ⟨zq8, by repeat (first | (with_reducible first | exact HB.out | apply below_alloc | apply pw_below_drewN | apply below_drew1 | refine below_set ?_ GE154.out | refine below_set ?_ GE155.out | refine below_set ?_ GE160.out) | exact HB.out)⟩
         have c26b0 : decide (a2 ≤ (wrap64 (a1 + ((rd_T53 l0_2 x26_2).f0)))) = false := decide_eq_false c26
         clear c26
         have H' := sd H
         clear H
         have p159 : 0 ≤ (x26_2 : Int) := od
         have q159 : x26_2 < (l0_2.length : Int) := od
         obtain ⟨ad159, e159, hx159_0, hx159_1, hx159_2⟩ := at_T53 HR0_2.out x26_2 p159 q159
         cases e159
         replace hx159_0 := (HB.out.cell (World.block_lt_of_cell? w _ hx159_0)).trans hx159_0
         replace hx159_1 := (HB.out.cell (World.block_lt_of_cell? w _ hx159_1)).trans hx159_1
         replace hx159_2 := (HB.out.cell (World.block_lt_of_cell? w _ hx159_2)).trans hx159_2
         replace p159 := eq_true p159
         replace q159 := eq_true q159
         go_wp2_with (first | ((with_reducible refine gate_dst (N := 9) rfl ?_); refine bxA 9 #[.int .i64 0, .int .i64 0, .int .i64 0] 53 ?_; intro gb160 hg w33 hbox hb; have BK160 := sd (hbox); have GW160 := gem hg HB; have GE160 := GW160; have NB154_160 := nlm hg BK154; have NB160_154 := ngm hg BK154; have NB155_160 := nlm hg BK155; have NB160_155 := ngm hg BK155; replace BK154 := bkm BK154 hb; replace BK155 := bkm BK155 hb; replace HB := hbm HB hb; clear hb hbox hg; have hnb34 := NB160_154.out; have hnc34 := NB154_160.out; have hnb35 := NB160_155.out; have hnc35 := NB155_160.out; obtain ⟨_, _, _, _, _, _⟩ := bk3 BK160))
         go_roundg k2
         case measure => have := HJ5.out; have := HK2.out; omega
         case rel => exact ⟨(wrap64 (x26_2 + 1)), (x156000_2), (x156001_2), zq1, H', ⟨by have := HJ5.out; have := HK2.out; omega⟩, ⟨by (with_reducible repeat (first | refine blk_drewN ?_ _ | refine blk_drew ?_ | refine blk_alloc ?_ _)); refine blk_far ?_ NB154_160.out _; (with_reducible repeat (first | refine blk_drewN ?_ _ | refine blk_drew ?_ | refine blk_alloc ?_ _)); refine blk_far ?_ NB154_160.out _; (with_reducible repeat (first | refine blk_drewN ?_ _ | refine blk_drew ?_ | refine blk_alloc ?_ _)); refine blk_far ?_ NB154_160.out _; (with_reducible repeat (first | refine blk_drewN ?_ _ | refine blk_drew ?_ | refine blk_alloc ?_ _)); exact BK154.out⟩, ⟨by (with_reducible repeat (first | refine blk_drewN ?_ _ | refine blk_drew ?_ | refine blk_alloc ?_ _)); refine blk_far ?_ NB155_160.out _; (with_reducible repeat (first | refine blk_drewN ?_ _ | refine blk_drew ?_ | refine blk_alloc ?_ _)); refine blk_far ?_ NB155_160.out _; (with_reducible repeat (first | refine blk_drewN ?_ _ | refine blk_drew ?_ | refine blk_alloc ?_ _)); refine blk_far ?_ NB155_160.out _; (with_reducible repeat (first | refine blk_drewN ?_ _ | refine blk_drew ?_ | refine blk_alloc ?_ _)); exact BK155.out⟩, ⟨by repeat (first | (with_reducible first | exact HB.out | apply below_alloc | apply pw_below_drewN | apply below_drew1 | refine below_set ?_ GE154.out | refine below_set ?_ GE155.out | refine below_set ?_ GE160.out) | exact HB.out)⟩⟩
        exact absurd H (by simp)
       exact absurd H (by simp)
      have c23b0 : decide (x26_2 < (l0_2.length : Int)) = false := decide_eq_false c23
      clear c23
      simp only [Option.some.injEq, Prod.mk.injEq] at H
      obtain ⟨rfl, rfl, rfl⟩ := H
      have hnb37 := NB155_154.out
      have hnc37 := NB154_155.out
      obtain ⟨_, _, _, _⟩ := bk2 BK155
      go_wp2
      refine bodyPost_ret (results_ct rfl _ _ gb155 38 #[.int .i64 0, .int .i64 1] (0, 0) _ rfl (by (with_reducible repeat (first | refine blk_drewN ?_ _ | refine blk_drew ?_ | refine blk_alloc ?_ _)); refine blk_put (cs := #[.int .i64 0, .int .i64 x156001_2]) ?_ 1 _ rfl; (with_reducible repeat (first | refine blk_drewN ?_ _ | refine blk_drew ?_ | refine blk_alloc ?_ _)); refine blk_put (cs := #[.int .i64 x156000_2, .int .i64 x156001_2]) ?_ 0 _ rfl; (with_reducible repeat (first | refine blk_drewN ?_ _ | refine blk_drew ?_ | refine blk_alloc ?_ _)); exact BK155.out) Tryd.underlying38 rfl (by kernel_rfl)) rfl ?_
      exact ⟨zq8, zq119⟩
 replace c5 := Bool.eq_false_iff.mpr c5
 subst c5
 rw [if_neg Bool.false_ne_true] at H
 simp only [Option.some.injEq, Prod.mk.injEq] at H
 obtain ⟨rfl, rfl, rfl⟩ := H
 go_enter Tryd.func16, Tryd.ntmps16
 go_wp2_with (first | ((with_reducible refine gate_dst (N := 3) rfl ?_); refine bxA 3 #[.int .i64 a0_0, .bool a0_1, .slice A0_2 l0_2.length c0_2] 24 ?_; intro gb154 hg w39 hbox hb; have BK154 := sd (hbox); have GW154 := gem hg HB; have GE154 := GW154; replace HB := hbm HB hb; clear hb hbox hg) | ((with_reducible refine gate_dst (N := 6) rfl ?_); refine bxA 6 #[.int .i64 0, .int .i64 0] 38 ?_; intro gb155 hg w40 hbox hb; have BK155 := sd (hbox); have GW155 := gem hg HB; have GE155 := GW155; have NB154_155 := nlm hg BK154; have NB155_154 := ngm hg BK154; replace BK154 := bkm BK154 hb; replace HB := hbm HB hb; clear hb hbox hg; have hnb41 := NB154_155.out; have hnc41 := NB155_154.out; obtain ⟨_, _, _, _, _, _⟩ := bk3 BK154) | ((with_reducible refine gate_callee (f := 12) rfl ?_); refine gL 11 Tryd.func12 #[.agg #[.int .i64 a0_0, .bool a0_1, .slice A0_2 l0_2.length c0_2]] ?_; (with_reducible refine (terms_Right.calls k a0_0 a0_1 _ _ l0_2 false _ ?side1 ?side2 A4.out).mono ?_); (case side1 => exact zq32); (case side2 => exact HC0_2.out); rintro e w43 ⟨rfl, hb⟩; refine ⟨_, rfl, ?_⟩; replace BK154 := bkm BK154 hb; replace BK155 := bkm BK155 hb; replace HB := hbm HB hb; clear hb; obtain ⟨_, _, _, _⟩ := bk2 BK155))
 refine bodyPost_ret (results_ct rfl _ _ gb155 38 #[.int .i64 0, .int .i64 0] (0, 0) _ rfl (by (with_reducible repeat (first | refine blk_drewN ?_ _ | refine blk_drew ?_ | refine blk_alloc ?_ _)); refine blk_put (cs := #[.int .i64 0, .int .i64 0]) ?_ 1 _ rfl; (with_reducible repeat (first | refine blk_drewN ?_ _ | refine blk_drew ?_ | refine blk_alloc ?_ _)); refine blk_put (cs := #[.int .i64 0, .int .i64 0]) ?_ 0 _ rfl; (with_reducible repeat (first | refine blk_drewN ?_ _ | refine blk_drew ?_ | refine blk_alloc ?_ _)); exact BK155.out) Tryd.underlying38 rfl (by kernel_rfl)) rfl ?_
 exact ⟨zq8, zq119⟩
def words_letter.f (a0 : Int) : Option (Bool) := if a0 ≥ 97 then (if a0 ≤ 122 then (some true) else (if a0 ≥ 65 then (if a0 ≤ 90 then (some true) else (some (a0 == 95))) else (some (a0 == 95)))) else (if a0 ≥ 65 then (if a0 ≤ 90 then (some true) else (some (a0 == 95))) else (some (a0 == 95)))
theorem words_letter.calls (a0 : Int) (r : Bool) (w : World) (h : words_letter.f a0 = some r) :
  Calls Tryd.prog 76 #[.int .u8 a0] w fun e w' => e = .returned (.bool r) ∧ Drawn0 w w' := by
 have H := h
 clear h
 unfold words_letter.f at H
 replace H := ifI H
 rcases H with ⟨c2, H⟩ | ⟨c2, H⟩
 ·have c2b0 : decide (97 ≤ a0) = true := decide_eq_true c2
  clear c2
  replace H := ifI H
  rcases H with ⟨c3, H⟩ | ⟨c3, H⟩
  ·have c3b0 : decide (a0 ≤ 122) = true := decide_eq_true c3
   clear c3
   obtain rfl := Option.some.inj H
   go_enter Tryd.func76, Tryd.ntmps76
   go_wp2
   go_ret
   exact ⟨zq1, zq23⟩
  have c3b0 : decide (a0 ≤ 122) = false := decide_eq_false c3
  clear c3
  replace H := ifI H
  rcases H with ⟨c4, H⟩ | ⟨c4, H⟩
  ·have c4b0 : decide (65 ≤ a0) = true := decide_eq_true c4
   clear c4
   replace H := ifI H
   rcases H with ⟨c5, H⟩ | ⟨c5, H⟩
   ·have c5b0 : decide (a0 ≤ 90) = true := decide_eq_true c5
    clear c5
    obtain rfl := Option.some.inj H
    go_enter Tryd.func76, Tryd.ntmps76
    go_wp2
    go_ret
    exact ⟨zq1, zq23⟩
   have c5b0 : decide (a0 ≤ 90) = false := decide_eq_false c5
   clear c5
   obtain rfl := Option.some.inj H
   go_enter Tryd.func76, Tryd.ntmps76
   go_wp2
   go_ret
   exact ⟨zq1, zq23⟩
  have c4b0 : decide (65 ≤ a0) = false := decide_eq_false c4
  clear c4
  obtain rfl := Option.some.inj H
  go_enter Tryd.func76, Tryd.ntmps76
  go_wp2
  go_ret
  exact ⟨zq1, zq23⟩
 have c2b0 : decide (97 ≤ a0) = false := decide_eq_false c2
 clear c2
 replace H := ifI H
 rcases H with ⟨c6, H⟩ | ⟨c6, H⟩
 ·have c6b0 : decide (65 ≤ a0) = true := decide_eq_true c6
  clear c6
  replace H := ifI H
  rcases H with ⟨c7, H⟩ | ⟨c7, H⟩
  ·have c7b0 : decide (a0 ≤ 90) = true := decide_eq_true c7
   clear c7
   obtain rfl := Option.some.inj H
   go_enter Tryd.func76, Tryd.ntmps76
   go_wp2
   go_ret
   exact ⟨zq1, zq23⟩
  have c7b0 : decide (a0 ≤ 90) = false := decide_eq_false c7
  clear c7
  obtain rfl := Option.some.inj H
  go_enter Tryd.func76, Tryd.ntmps76
  go_wp2
  go_ret
  exact ⟨zq1, zq23⟩
 have c6b0 : decide (65 ≤ a0) = false := decide_eq_false c6
 clear c6
 obtain rfl := Option.some.inj H
 go_enter Tryd.func76, Tryd.ntmps76
 go_wp2
 go_ret
 exact ⟨zq1, zq23⟩
def words_digit.f (a0 : Int) : Option (Bool) := if a0 ≥ 48 then (some (decide (a0 ≤ 57))) else (some false)
theorem words_digit.calls (a0 : Int) (r : Bool) (w : World) (h : words_digit.f a0 = some r) :
  Calls Tryd.prog 78 #[.int .u8 a0] w fun e w' => e = .returned (.bool r) ∧ Drawn0 w w' := by
 have H := h
 clear h
 unfold words_digit.f at H
 replace H := ifI H
 rcases H with ⟨c2, H⟩ | ⟨c2, H⟩
 ·have c2b0 : decide (48 ≤ a0) = true := decide_eq_true c2
  clear c2
  obtain rfl := Option.some.inj H
  go_enter Tryd.func78, Tryd.ntmps78
  go_wp2
  go_ret
  exact ⟨zq1, zq23⟩
 have c2b0 : decide (48 ≤ a0) = false := decide_eq_false c2
 clear c2
 obtain rfl := Option.some.inj H
 go_enter Tryd.func78, Tryd.ntmps78
 go_wp2
 go_ret
 exact ⟨zq1, zq23⟩
def words_nameEnd.l0 : Nat → ByteArray → Int → Option (Int)
 | 0, _, _ => none
 | k + 1, x0, x1 => if x1 < (x0.size : Int) then (if 0 ≤ x1 then ((words_letter.f (bt x0 x1)).bind fun t161 => (if t161 = true then (words_nameEnd.l0 k x0 (wrap64 (x1 + 1))) else ((words_digit.f (bt x0 x1)).bind fun t162 => (if t162 = true then (words_nameEnd.l0 k x0 (wrap64 (x1 + 1))) else (some x1))))) else (none)) else (some x1)
def words_nameEnd.f (k : Nat) (a0 : ByteArray) (a1 : Int) : Option (Int) := words_nameEnd.l0 k a0 a1
theorem words_nameEnd.calls (k : Nat) (a0 : ByteArray) (a1 r : Int) (w : World) (h : words_nameEnd.f k a0 a1 = some r) :
  Calls Tryd.prog 77 #[.string a0, .int .i64 a1] w fun e w' => e = .returned (.int .i64 r) ∧ Drawn0 w w' := by
 have H := h
 clear h
 unfold words_nameEnd.f at H
 have H' := sd H
 clear H
 go_enter Tryd.func77, Tryd.ntmps77
 go_wp2
 go_loopg [1] k (fun kq v1 w' => ∃ (x1_1 : Int), v1 = .int .i64 x1_1 ∧ Aside0 (words_nameEnd.l0 kq a0 x1_1 = some r) ∧ Aside0 (kq ≤ k) ∧ Drawn0 w w')
 case atStart => exact ⟨(a1), zq1, H', ⟨Nat.le_refl _⟩, zq23⟩
 case round =>
  clear H'
  try clear p2
  obtain ⟨x1_1, rfl, HA, HK1, ⟨m1, rfl⟩⟩ := hrel
  cases gk with
  | zero => exact absurd HA.out (by simp [words_nameEnd.l0])
  | succ k1 =>
   have H := HA.out
   clear HA
   simp only [words_nameEnd.l0] at H
   replace H := ifI H
   rcases H with ⟨c3, H⟩ | ⟨c3, H⟩
   ·have c3b0 : decide (x1_1 < (a0.size : Int)) = true := decide_eq_true c3
    clear c3
    replace H := ifI H
    rcases H with ⟨c4, H⟩ | ⟨c4, H⟩
    ·have c4b0 : decide (0 ≤ x1_1) = true := decide_eq_true c4
     clear c4
     replace H := bdI H
     obtain ⟨t161, A6, H⟩ := H
     (try dsimp only at H)
     by_cases c7 : t161 = true
     ·subst c7
      rw [if_pos rfl] at H
      have H' := sd H
      clear H
      have p5 : 0 ≤ (x1_1 : Int) := od
      have q5 : x1_1 < (a0.size : Int) := od
      have hx5 := bt_at a0 x1_1
      replace p5 := eq_true p5
      replace q5 := eq_true q5
      go_wp2_with (first | (go_at_call 76; (with_reducible refine (words_letter.calls (bt a0 x1_1) true _ A6.out).mono ?_); rintro e w' ⟨rfl, ⟨nd, rfl⟩⟩))
      go_roundg k1
      case measure => have := HK1.out; omega
      case rel => exact ⟨(wrap64 (x1_1 + 1)), zq1, H', ⟨by have := HK1.out; omega⟩, zq23⟩
     replace c7 := Bool.eq_false_iff.mpr c7
     subst c7
     rw [if_neg Bool.false_ne_true] at H
     replace H := bdI H
     obtain ⟨t162, A9, H⟩ := H
     (try dsimp only at H)
     by_cases c10 : t162 = true
     ·subst c10
      rw [if_pos rfl] at H
      have H' := sd H
      clear H
      have p5 : 0 ≤ (x1_1 : Int) := od
      have q5 : x1_1 < (a0.size : Int) := od
      have hx5 := bt_at a0 x1_1
      replace p5 := eq_true p5
      replace q5 := eq_true q5
      go_wp2_with (first | (go_at_call 76; (with_reducible refine (words_letter.calls (bt a0 x1_1) false _ A6.out).mono ?_); rintro e w' ⟨rfl, ⟨nd, rfl⟩⟩; have p8 : 0 ≤ (x1_1 : Int) := od; have q8 : x1_1 < (a0.size : Int) := od; have hx8 := bt_at a0 x1_1; replace p8 := eq_true p8; replace q8 := eq_true q8) | (go_at_call 78; (with_reducible refine (words_digit.calls (bt a0 x1_1) true _ A9.out).mono ?_); rintro e w' ⟨rfl, ⟨nd, rfl⟩⟩))
      go_roundg k1
      case measure => have := HK1.out; omega
      case rel => exact ⟨(wrap64 (x1_1 + 1)), zq1, H', ⟨by have := HK1.out; omega⟩, zq23⟩
     replace c10 := Bool.eq_false_iff.mpr c10
     subst c10
     rw [if_neg Bool.false_ne_true] at H
     obtain rfl := Option.some.inj H
     have p5 : 0 ≤ (x1_1 : Int) := od
     have q5 : x1_1 < (a0.size : Int) := od
     have hx5 := bt_at a0 x1_1
     replace p5 := eq_true p5
     replace q5 := eq_true q5
     go_wp2_with (first | (go_at_call 76; (with_reducible refine (words_letter.calls (bt a0 x1_1) false _ A6.out).mono ?_); rintro e w' ⟨rfl, ⟨nd, rfl⟩⟩; have p8 : 0 ≤ (x1_1 : Int) := od; have q8 : x1_1 < (a0.size : Int) := od; have hx8 := bt_at a0 x1_1; replace p8 := eq_true p8; replace q8 := eq_true q8) | (go_at_call 78; (with_reducible refine (words_digit.calls (bt a0 x1_1) false _ A9.out).mono ?_); rintro e w' ⟨rfl, ⟨nd, rfl⟩⟩))
     go_ret
     exact ⟨zq1, zq23⟩
    exact absurd H (by simp)
   have c3b0 : decide (x1_1 < (a0.size : Int)) = false := decide_eq_false c3
   clear c3
   obtain rfl := Option.some.inj H
   go_wp2
   go_ret
   exact ⟨zq1, zq23⟩
def words_digitAt.f (a0 : ByteArray) (a1 : Int) : Option (Bool) := if a1 < (a0.size : Int) then (if 0 ≤ a1 then ((words_digit.f (bt a0 a1)).bind fun t163 => (some t163)) else (none)) else (some false)
theorem words_digitAt.calls (a0 : ByteArray) (a1 : Int) (r : Bool) (w : World) (h : words_digitAt.f a0 a1 = some r) :
  Calls Tryd.prog 79 #[.string a0, .int .i64 a1] w fun e w' => e = .returned (.bool r) ∧ Drawn0 w w' := by
 have H := h
 clear h
 unfold words_digitAt.f at H
 replace H := ifI H
 rcases H with ⟨c3, H⟩ | ⟨c3, H⟩
 ·have c3b0 : decide (a1 < (a0.size : Int)) = true := decide_eq_true c3
  clear c3
  replace H := ifI H
  rcases H with ⟨c4, H⟩ | ⟨c4, H⟩
  ·have c4b0 : decide (0 ≤ a1) = true := decide_eq_true c4
   clear c4
   replace H := bdI H
   obtain ⟨t163, A6, H⟩ := H
   (try dsimp only at H)
   obtain rfl := Option.some.inj H
   have p5 : 0 ≤ (a1 : Int) := od
   have q5 : a1 < (a0.size : Int) := od
   have hx5 := bt_at a0 a1
   replace p5 := eq_true p5
   replace q5 := eq_true q5
   go_enter Tryd.func79, Tryd.ntmps79
   go_wp2_with (first | (go_at_call 78; (with_reducible refine (words_digit.calls (bt a0 a1) t163 _ A6.out).mono ?_); rintro e w' ⟨rfl, ⟨nd, rfl⟩⟩))
   go_ret
   exact ⟨zq1, zq23⟩
  exact absurd H (by simp)
 have c3b0 : decide (a1 < (a0.size : Int)) = false := decide_eq_false c3
 clear c3
 obtain rfl := Option.some.inj H
 go_enter Tryd.func79, Tryd.ntmps79
 go_wp2
 go_ret
 exact ⟨zq1, zq23⟩
def words_numberEnd.l0 : Nat → ByteArray → Int → Option Int
  | 0, _, _ => none
  | k + 1, s, i => if i < (s.size : Int) then
      (if bt s i = 46 ∨ bt s i = 47 ∨ bt s i = 45 then (words_digitAt.f s (i + 1)).bind fun b => if b = true then words_numberEnd.l0 k s (i + 1) else some i
       else (words_letter.f (bt s i)).bind fun b => if b = true then words_numberEnd.l0 k s (i + 1) else (words_digit.f (bt s i)).bind fun d => if d = true then words_numberEnd.l0 k s (i + 1) else some i)
      else some i
def words_numberEnd.f (k : Nat) (s : ByteArray) (i : Int) : Option Int := if 0 ≤ i ∧ i ≤ 140737488351232 ∧ s.size ≤ 140737488351232 then words_numberEnd.l0 k s (i + 1) else none
theorem words_numberEnd.calls (k : Nat) (a0 : ByteArray) (a1 r : Int) (w : World) (h : words_numberEnd.f k a0 a1 = some r) :
    Calls Tryd.prog 80 #[.string a0, .int .i64 a1] w fun e w' => e = .returned (.int .i64 r) ∧ Drawn0 w w' := by
  have HPost : ∀ W, Drawn0 w W → (fun (e : Ending) (w' : World) => e = .returned (.int .i64 r) ∧ Drawn0 w w') (.returned (.int .i64 r)) W := fun W hW => ⟨rfl, hW⟩
  generalize (fun (e : Ending) (w' : World) => e = .returned (.int .i64 r) ∧ Drawn0 w w') = Post at HPost ⊢
  have HP := sd HPost
  clear HPost
  unfold words_numberEnd.f at h
  split at h
  case isFalse => cases h
  rename_i hb
  obtain ⟨hb0, hb1, hs⟩ := hb
  obtain ⟨n, rfl⟩ := Int.eq_ofNat_of_zero_le hb0
  have hn : n ≤ 140737488351232 := by omega
  clear hb0 hb1
  have H := sd h
  clear h
  go_enter Tryd.func80, Tryd.ntmps80
  go_wp2_with fail
  go_step3
  go_wp2_with fail
  go_step3
  go_wp2_with fail
  go_loopg [1] k (fun kq v1 wr => ∃ (i : Nat), v1 = .int .i64 (i : Int) ∧ i ≤ 281474976710656 ∧ Aside0 (words_numberEnd.l0 kq a0 (i : Int) = some r) ∧ Aside0 (Drawn0 w wr))
  case atStart => exact ⟨n + 1, by go_num, by omega, ⟨by rw [show ((n + 1 : Nat) : Int) = (n : Int) + 1 by omega]; exact H.out⟩, ⟨Drawn0.refl _⟩⟩
  case round =>
    clear H
    obtain ⟨i, rfl, hi, HA, HD⟩ := hrel
    cases gk with
    | zero => exact absurd HA.out (by simp [words_numberEnd.l0])
    | succ k1 =>
      have H := HA.out
      clear HA
      rw [words_numberEnd.l0] at H
      by_cases hlt : i < a0.size
      · rw [if_pos (by omega)] at H
        have hbt : bt a0 (i : Int) = (a0[i].toNat : Int) := (bt_at a0 i hlt).symm
        rw [hbt, show (i : Int) + 1 = ((i + 1 : Nat) : Int) by omega] at H
        obtain ⟨c, hc⟩ : ∃ c, a0[i] = c := ⟨_, rfl⟩
        rw [hc] at H
        clear hbt
        have hib : decide ((i : Int) < (a0.size : Int)) = true := decide_eq_true (by omega)
        by_cases hsep : (c.toNat : Int) = 46 ∨ (c.toNat : Int) = 47 ∨ (c.toNat : Int) = 45
        · rw [if_pos hsep] at H
          replace H := Option.bind_eq_some_iff.mp H
          obtain ⟨b, hb, H⟩ := H
          have CA := sd (fun W => words_digitAt.calls a0 ((i + 1 : Nat) : Int) b W hb)
          rw [show ((i + 1 : Nat) : Int) = (i : Int) + 1 by omega] at CA
          clear hb
          have sep : (((c.toNat : Int) == 46) = true) ∨ ((((c.toNat : Int) == 46) = false) ∧ ((c.toNat : Int) == 47) = true) ∨ ((((c.toNat : Int) == 46) = false) ∧ (((c.toNat : Int) == 47) = false) ∧ ((c.toNat : Int) == 45) = true) := by
            simp only [beq_iff_eq, beq_eq_false_iff_ne]; omega
          clear hsep
          cases b
          · rw [if_neg (by decide)] at H
            rcases sep with s1 | ⟨s1, s2⟩ | ⟨s1, s2, s3⟩
            · obtain rfl := Option.some.inj H
              go_wp2_with (first | (go_at_call 76; (with_reducible refine (CL.out _).mono ?_); rintro e w' ⟨rfl, nd, rfl⟩) | (go_at_call 78; (with_reducible refine (CD.out _).mono ?_); rintro e w' ⟨rfl, nd, rfl⟩) | (go_at_call 79; (with_reducible refine (CA.out _).mono ?_); rintro e w' ⟨rfl, nd, rfl⟩))
              (try go_ret)
              exact HP.out _ zq120
            · obtain rfl := Option.some.inj H
              go_wp2_with (first | (go_at_call 76; (with_reducible refine (CL.out _).mono ?_); rintro e w' ⟨rfl, nd, rfl⟩) | (go_at_call 78; (with_reducible refine (CD.out _).mono ?_); rintro e w' ⟨rfl, nd, rfl⟩) | (go_at_call 79; (with_reducible refine (CA.out _).mono ?_); rintro e w' ⟨rfl, nd, rfl⟩))
              (try go_ret)
              exact HP.out _ zq120
            · obtain rfl := Option.some.inj H
              go_wp2_with (first | (go_at_call 76; (with_reducible refine (CL.out _).mono ?_); rintro e w' ⟨rfl, nd, rfl⟩) | (go_at_call 78; (with_reducible refine (CD.out _).mono ?_); rintro e w' ⟨rfl, nd, rfl⟩) | (go_at_call 79; (with_reducible refine (CA.out _).mono ?_); rintro e w' ⟨rfl, nd, rfl⟩))
              (try go_ret)
              exact HP.out _ zq120
          · rw [if_pos rfl] at H
            rcases sep with s1 | ⟨s1, s2⟩ | ⟨s1, s2, s3⟩
            · have HA := sd H
              clear H
              go_wp2_with (first | (go_at_call 76; (with_reducible refine (CL.out _).mono ?_); rintro e w' ⟨rfl, nd, rfl⟩) | (go_at_call 78; (with_reducible refine (CD.out _).mono ?_); rintro e w' ⟨rfl, nd, rfl⟩) | (go_at_call 79; (with_reducible refine (CA.out _).mono ?_); rintro e w' ⟨rfl, nd, rfl⟩))
              go_roundg k1
              case measure => omega
              case rel => exact ⟨i + 1, by go_num, by omega, HA, ⟨zq120⟩⟩
            · have HA := sd H
              clear H
              go_wp2_with (first | (go_at_call 76; (with_reducible refine (CL.out _).mono ?_); rintro e w' ⟨rfl, nd, rfl⟩) | (go_at_call 78; (with_reducible refine (CD.out _).mono ?_); rintro e w' ⟨rfl, nd, rfl⟩) | (go_at_call 79; (with_reducible refine (CA.out _).mono ?_); rintro e w' ⟨rfl, nd, rfl⟩))
              go_roundg k1
              case measure => omega
              case rel => exact ⟨i + 1, by go_num, by omega, HA, ⟨zq120⟩⟩
            · have HA := sd H
              clear H
              go_wp2_with (first | (go_at_call 76; (with_reducible refine (CL.out _).mono ?_); rintro e w' ⟨rfl, nd, rfl⟩) | (go_at_call 78; (with_reducible refine (CD.out _).mono ?_); rintro e w' ⟨rfl, nd, rfl⟩) | (go_at_call 79; (with_reducible refine (CA.out _).mono ?_); rintro e w' ⟨rfl, nd, rfl⟩))
              go_roundg k1
              case measure => omega
              case rel => exact ⟨i + 1, by go_num, by omega, HA, ⟨zq120⟩⟩
        rw [if_neg hsep] at H
        have s1 : ((c.toNat : Int) == 46) = false := beq_eq_false_iff_ne.mpr (fun h => hsep (.inl h))
        have s2 : ((c.toNat : Int) == 47) = false := beq_eq_false_iff_ne.mpr (fun h => hsep (.inr (.inl h)))
        have s3 : ((c.toNat : Int) == 45) = false := beq_eq_false_iff_ne.mpr (fun h => hsep (.inr (.inr h)))
        clear hsep
        replace H := Option.bind_eq_some_iff.mp H
        obtain ⟨b, hb, H⟩ := H
        have CL := sd (fun W => words_letter.calls (c.toNat : Int) b W hb)
        clear hb
        cases b
        · rw [if_neg (by decide)] at H
          replace H := Option.bind_eq_some_iff.mp H
          obtain ⟨d, hd, H⟩ := H
          have CD := sd (fun W => words_digit.calls (c.toNat : Int) d W hd)
          clear hd
          cases d
          · rw [if_neg (by decide)] at H
            obtain rfl := Option.some.inj H
            go_wp2_with (first | (go_at_call 76; (with_reducible refine (CL.out _).mono ?_); rintro e w' ⟨rfl, nd, rfl⟩) | (go_at_call 78; (with_reducible refine (CD.out _).mono ?_); rintro e w' ⟨rfl, nd, rfl⟩) | (go_at_call 79; (with_reducible refine (CA.out _).mono ?_); rintro e w' ⟨rfl, nd, rfl⟩))
            (try go_ret)
            exact HP.out _ zq120
          · rw [if_pos rfl] at H
            have HA := sd H
            clear H
            go_wp2_with (first | (go_at_call 76; (with_reducible refine (CL.out _).mono ?_); rintro e w' ⟨rfl, nd, rfl⟩) | (go_at_call 78; (with_reducible refine (CD.out _).mono ?_); rintro e w' ⟨rfl, nd, rfl⟩) | (go_at_call 79; (with_reducible refine (CA.out _).mono ?_); rintro e w' ⟨rfl, nd, rfl⟩))
            go_roundg k1
            case measure => omega
            case rel => exact ⟨i + 1, by go_num, by omega, HA, ⟨zq120⟩⟩
        · rw [if_pos rfl] at H
          have HA := sd H
          clear H
          go_wp2_with (first | (go_at_call 76; (with_reducible refine (CL.out _).mono ?_); rintro e w' ⟨rfl, nd, rfl⟩) | (go_at_call 78; (with_reducible refine (CD.out _).mono ?_); rintro e w' ⟨rfl, nd, rfl⟩) | (go_at_call 79; (with_reducible refine (CA.out _).mono ?_); rintro e w' ⟨rfl, nd, rfl⟩))
          go_roundg k1
          case measure => omega
          case rel => exact ⟨i + 1, by go_num, by omega, HA, ⟨zq120⟩⟩
      rw [if_neg (by omega)] at H
      obtain rfl := Option.some.inj H
      go_wp2_with fail
      (try go_ret)
      exact HP.out _ zq120
def words_printable.f (a0 : Int) : Option (Bool) := if a0 ≥ 32 then (some (decide (a0 ≤ 126))) else (some false)
theorem words_printable.calls (a0 : Int) (r : Bool) (w : World) (h : words_printable.f a0 = some r) :
  Calls Tryd.prog 92 #[.int .u8 a0] w fun e w' => e = .returned (.bool r) ∧ Drawn0 w w' := by
 have H := h
 clear h
 unfold words_printable.f at H
 replace H := ifI H
 rcases H with ⟨c2, H⟩ | ⟨c2, H⟩
 ·have c2b0 : decide (32 ≤ a0) = true := decide_eq_true c2
  clear c2
  obtain rfl := Option.some.inj H
  go_enter Tryd.func92, Tryd.ntmps92
  go_wp2
  go_ret
  exact ⟨zq1, zq23⟩
 have c2b0 : decide (32 ≤ a0) = false := decide_eq_false c2
 clear c2
 obtain rfl := Option.some.inj H
 go_enter Tryd.func92, Tryd.ntmps92
 go_wp2
 go_ret
 exact ⟨zq1, zq23⟩
def words_quoted.l0 : Nat → ByteArray → Int → List Int → Int → Int → Int → Option (ByteArray × Int × Int × Int)
 | 0, _, _, _, _, _, _ => none
 | k + 1, x0, x1, x7, x8, x165000, x165001 => if x8 < (x0.size : Int) then (if 0 ≤ x8 then (if (bt x0 x8) = 34 then (some (strOfNums x7, wrap64 (x8 + 1), x165000, x165001)) else (if (bt x0 x8) = 92 then (if (wrap64 (x8 + 1)) ≥ (x0.size : Int) then (some ((⟨#[]⟩ : ByteArray), 0, wrap64 ((wrap64 (x8 + 1)) - 1), 5)) else (if 0 ≤ (wrap64 (x8 + 1)) then (if (wrap64 (x8 + 1)) < (x0.size : Int) then (if (bt x0 (wrap64 (x8 + 1))) = 34 then (if x7.length < 140737488355328 then (words_quoted.l0 k x0 x1 (x7 ++ [bt x0 (wrap64 (x8 + 1))]) (wrap64 ((wrap64 (x8 + 1)) + 1)) x165000 x165001) else (none)) else (if (bt x0 (wrap64 (x8 + 1))) = 92 then (if x7.length < 140737488355328 then (words_quoted.l0 k x0 x1 (x7 ++ [bt x0 (wrap64 (x8 + 1))]) (wrap64 ((wrap64 (x8 + 1)) + 1)) x165000 x165001) else (none)) else (some ((⟨#[]⟩ : ByteArray), 0, wrap64 ((wrap64 (x8 + 1)) - 1), 5)))) else (none)) else (none))) else ((words_printable.f (bt x0 x8)).bind fun t171 => (if t171 = true then (if x7.length < 140737488355328 then (words_quoted.l0 k x0 x1 (x7 ++ [bt x0 x8]) (wrap64 (x8 + 1)) x165000 x165001) else (none)) else (some ((⟨#[]⟩ : ByteArray), 0, x8, 5)))))) else (none)) else (some ((⟨#[]⟩ : ByteArray), 0, x1, 6))
def words_quoted.f (k : Nat) (a0 : ByteArray) (a1 : Int) : Option (ByteArray × Int × Int × Int) := words_quoted.l0 k a0 a1 ([] : List Int) (wrap64 (a1 + 1)) 0 0
def words_quoted.T8 : Bool × List (List Nat × List Nat) := (true, [([], []), ([0], [0]), ([], []), ([2], [2]), ([], []), ([1, 0, 1], [1]), ([3, 5, 0, 1, 2, 3, 5], [3]), ([4, 6, 0, 1, 2, 3, 4, 5, 6], [4])])
def words_quoted.B8 : List Nat := [0, 1, 0, 4, 0, 3, 47, 127]
theorem words_quoted.tab8 : rtab .any (opsOf Tryd.f81 8) = words_quoted.T8 := by kernel_rfl
theorem words_quoted.bits8 : waitsOk words_quoted.T8.2 words_quoted.B8 = true := by kernel_rfl
theorem words_quoted.calls (k : Nat) (a0 : ByteArray) (a1 : Int) (r1 : ByteArray) (r2 r3 r4 : Int) (w : World) (h : words_quoted.f k a0 a1 = some (r1, r2, r3, r4)) :
  Calls Tryd.prog 81 #[.string a0, .int .i64 a1] w fun e w' => e = .returned (.tuple #[.string r1, .int .i64 r2, .agg #[.int .i64 r3, .int .i64 r4]]) ∧ Below w.heap.size w w' := by
 have hu93 := Tryd.underlying93
 have HB := sd (Below.refl w.heap.size w)
 have H := h
 clear h
 unfold words_quoted.f at H
 have H' := sd H
 clear H
 go_enter Tryd.func81, Tryd.ntmps81
 go_wp2_with (first | ((with_reducible refine gate_dst (N := 6) rfl ?_); refine bxA 6 #[.int .i64 0, .int .i64 0] 93 ?_; intro gb164 hg w3 hbox hb; have BK164 := sd (hbox); have GW164 := gem hg HB; have GE164 := GW164; replace HB := hbm HB hb; clear hb hbox hg))
 go_loopg [7, 8] k (fun kq v7 v8 w' => ∃ (x7_1 : List Int) (x8_1 : Int) (x165000_1 : Int) (x165001_1 : Int), v8 = .int .i64 x8_1 ∧ Aside0 (words_quoted.l0 kq a0 a1 x7_1 x8_1 x165000_1 x165001_1 = some (r1, r2, r3, r4)) ∧ Aside0 (kq ≤ k) ∧ Aside0 (Kd.R (Kd.int .u8) 5 w' w.heap.size (fun _ => True) v7 x7_1) ∧ Aside0 (w'.heap[gb164]? = some (.cells #[.int .i64 x165000_1, .int .i64 x165001_1] 93 (0, 0))) ∧ Aside0 (Below w.heap.size w w'))
 case atStart => exact ⟨(([] : List Int)), (wrap64 (a1 + 1)), (0), (0), zq1, H', ⟨Nat.le_refl _⟩, ⟨zq43⟩, ⟨zq121⟩, ⟨zq122⟩⟩
 case round =>
  clear H'
  try clear p2
  obtain ⟨x7_1, x8_1, x165000_1, x165001_1, rfl, HA, HK1, HO_7, BK164, HB⟩ := hrel
  cases gk with
  | zero => exact absurd HA.out (by simp [words_quoted.l0])
  | succ k1 =>
   have H := HA.out
   clear HA
   simp only [words_quoted.l0] at H
   replace H := ifI H
   rcases H with ⟨c4, H⟩ | ⟨c4, H⟩
   ·have c4b0 : decide (x8_1 < (a0.size : Int)) = true := decide_eq_true c4
    clear c4
    replace H := ifI H
    rcases H with ⟨c5, H⟩ | ⟨c5, H⟩
    ·have c5b0 : decide (0 ≤ x8_1) = true := decide_eq_true c5
     clear c5
     replace H := ifI H
     rcases H with ⟨c7, H⟩ | ⟨c7, H⟩
     ·obtain ⟨c7b0, c7b1⟩ := eqI c7
      clear c7
      simp only [Option.some.injEq, Prod.mk.injEq] at H
      obtain ⟨rfl, rfl, rfl, rfl⟩ := H
      have p6 : 0 ≤ (x8_1 : Int) := od
      have q6 : x8_1 < (a0.size : Int) := od
      have hx6 := bt_at a0 x8_1
      replace p6 := eq_true p6
      replace q6 := eq_true q6
      try go_wp2
      replace HO_7 := sd (Kd.R_drew HO_7.out)
      replace BK164 := sd (blk_drew BK164.out)
      replace HB := sd (below_drew1 HB.out)
      have hcw9 := own_string (P := Tryd.prog) Tryd.underlying78 Tryd.underlying5 Tryd.underlying9 (Kd.own_of_R HO_7.out)
      refine start_ (n := 8) (S := fun w' => w'.cell? ⟨gb164, 0, none⟩ = some (.int .i64 x165000_1) ∧ w'.cell? ⟨gb164, 1, none⟩ = some (.int .i64 x165001_1) ∧ (convert 78 9 u7).run Tryd.prog w' = .ok (.string (strOfNums x7_1)) w') (ds := [7]) #[false, false, false, false, false, false, false, false] (by kernel_rfl) rfl rfl ⟨(blk_cell BK164.out 0).trans rfl, (blk_cell BK164.out 1).trans rfl, hcw9⟩ (fun hHeld => ?_); refine with_tabW words_quoted.tab8 words_quoted.bits8 (fun HT_ HW_ => ?_)
      generalize wr.drew = w8 at HO_7 BK164 HB hHeld ⊢
      refine pA 0 28 HT_.out ?_
      refine tA 1 29 HT_.out HW_.out hHeld ?_
      refine pA 2 30 HT_.out ?_
      refine pA 3 31 HT_.out ?_
      refine pA 5 4 HT_.out ?_
      refine pA 6 5 HT_.out ?_
      refine tA 4 32 HT_.out HW_.out hHeld ?_
      refine last_ (i := 7) (N := none) #[true, true, true, true, true, true, true, true] rfl rfl (one_of HT_.out (by kernel_rfl)) (by decide) (fun K hK => ?_)
      have hs10 : w8.cell? ⟨gb164, 0, none⟩ = some (.int .i64 x165000_1) := (blk_cell BK164.out 0).trans rfl
      have hfs10 := blk_frozen BK164.out 0
      have hs11 : w8.cell? ⟨gb164, 1, none⟩ = some (.int .i64 x165001_1) := (blk_cell BK164.out 1).trans rfl
      have hfs11 := blk_frozen BK164.out 1
      refine skip_ (w1 := ?_) (by rfl) rfl ?_ ?_
      rotate_left
      ·go_simp
       rfl
      refine hK.out _ _ ?_
      clear hK K
      refine done_ (done_of HT_.out (by kernel_rfl)) ?_
      try go_wp2
      refine bodyPost_ret (results_list (rs := [.tmp 4, .tmp 5, .cell 6 93]) rfl (by simp) (.tmp (.tmp (.cell gb164 93 #[.int .i64 x165000_1, .int .i64 x165001_1] (0, 0) _ rfl (by (with_reducible repeat (first | refine blk_drewN ?_ _ | refine blk_drew ?_ | refine blk_alloc ?_ _)); refine blk_put (cs := #[.int .i64 x165000_1, .int .i64 x165001_1]) ?_ 1 _ rfl; (with_reducible repeat (first | refine blk_drewN ?_ _ | refine blk_drew ?_ | refine blk_alloc ?_ _)); refine blk_put (cs := #[.int .i64 x165000_1, .int .i64 x165001_1]) ?_ 0 _ rfl; (with_reducible repeat (first | refine blk_drewN ?_ _ | refine blk_drew ?_ | refine blk_alloc ?_ _)); exact BK164.out) Tryd.underlying93 rfl (by kernel_rfl) .nil)))) rfl ?_
      exact ⟨zq8, zq122⟩
     obtain ⟨c7b0, c7b1⟩ := neI c7
     replace H := ifI H
     rcases H with ⟨c12, H⟩ | ⟨c12, H⟩
     ·obtain ⟨c12b0, c12b1⟩ := eqI c12
      clear c12
      replace H := ifI H
      rcases H with ⟨c13, H⟩ | ⟨c13, H⟩
      ·have c13b0 : decide ((a0.size : Int) ≤ (wrap64 (x8_1 + 1))) = true := decide_eq_true c13
       clear c13
       simp only [Option.some.injEq, Prod.mk.injEq] at H
       obtain ⟨rfl, rfl, rfl, rfl⟩ := H
       have p6 : 0 ≤ (x8_1 : Int) := od
       have q6 : x8_1 < (a0.size : Int) := od
       have hx6 := bt_at a0 x8_1
       replace p6 := eq_true p6
       replace q6 := eq_true q6
       obtain ⟨_, _, _, _⟩ := bk2 BK164
       go_wp2
       refine bodyPost_ret (results_list (rs := [.tmp 4, .tmp 5, .cell 6 93]) rfl (by simp) (.tmp (.tmp (.cell gb164 93 #[.int .i64 (wrap64 ((wrap64 (x8_1 + 1)) - 1)), .int .i64 5] (0, 0) _ rfl (by (with_reducible repeat (first | refine blk_drewN ?_ _ | refine blk_drew ?_ | refine blk_alloc ?_ _)); refine blk_put (cs := #[.int .i64 (wrap64 ((wrap64 (x8_1 + 1)) - 1)), .int .i64 x165001_1]) ?_ 1 _ rfl; (with_reducible repeat (first | refine blk_drewN ?_ _ | refine blk_drew ?_ | refine blk_alloc ?_ _)); refine blk_put (cs := #[.int .i64 x165000_1, .int .i64 x165001_1]) ?_ 0 _ rfl; (with_reducible repeat (first | refine blk_drewN ?_ _ | refine blk_drew ?_ | refine blk_alloc ?_ _)); exact BK164.out) Tryd.underlying93 rfl (by kernel_rfl) .nil)))) rfl ?_
       exact ⟨zq8, zq122⟩
      have c13b0 : decide ((a0.size : Int) ≤ (wrap64 (x8_1 + 1))) = false := decide_eq_false c13
      clear c13
      obtain ⟨ji15, hji15⟩ : ∃ j_ : Int, (wrap64 (x8_1 + 1)) = j_ := ⟨_, rfl⟩
      replace H : (if 0 ≤ (ji15) then (if (ji15) < (a0.size : Int) then (if (bt a0 (ji15)) = 34 then (if x7_1.length < 140737488355328 then (words_quoted.l0 k1 a0 a1 (x7_1 ++ [bt a0 (ji15)]) (wrap64 ((ji15) + 1)) x165000_1 x165001_1) else (none)) else (if (bt a0 (ji15)) = 92 then (if x7_1.length < 140737488355328 then (words_quoted.l0 k1 a0 a1 (x7_1 ++ [bt a0 (ji15)]) (wrap64 ((ji15) + 1)) x165000_1 x165001_1) else (none)) else (some ((⟨#[]⟩ : ByteArray), 0, wrap64 ((ji15) - 1), 5)))) else (none)) else (none)) = some (r1, r2, r3, r4) := by first | (rw [hji15] at H; exact H) | (simp only [hji15] at H ⊢; exact H)
      (try rw [hji15] at c13b0)
      have hji15w : (IntKind.i64.wrap (x8_1 + 1)) = ji15 := (i64_w _).trans hji15
      replace H := ifI H
      rcases H with ⟨c16, H⟩ | ⟨c16, H⟩
      ·have c16b0 : decide (0 ≤ (ji15)) = true := decide_eq_true c16
       clear c16
       replace H := ifI H
       rcases H with ⟨c17, H⟩ | ⟨c17, H⟩
       ·have c17b0 : decide ((ji15) < (a0.size : Int)) = true := decide_eq_true c17
        clear c17
        replace H := ifI H
        rcases H with ⟨c19, H⟩ | ⟨c19, H⟩
        ·obtain ⟨c19b0, c19b1⟩ := eqI c19
         clear c19
         replace H := ifI H
         rcases H with ⟨c21, H⟩ | ⟨c21, H⟩
         ·have LMc21 := sd c21
          clear c21
          obtain ⟨y165, hy165⟩ : ∃ y_ : List Int, y_ = (x7_1 ++ [bt a0 (ji15)]) := ⟨_, rfl⟩
          replace H : (words_quoted.l0 k1 a0 a1 y165 (wrap64 ((ji15) + 1)) x165000_1 x165001_1) = some (r1, r2, r3, r4) := by first | (rw [hy165]; with_reducible exact H) | (have H2_ := (Option.bind_some _ _).symm.trans H; rw [hy165]; with_reducible exact H2_) | (have H2_ := (Option.bind_some _ _).symm.trans H; with_reducible exact H2_) | with_reducible exact H | (rw [hy165]; exact H) | exact H
          have Ny165 := sd hy165
          clear hy165
          have H' := sd H
          clear H
          have p6 : 0 ≤ (x8_1 : Int) := od
          have q6 : x8_1 < (a0.size : Int) := od
          have hx6 := bt_at a0 x8_1
          replace p6 := eq_true p6
          replace q6 := eq_true q6
          have p18 : 0 ≤ ((ji15) : Int) := od
          have q18 : (ji15) < (a0.size : Int) := od
          have hx18 := bt_at a0 (ji15)
          replace p18 := eq_true p18
          replace q18 := eq_true q18
          have p20 : 0 ≤ ((ji15) : Int) := od
          have q20 : (ji15) < (a0.size : Int) := od
          have hx20 := bt_at a0 (ji15)
          replace p20 := eq_true p20
          replace q20 := eq_true q20
          go_wp2_with (first | ((with_reducible refine gate_builtin (b := .append) (xs := #[.tmp 57, .tmp 61]) rfl ?_); at_builtin; refine Kd.R_append (Kd.int .u8) (w0 := w) w.heap.size rfl (.tmp 57) (.tmp 61) 78 5 (.int .u8 0) 1 rfl Tryd.underlying78 info5 rfl (by decide) (by omega) u7 x7_1 (bt a0 (ji15)) [.int .u8 (bt a0 (ji15))] (fun _ => True) (fun _ => False) rfl rfl ?aP (fun _ hk => hk.elim) ?aF ?aO ?aB ?aS ?aL ?_; (case aP => exact rfl); (case aB => exact zq122); (case aF => exact (fun _ _ => trivial)); (case aO => exact zq123); (case aS => exact (below_size zq122)); (case aL => have := LMc21.out; omega); intro v166 w22 ho hb hg hat; rw [← Ny165.out] at ho; have HO167 := sd (ho); replace BK164 := sd (blk_grown (g := gb164) (o := .cells #[.int .i64 x165000_1, .int .i64 x165001_1] 93 (0, 0)) zq121 hg (Kd.R_ne HO_7.out BK164.out (by decide))); replace HB := sd (hb); clear HO_7; clear ho hb hg hat))
          go_roundg k1
          case measure => have := HK1.out; omega
          case rel => exact ⟨(y165), (wrap64 ((ji15) + 1)), (x165000_1), (x165001_1), (by first | rfl | (simp; done) | (simp only [← hji15] <;> (first | rfl | simp)) | (simp [*]; done)), H', ⟨by have := HK1.out; omega⟩, ⟨by (with_reducible repeat (first | apply Kd.R_alloc | apply Kd.R_drewN | apply Kd.R_drew)); exact HO167.out⟩, ⟨zq121⟩, ⟨zq122⟩⟩
         exact absurd H (by simp)
        obtain ⟨c19b0, c19b1⟩ := neI c19
        replace H := ifI H
        rcases H with ⟨c24, H⟩ | ⟨c24, H⟩
        ·obtain ⟨c24b0, c24b1⟩ := eqI c24
         clear c24
         replace H := ifI H
         rcases H with ⟨c26, H⟩ | ⟨c26, H⟩
         ·have LMc26 := sd c26
          clear c26
          obtain ⟨y168, hy168⟩ : ∃ y_ : List Int, y_ = (x7_1 ++ [bt a0 (ji15)]) := ⟨_, rfl⟩
          replace H : (words_quoted.l0 k1 a0 a1 y168 (wrap64 ((ji15) + 1)) x165000_1 x165001_1) = some (r1, r2, r3, r4) := by first | (rw [hy168]; with_reducible exact H) | (have H2_ := (Option.bind_some _ _).symm.trans H; rw [hy168]; with_reducible exact H2_) | (have H2_ := (Option.bind_some _ _).symm.trans H; with_reducible exact H2_) | with_reducible exact H | (rw [hy168]; exact H) | exact H
          have Ny168 := sd hy168
          clear hy168
          have H' := sd H
          clear H
          have p6 : 0 ≤ (x8_1 : Int) := od
          have q6 : x8_1 < (a0.size : Int) := od
          have hx6 := bt_at a0 x8_1
          replace p6 := eq_true p6
          replace q6 := eq_true q6
          have p18 : 0 ≤ ((ji15) : Int) := od
          have q18 : (ji15) < (a0.size : Int) := od
          have hx18 := bt_at a0 (ji15)
          replace p18 := eq_true p18
          replace q18 := eq_true q18
          have p23 : 0 ≤ ((ji15) : Int) := od
          have q23 : (ji15) < (a0.size : Int) := od
          have hx23 := bt_at a0 (ji15)
          replace p23 := eq_true p23
          replace q23 := eq_true q23
          have p25 : 0 ≤ ((ji15) : Int) := od
          have q25 : (ji15) < (a0.size : Int) := od
          have hx25 := bt_at a0 (ji15)
          replace p25 := eq_true p25
          replace q25 := eq_true q25
          go_wp2_with (first | ((with_reducible refine gate_builtin (b := .append) (xs := #[.tmp 57, .tmp 61]) rfl ?_); at_builtin; refine Kd.R_append (Kd.int .u8) (w0 := w) w.heap.size rfl (.tmp 57) (.tmp 61) 78 5 (.int .u8 0) 1 rfl Tryd.underlying78 info5 rfl (by decide) (by omega) u7 x7_1 (bt a0 (ji15)) [.int .u8 (bt a0 (ji15))] (fun _ => True) (fun _ => False) rfl rfl ?aP (fun _ hk => hk.elim) ?aF ?aO ?aB ?aS ?aL ?_; (case aP => exact rfl); (case aB => exact zq122); (case aF => exact (fun _ _ => trivial)); (case aO => exact zq123); (case aS => exact (below_size zq122)); (case aL => have := LMc26.out; omega); intro v169 w27 ho hb hg hat; rw [← Ny168.out] at ho; have HO170 := sd (ho); replace BK164 := sd (blk_grown (g := gb164) (o := .cells #[.int .i64 x165000_1, .int .i64 x165001_1] 93 (0, 0)) zq121 hg (Kd.R_ne HO_7.out BK164.out (by decide))); replace HB := sd (hb); clear HO_7; clear ho hb hg hat))
          go_roundg k1
          case measure => have := HK1.out; omega
          case rel => exact ⟨(y168), (wrap64 ((ji15) + 1)), (x165000_1), (x165001_1), (by first | rfl | (simp; done) | (simp only [← hji15] <;> (first | rfl | simp)) | (simp [*]; done)), H', ⟨by have := HK1.out; omega⟩, ⟨by (with_reducible repeat (first | apply Kd.R_alloc | apply Kd.R_drewN | apply Kd.R_drew)); exact HO170.out⟩, ⟨zq121⟩, ⟨zq122⟩⟩
         exact absurd H (by simp)
        obtain ⟨c24b0, c24b1⟩ := neI c24
        simp only [Option.some.injEq, Prod.mk.injEq] at H
        obtain ⟨rfl, rfl, rfl, rfl⟩ := H
        have p6 : 0 ≤ (x8_1 : Int) := od
        have q6 : x8_1 < (a0.size : Int) := od
        have hx6 := bt_at a0 x8_1
        replace p6 := eq_true p6
        replace q6 := eq_true q6
        have p18 : 0 ≤ ((ji15) : Int) := od
        have q18 : (ji15) < (a0.size : Int) := od
        have hx18 := bt_at a0 (ji15)
        replace p18 := eq_true p18
        replace q18 := eq_true q18
        have p23 : 0 ≤ ((ji15) : Int) := od
        have q23 : (ji15) < (a0.size : Int) := od
        have hx23 := bt_at a0 (ji15)
        replace p23 := eq_true p23
        replace q23 := eq_true q23
        obtain ⟨_, _, _, _⟩ := bk2 BK164
        go_wp2
        refine bodyPost_ret (results_list (rs := [.tmp 4, .tmp 5, .cell 6 93]) rfl (by simp) (.tmp (.tmp (.cell gb164 93 #[.int .i64 (wrap64 ((ji15) - 1)), .int .i64 5] (0, 0) _ rfl (by (with_reducible repeat (first | refine blk_drewN ?_ _ | refine blk_drew ?_ | refine blk_alloc ?_ _)); refine blk_put (cs := #[.int .i64 (wrap64 ((ji15) - 1)), .int .i64 x165001_1]) ?_ 1 _ rfl; (with_reducible repeat (first | refine blk_drewN ?_ _ | refine blk_drew ?_ | refine blk_alloc ?_ _)); refine blk_put (cs := #[.int .i64 x165000_1, .int .i64 x165001_1]) ?_ 0 _ rfl; (with_reducible repeat (first | refine blk_drewN ?_ _ | refine blk_drew ?_ | refine blk_alloc ?_ _)); exact BK164.out) Tryd.underlying93 rfl (by kernel_rfl) .nil)))) rfl ?_
        exact ⟨by first | rfl | (simp [errW_none, errW_some] <;> rfl) | (simp only [← hji15]; first | rfl | (simp [errW_none, errW_some] <;> rfl)) | (simp [*, errW_none, errW_some] <;> rfl), zq122⟩
       exact absurd H (by simp)
      exact absurd H (by simp)
     obtain ⟨c12b0, c12b1⟩ := neI c12
     replace H := bdI H
     obtain ⟨t171, A29, H⟩ := H
     (try dsimp only at H)
     by_cases c30 : t171 = true
     ·subst c30
      rw [if_pos rfl] at H
      replace H := ifI H
      rcases H with ⟨c31, H⟩ | ⟨c31, H⟩
      ·have LMc31 := sd c31
       clear c31
       obtain ⟨y172, hy172⟩ : ∃ y_ : List Int, y_ = (x7_1 ++ [bt a0 x8_1]) := ⟨_, rfl⟩
       replace H : (words_quoted.l0 k1 a0 a1 y172 (wrap64 (x8_1 + 1)) x165000_1 x165001_1) = some (r1, r2, r3, r4) := by first | (rw [hy172]; with_reducible exact H) | (have H2_ := (Option.bind_some _ _).symm.trans H; rw [hy172]; with_reducible exact H2_) | (have H2_ := (Option.bind_some _ _).symm.trans H; with_reducible exact H2_) | with_reducible exact H | (rw [hy172]; exact H) | exact H
       have Ny172 := sd hy172
       clear hy172
       have H' := sd H
       clear H
       have p6 : 0 ≤ (x8_1 : Int) := od
       have q6 : x8_1 < (a0.size : Int) := od
       have hx6 := bt_at a0 x8_1
       replace p6 := eq_true p6
       replace q6 := eq_true q6
       go_wp2_with (first | ((with_reducible refine gate_callee (f := 92) rfl ?_); refine gL 65 Tryd.func92 #[.int .u8 (bt a0 x8_1)] ?_; (with_reducible refine (words_printable.calls (bt a0 x8_1) true _ A29.out).mono ?_); rintro e w' ⟨rfl, ⟨nd, rfl⟩⟩; refine ⟨_, rfl, ?_⟩) | ((with_reducible refine gate_builtin (b := .append) (xs := #[.tmp 21, .tmp 23]) rfl ?_); at_builtin; refine Kd.R_append (Kd.int .u8) (w0 := w) w.heap.size rfl (.tmp 21) (.tmp 23) 78 5 (.int .u8 0) 1 rfl Tryd.underlying78 info5 rfl (by decide) (by omega) u7 x7_1 (bt a0 x8_1) [.int .u8 (bt a0 x8_1)] (fun _ => True) (fun _ => False) rfl rfl ?aP (fun _ hk => hk.elim) ?aF ?aO ?aB ?aS ?aL ?_; (case aP => exact rfl); (case aB => exact zq122); (case aF => exact (fun _ _ => trivial)); (case aO => exact zq123); (case aS => exact (below_size zq122)); (case aL => have := LMc31.out; omega); intro v173 w32 ho hb hg hat; rw [← Ny172.out] at ho; have HO174 := sd (ho); replace BK164 := sd (blk_grown (g := gb164) (o := .cells #[.int .i64 x165000_1, .int .i64 x165001_1] 93 (0, 0)) zq121 hg (Kd.R_ne HO_7.out BK164.out (by decide))); replace HB := sd (hb); clear HO_7; clear ho hb hg hat))
       go_roundg k1
       case measure => have := HK1.out; omega
       case rel => exact ⟨(y172), (wrap64 (x8_1 + 1)), (x165000_1), (x165001_1), zq1, H', ⟨by have := HK1.out; omega⟩, ⟨by (with_reducible repeat (first | apply Kd.R_alloc | apply Kd.R_drewN | apply Kd.R_drew)); exact HO174.out⟩, ⟨zq121⟩, ⟨zq122⟩⟩
      exact absurd H (by simp)
     replace c30 := Bool.eq_false_iff.mpr c30
     subst c30
     rw [if_neg Bool.false_ne_true] at H
     simp only [Option.some.injEq, Prod.mk.injEq] at H
     obtain ⟨rfl, rfl, rfl, rfl⟩ := H
     have p6 : 0 ≤ (x8_1 : Int) := od
     have q6 : x8_1 < (a0.size : Int) := od
     have hx6 := bt_at a0 x8_1
     replace p6 := eq_true p6
     replace q6 := eq_true q6
     go_wp2_with (first | ((with_reducible refine gate_callee (f := 92) rfl ?_); refine gL 65 Tryd.func92 #[.int .u8 (bt a0 x8_1)] ?_; (with_reducible refine (words_printable.calls (bt a0 x8_1) false _ A29.out).mono ?_); rintro e w' ⟨rfl, ⟨nd, rfl⟩⟩; refine ⟨_, rfl, ?_⟩; (try (rw [drewN_self wr]; generalize hq_ : World.drewN wr _ = wr; have n0_ : Aside0 (Kd.R (Kd.int .u8) 5 wr w.heap.size (fun _ => True) u7 x7_1) := ⟨by rw [← hq_]; exact zq123⟩; have n1_ : Aside0 (wr.heap[gb164]? = some (.cells #[.int .i64 x165000_1, .int .i64 x165001_1] 93 (0, 0))) := ⟨by rw [← hq_]; exact zq121⟩; have n2_ : Aside0 (Below w.heap.size w wr) := ⟨by rw [← hq_]; exact zq122⟩; clear HO_7 BK164 HB hq_; have HO_7 := n0_; have BK164 := n1_; have HB := n2_; clear n0_ n1_ n2_; (try (have hdBK164_0 := (blk_cell BK164.out 0).trans rfl; have heBK164_0 := blk_frozen BK164.out 0; have hdBK164_1 := (blk_cell BK164.out 1).trans rfl; have heBK164_1 := blk_frozen BK164.out 1)))); obtain ⟨_, _, _, _⟩ := bk2 BK164))
     refine bodyPost_ret (results_list (rs := [.tmp 4, .tmp 5, .cell 6 93]) rfl (by simp) (.tmp (.tmp (.cell gb164 93 #[.int .i64 x8_1, .int .i64 5] (0, 0) _ rfl (by (with_reducible repeat (first | refine blk_drewN ?_ _ | refine blk_drew ?_ | refine blk_alloc ?_ _)); refine blk_put (cs := #[.int .i64 x8_1, .int .i64 x165001_1]) ?_ 1 _ rfl; (with_reducible repeat (first | refine blk_drewN ?_ _ | refine blk_drew ?_ | refine blk_alloc ?_ _)); refine blk_put (cs := #[.int .i64 x165000_1, .int .i64 x165001_1]) ?_ 0 _ rfl; (with_reducible repeat (first | refine blk_drewN ?_ _ | refine blk_drew ?_ | refine blk_alloc ?_ _)); exact BK164.out) Tryd.underlying93 rfl (by kernel_rfl) .nil)))) rfl ?_
     exact ⟨zq8, zq122⟩
    exact absurd H (by simp)
   have c4b0 : decide (x8_1 < (a0.size : Int)) = false := decide_eq_false c4
   clear c4
   simp only [Option.some.injEq, Prod.mk.injEq] at H
   obtain ⟨rfl, rfl, rfl, rfl⟩ := H
   obtain ⟨_, _, _, _⟩ := bk2 BK164
   go_wp2
   refine bodyPost_ret (results_list (rs := [.tmp 4, .tmp 5, .cell 6 93]) rfl (by simp) (.tmp (.tmp (.cell gb164 93 #[.int .i64 a1, .int .i64 6] (0, 0) _ rfl (by (with_reducible repeat (first | refine blk_drewN ?_ _ | refine blk_drew ?_ | refine blk_alloc ?_ _)); refine blk_put (cs := #[.int .i64 a1, .int .i64 x165001_1]) ?_ 1 _ rfl; (with_reducible repeat (first | refine blk_drewN ?_ _ | refine blk_drew ?_ | refine blk_alloc ?_ _)); refine blk_put (cs := #[.int .i64 x165000_1, .int .i64 x165001_1]) ?_ 0 _ rfl; (with_reducible repeat (first | refine blk_drewN ?_ _ | refine blk_drew ?_ | refine blk_alloc ?_ _)); exact BK164.out) Tryd.underlying93 rfl (by kernel_rfl) .nil)))) rfl ?_
   exact ⟨zq8, zq122⟩
def words_signEnd.j0 : Nat → ByteArray → Int → Option (Int)
 | 0, _, _ => none
 | k + 1, x0, x1 => if 0 ≤ x1 then (if x1 < (x0.size : Int) then (if (bt x0 x1) = 40 then (some (wrap64 (x1 + 1))) else (if (bt x0 x1) = 41 then (some (wrap64 (x1 + 1))) else (if (bt x0 x1) = 123 then (some (wrap64 (x1 + 1))) else (if (bt x0 x1) = 125 then (some (wrap64 (x1 + 1))) else (if (bt x0 x1) = 91 then (some (wrap64 (x1 + 1))) else (if (bt x0 x1) = 93 then (some (wrap64 (x1 + 1))) else (if (bt x0 x1) = 44 then (some (wrap64 (x1 + 1))) else (if (bt x0 x1) = 59 then (some (wrap64 (x1 + 1))) else (if (bt x0 x1) = 58 then (some (wrap64 (x1 + 1))) else (if (bt x0 x1) = 61 then (some (wrap64 (x1 + 1))) else (if (bt x0 x1) = 43 then (some (wrap64 (x1 + 1))) else (if (bt x0 x1) = 45 then (some (wrap64 (x1 + 1))) else (if (bt x0 x1) = 42 then (some (wrap64 (x1 + 1))) else (if (bt x0 x1) = 47 then (some (wrap64 (x1 + 1))) else (if (bt x0 x1) = 60 then (some (wrap64 (x1 + 1))) else (if (bt x0 x1) = 62 then (some (wrap64 (x1 + 1))) else (if (bt x0 x1) = 124 then (some (wrap64 (x1 + 1))) else (if (bt x0 x1) = 38 then (some (wrap64 (x1 + 1))) else (if (bt x0 x1) = 33 then (some (wrap64 (x1 + 1))) else (if (bt x0 x1) = 64 then (some (wrap64 (x1 + 1))) else (if (bt x0 x1) = 37 then (some (wrap64 (x1 + 1))) else (some x1)))))))))))))))))))))) else (none)) else (none)
def words_signEnd.f (k : Nat) (a0 : ByteArray) (a1 : Int) : Option (Int) := if (wrap64 (a1 + 2)) ≤ (a0.size : Int) then (if 0 ≤ a1 then (if a1 ≤ (wrap64 (a1 + 2)) then (if (a0.extract (a1 : Int).toNat ((wrap64 (a1 + 2)) : Int).toNat).toList = ([60, 61] : List UInt8) then (some (wrap64 (a1 + 2))) else (if (a0.extract (a1 : Int).toNat ((wrap64 (a1 + 2)) : Int).toNat).toList = ([62, 61] : List UInt8) then (some (wrap64 (a1 + 2))) else (if (a0.extract (a1 : Int).toNat ((wrap64 (a1 + 2)) : Int).toNat).toList = ([33, 61] : List UInt8) then (some (wrap64 (a1 + 2))) else (if (a0.extract (a1 : Int).toNat ((wrap64 (a1 + 2)) : Int).toNat).toList = ([46, 46] : List UInt8) then (some (wrap64 (a1 + 2))) else (words_signEnd.j0 k a0 a1))))) else (none)) else (none)) else (words_signEnd.j0 k a0 a1)
end Go.Proofs.YtelfiofnhchmbaaDoor.A
