-- By gen.py, a program of this session's, over the print's forms: not the print's own text.
import Derived.Test.YtoenhagbgfkihaaAx0
import Derived.Test.YtoenhagbgfkihaaQ
namespace Go.Proofs.Ytoenhagbgfkihaa.A
open Go.RowKit Go.Proofs.Ytoenhagbgfkihaa.B Go.Proofs.YtoenhagbgfkihaaW.PrintWords Go.Proofs.YtoenhagbgfkihaaW.PrintLast Go.Proofs.YtoenhagbgfkihaaW.PrintMore
attribute [local go_sem] max2_int min2_int max_two min_two max_three min_three max_four min_four   -- for this text's walks alone
set_option linter.unusedVariables false
set_option linter.unusedSimpArgs false

/-! ### accountingref03_digits: function 67 -/
def accountingref03_digits.l0 : Nat → ByteArray → Int → Option (Int)
 | 0, _, _ => none
 | k + 1, x0, x3 => if x3 < (x0.size : Int) then (if 0 ≤ x3 then (if (bt x0 x3) ≥ 48 then (if (bt x0 x3) ≤ 57 then (accountingref03_digits.l0 k x0 (wrap64 (x3 + 1))) else (some x3)) else (some x3)) else (none)) else (some x3)
def accountingref03_digits.f (k : Nat) (a0 : ByteArray) : Option (Int) := accountingref03_digits.l0 k a0 0
theorem accountingref03_digits.mono_l : ∀ k, (∀ y0 y1, LeO (accountingref03_digits.l0 k y0 y1) (accountingref03_digits.l0 (k + 1) y0 y1))
 | 0 => fun _ _ r h => by simp [accountingref03_digits.l0] at h
 | k + 1 => by
  have ih0 := accountingref03_digits.mono_l k
  ·intro y0 y1
   unfold accountingref03_digits.l0
   repeat' first
   | (with_reducible exact ih0 _ _)
   | (with_reducible exact LeO.refl _)
   | (with_reducible exact LeO.none _)
   | (with_reducible refine LeO.ite ?_ ?_)
   | (with_reducible refine LeO.bind ?_ (fun _ => ?_))
   | exact ih0 _ _
   | exact LeO.none _
   | refine LeO.ite ?_ ?_
   | refine LeO.bind ?_ (fun _ => ?_)
theorem accountingref03_digits.mono : ∀ a0 k, LeO (accountingref03_digits.f k a0) (accountingref03_digits.f (k + 1) a0) := by
 intro a0 k
 have ih0 := accountingref03_digits.mono_l k
 unfold accountingref03_digits.f
 repeat' first
   | (with_reducible exact ih0 _ _)
   | (with_reducible exact LeO.refl _)
   | (with_reducible exact LeO.none _)
   | (with_reducible refine LeO.ite ?_ ?_)
   | (with_reducible refine LeO.bind ?_ (fun _ => ?_))
   | exact ih0 _ _
   | exact LeO.none _
   | refine LeO.ite ?_ ?_
   | refine LeO.bind ?_ (fun _ => ?_)
set_option maxHeartbeats 8000000 in
set_option maxRecDepth 100000 in
theorem accountingref03_digits.calls (k : Nat) (a0 : ByteArray) (r : Int) (w : World) (h : accountingref03_digits.f k a0 = some r) :
  Calls Try.prog 67 #[.string a0] w fun e w' => e = .returned (.int .i64 r) ∧ Drawn0 w w' := by
 have H : (accountingref03_digits.l0 k a0 0) = some r := h
 clear h
 have H' := Aside0.mk H
 clear H
 go_enter Try.func67, Try.ntmps67
 go_wp2
 go_loopg [3] k (fun kq v3 w' => ∃ (x3_1 : Int), v3 = .int .i64 x3_1 ∧ Aside0 (accountingref03_digits.l0 kq a0 x3_1 = some r) ∧ Aside0 (kq ≤ k) ∧ Drawn0 w w')
 case atStart => exact ⟨(0), q9, H', ⟨Nat.le_refl _⟩, q10⟩
 case round =>
  clear H'
  obtain ⟨x3_1, rfl, HA, HK1, ⟨m1, rfl⟩⟩ := hrel
  cases gk with
  | zero => exact absurd HA.out (by simp [accountingref03_digits.l0])
  | succ k1 =>
   have H := HA.out
   clear HA
   simp only [accountingref03_digits.l0] at H
   by_cases c2 : x3_1 < (a0.size : Int)
   ·rw [if_pos c2] at H
    have c2b0 : decide (x3_1 < (a0.size : Int)) = true := decide_eq_true c2
    clear c2
    by_cases c3 : 0 ≤ x3_1
    ·rw [if_pos c3] at H
     have c3b0 : decide (0 ≤ x3_1) = true := decide_eq_true c3
     clear c3
     by_cases c5 : (bt a0 x3_1) ≥ 48
     ·rw [if_pos c5] at H
      have c5b0 : decide (48 ≤ (bt a0 x3_1)) = true := decide_eq_true c5
      clear c5
      by_cases c7 : (bt a0 x3_1) ≤ 57
      ·rw [if_pos c7] at H
       have c7b0 : decide ((bt a0 x3_1) ≤ 57) = true := decide_eq_true c7
       clear c7
       have H' := Aside0.mk H
       clear H
       have p4 : 0 ≤ (x3_1 : Int) := of_decide_eq_true q78
       have q4 : x3_1 < (a0.size : Int) := of_decide_eq_true q78
       have hx4 := bt_at a0 x3_1
       replace p4 := eq_true p4
       replace q4 := eq_true q4
       have p6 : 0 ≤ (x3_1 : Int) := of_decide_eq_true q78
       have q6 : x3_1 < (a0.size : Int) := of_decide_eq_true q78
       have hx6 := bt_at a0 x3_1
       replace p6 := eq_true p6
       replace q6 := eq_true q6
       go_wp2
       go_roundg k1
       case measure => have := HK1.out; omega
       case rel => exact ⟨(wrap64 (x3_1 + 1)), q9, H', ⟨by have := HK1.out; omega⟩, q10⟩
      ·rw [if_neg c7] at H
       have c7b0 : decide ((bt a0 x3_1) ≤ 57) = false := decide_eq_false c7
       clear c7
       obtain rfl := Option.some.inj H
       have p4 : 0 ≤ (x3_1 : Int) := of_decide_eq_true q78
       have q4 : x3_1 < (a0.size : Int) := of_decide_eq_true q78
       have hx4 := bt_at a0 x3_1
       replace p4 := eq_true p4
       replace q4 := eq_true q4
       have p6 : 0 ≤ (x3_1 : Int) := of_decide_eq_true q78
       have q6 : x3_1 < (a0.size : Int) := of_decide_eq_true q78
       have hx6 := bt_at a0 x3_1
       replace p6 := eq_true p6
       replace q6 := eq_true q6
       go_wp2
       go_ret
       exact ⟨q9, q10⟩
     ·rw [if_neg c5] at H
      have c5b0 : decide (48 ≤ (bt a0 x3_1)) = false := decide_eq_false c5
      clear c5
      obtain rfl := Option.some.inj H
      have p4 : 0 ≤ (x3_1 : Int) := of_decide_eq_true q78
      have q4 : x3_1 < (a0.size : Int) := of_decide_eq_true q78
      have hx4 := bt_at a0 x3_1
      replace p4 := eq_true p4
      replace q4 := eq_true q4
      go_wp2
      go_ret
      exact ⟨q9, q10⟩
    ·rw [if_neg c3] at H
     exact absurd H (by simp)
   ·rw [if_neg c2] at H
    have c2b0 : decide (x3_1 < (a0.size : Int)) = false := decide_eq_false c2
    clear c2
    obtain rfl := Option.some.inj H
    go_wp2
    go_ret
    exact ⟨q9, q10⟩

/-! ### accountingref03_trim: function 68 -/
def accountingref03_trim.l0 : Nat → ByteArray → Option (ByteArray)
 | 0, _ => none
 | k + 1, x0 => if (x0.size : Int) > 0 then (if 0 < (x0.size : Int) then (if (bt x0 0) = 48 then (if 1 ≤ (x0.size : Int) then (accountingref03_trim.l0 k (x0.extract 1 x0.size)) else (none)) else (some x0)) else (none)) else (some x0)
def accountingref03_trim.f (k : Nat) (a0 : ByteArray) : Option (ByteArray) := accountingref03_trim.l0 k a0
theorem accountingref03_trim.mono_l : ∀ k, (∀ y0, LeO (accountingref03_trim.l0 k y0) (accountingref03_trim.l0 (k + 1) y0))
 | 0 => fun _ r h => by simp [accountingref03_trim.l0] at h
 | k + 1 => by
  have ih0 := accountingref03_trim.mono_l k
  ·intro y0
   unfold accountingref03_trim.l0
   repeat' first
   | (with_reducible exact ih0 _)
   | (with_reducible exact LeO.refl _)
   | (with_reducible exact LeO.none _)
   | (with_reducible refine LeO.ite ?_ ?_)
   | (with_reducible refine LeO.bind ?_ (fun _ => ?_))
   | exact ih0 _
   | exact LeO.none _
   | refine LeO.ite ?_ ?_
   | refine LeO.bind ?_ (fun _ => ?_)
theorem accountingref03_trim.mono : ∀ a0 k, LeO (accountingref03_trim.f k a0) (accountingref03_trim.f (k + 1) a0) := by
 intro a0 k
 have ih0 := accountingref03_trim.mono_l k
 unfold accountingref03_trim.f
 repeat' first
   | (with_reducible exact ih0 _)
   | (with_reducible exact LeO.refl _)
   | (with_reducible exact LeO.none _)
   | (with_reducible refine LeO.ite ?_ ?_)
   | (with_reducible refine LeO.bind ?_ (fun _ => ?_))
   | exact ih0 _
   | exact LeO.none _
   | refine LeO.ite ?_ ?_
   | refine LeO.bind ?_ (fun _ => ?_)
set_option maxHeartbeats 8000000 in
set_option maxRecDepth 100000 in
theorem accountingref03_trim.calls (k : Nat) (a0 : ByteArray) (r : ByteArray) (w : World) (h : accountingref03_trim.f k a0 = some r) :
  Calls Try.prog 68 #[.string a0] w fun e w' => e = .returned (.string r) ∧ Drawn0 w w' := by
 have H : (accountingref03_trim.l0 k a0) = some r := h
 clear h
 have H' := Aside0.mk H
 clear H
 go_enter Try.func68, Try.ntmps68
 go_wp2
 go_loopg [0] k (fun kq v0 w' => ∃ (x0_1 : ByteArray), v0 = .string x0_1 ∧ Aside0 (accountingref03_trim.l0 kq x0_1 = some r) ∧ Aside0 (kq ≤ k) ∧ Drawn0 w w')
 case atStart => exact ⟨(a0), q9, H', ⟨Nat.le_refl _⟩, q10⟩
 case round =>
  clear H'
  obtain ⟨x0_1, rfl, HA, HK1, ⟨m1, rfl⟩⟩ := hrel
  cases gk with
  | zero => exact absurd HA.out (by simp [accountingref03_trim.l0])
  | succ k1 =>
   have H := HA.out
   clear HA
   simp only [accountingref03_trim.l0] at H
   by_cases c2 : (x0_1.size : Int) > 0
   ·rw [if_pos c2] at H
    have c2b0 : decide (0 < (x0_1.size : Int)) = true := decide_eq_true c2
    have c2b1 : decide (0 < x0_1.size) = true := decide_eq_true (by omega)
    clear c2
    by_cases c3 : 0 < (x0_1.size : Int)
    ·rw [if_pos c3] at H
     have c3b0 : decide (0 < (x0_1.size : Int)) = true := decide_eq_true c3
     have c3b1 : decide (0 < x0_1.size) = true := decide_eq_true (by omega)
     clear c3
     by_cases c5 : (bt x0_1 0) = 48
     ·rw [if_pos c5] at H
      have c5b0 : ((bt x0_1 0) == 48) = true := beq_iff_eq.mpr c5
      have c5b1 : ((bt x0_1 0) != 48) = false := bne_eq_false_iff_eq.mpr c5
      clear c5
      by_cases c6 : 1 ≤ (x0_1.size : Int)
      ·rw [if_pos c6] at H
       have c6b0 := eq_true c6
       have c6b1 : decide (1 ≤ (x0_1.size : Int)) = true := decide_eq_true c6
       clear c6
       have H' := Aside0.mk H
       clear H
       have p4 : 0 ≤ (0 : Int) := (by omega)
       have q4 : 0 < x0_1.size := (by have : (0 : Int) < (x0_1.size : Int) := of_decide_eq_true q78; omega)
       have hx4 : ∀ h : 0 < x0_1.size, ((x0_1[0]'h).toNat : Int) = bt x0_1 0 := bt_at x0_1 0
       clear p4
       have qi4 : (0 < (x0_1.size : Int)) = True := eq_true (of_decide_eq_true q78)
       replace q4 := eq_true q4
       go_wp2
       go_roundg k1
       case measure => have := HK1.out; omega
       case rel => exact ⟨(x0_1.extract 1 x0_1.size), q9, H', ⟨by have := HK1.out; omega⟩, q10⟩
      ·rw [if_neg c6] at H
       exact absurd H (by simp)
     ·rw [if_neg c5] at H
      have c5b0 : ((bt x0_1 0) == 48) = false := beq_eq_false_iff_ne.mpr c5
      have c5b1 : ((bt x0_1 0) != 48) = true := bne_iff_ne.mpr c5
      obtain rfl := Option.some.inj H
      have p4 : 0 ≤ (0 : Int) := (by omega)
      have q4 : 0 < x0_1.size := (by have : (0 : Int) < (x0_1.size : Int) := of_decide_eq_true q78; omega)
      have hx4 : ∀ h : 0 < x0_1.size, ((x0_1[0]'h).toNat : Int) = bt x0_1 0 := bt_at x0_1 0
      clear p4
      have qi4 : (0 < (x0_1.size : Int)) = True := eq_true (of_decide_eq_true q78)
      replace q4 := eq_true q4
      go_wp2
      go_ret
      exact ⟨q9, q10⟩
    ·rw [if_neg c3] at H
     exact absurd H (by simp)
   ·rw [if_neg c2] at H
    have c2b0 : decide (0 < (x0_1.size : Int)) = false := decide_eq_false c2
    have c2b1 : decide (0 < x0_1.size) = false := decide_eq_false (by omega)
    clear c2
    obtain rfl := Option.some.inj H
    go_wp2
    go_ret
    exact ⟨q9, q10⟩

/-! ### accountingref03_split: function 44 (by hand) -/
def accountingref03_split.g (k : Nat) (a0 rest : ByteArray) (n : Nat) : Option (ByteArray × ByteArray × Bool) :=
 if rest.size = 0 then some (⟨#[]⟩, ⟨#[]⟩, false) else (accountingref03_digits.f k rest).bind fun m =>
  if m < (rest.size : Int) then some (⟨#[]⟩, ⟨#[]⟩, false) else
  if bt a0 (n : Int) = 47 then (accountingref03_trim.f k (a0.extract 0 n)).bind fun t => some (t, rest, bt rest 0 != 48) else
  (accountingref03_trim.f k (a0.extract 0 n ++ rest)).bind fun t => some (t, (⟨#[49, 48, 48, 48, 48, 48, 48]⟩ : ByteArray).extract 0 (1 + min rest.size 6), (bt a0 (n : Int) == 46) && decide ((rest.size : Int) ≤ 6))
def accountingref03_split.f (k : Nat) (a0 : ByteArray) : Option (ByteArray × ByteArray × Bool) :=
 if a0.size ≤ 140737488351232 then (accountingref03_digits.f k a0).bind fun d =>
  if 0 ≤ d ∧ d ≤ (a0.size : Int) then
   (if d = 0 then some (⟨#[]⟩, ⟨#[]⟩, false) else if 1 < d ∧ bt a0 0 = 48 then some (⟨#[]⟩, ⟨#[]⟩, false) else
   if d = (a0.size : Int) then (accountingref03_trim.f k a0).bind fun t => some (t, ⟨#[49]⟩, true) else accountingref03_split.g k a0 (a0.extract (d.toNat + 1) a0.size) d.toNat)
  else none
 else none
theorem accountingref03_split.mono : ∀ a0 k, LeO (accountingref03_split.f k a0) (accountingref03_split.f (k + 1) a0) := fun a0 k => by
 unfold accountingref03_split.f accountingref03_split.g
 exact LeO.ite (LeO.bind (accountingref03_digits.mono _ _) fun _ => LeO.ite (LeO.ite (LeO.refl _) (LeO.ite (LeO.refl _) (LeO.ite (LeO.bind (accountingref03_trim.mono _ _) fun _ => LeO.refl _)
  (LeO.ite (LeO.refl _) (LeO.bind (accountingref03_digits.mono _ _) fun _ => LeO.ite (LeO.refl _) (LeO.ite (LeO.bind (accountingref03_trim.mono _ _) fun _ => LeO.refl _) (LeO.bind (accountingref03_trim.mono _ _) fun _ => LeO.refl _))))))) (LeO.refl _)) (LeO.refl _)
set_option maxHeartbeats 6400000 in
set_option maxRecDepth 100000 in
theorem accountingref03_split.calls (k : Nat) (a0 : ByteArray) (r1 r2 : ByteArray) (r3 : Bool) (w : World) (h : accountingref03_split.f k a0 = some (r1, r2, r3)) :
  Calls Try.prog 44 #[.string a0] w fun e w' => e = .returned (.tuple #[.string r1, .string r2, .bool r3]) ∧ Drawn0 w w' := by
 have HPost : ∀ W, Drawn0 w W → (fun (e : Ending) (w' : World) => e = .returned (.tuple #[.string r1, .string r2, .bool r3]) ∧ Drawn0 w w') (.returned (.tuple #[.string r1, .string r2, .bool r3])) W := fun W hW => ⟨rfl, hW⟩
 generalize (fun (e : Ending) (w' : World) => e = .returned (.tuple #[.string r1, .string r2, .bool r3]) ∧ Drawn0 w w') = Post at HPost ⊢
 have HP := Aside0.mk HPost
 clear HPost
 unfold accountingref03_split.f at h
 split at h
 case isFalse => cases h
 rename_i hs
 replace h := Option.bind_eq_some_iff.mp h
 obtain ⟨d, hd, h⟩ := h
 have HD := Aside0.mk (fun W => accountingref03_digits.calls k a0 d W hd)
 clear hd
 split at h
 case isFalse => cases h
 rename_i hb
 obtain ⟨hb0, hb1⟩ := hb
 obtain ⟨n, rfl⟩ := Int.eq_ofNat_of_zero_le hb0
 have hn : n ≤ a0.size := by omega
 clear hb0 hb1
 simp only [Int.toNat_natCast] at h
 by_cases h0 : n = 0
 ·subst h0
  rw [if_pos (by rfl)] at h
  simp only [Option.some.injEq, Prod.mk.injEq] at h
  obtain ⟨rfl, rfl, rfl⟩ := h
  go_enter Try.func44, Try.ntmps44
  go_wp2_with (first | (go_at_call 67; (with_reducible refine (HD.out _).mono ?_); rintro e w' ⟨rfl, nd, rfl⟩))
  go_ret3
  exact HP.out _ q10
 have hn0 : 1 ≤ n := by omega
 have z0 : (((n : Nat) : Int) == 0) = false := by simp; omega
 have hlt0 : 0 < a0.size := by omega
 rw [if_neg (by omega)] at h
 have hbt0 : bt a0 0 = (a0[0].toNat : Int) := (bt_at a0 0 hlt0).symm
 rw [hbt0] at h
 clear hbt0 h0
 by_cases h12 : 1 < n ∧ (a0[0].toNat : Int) = 48
 ·obtain ⟨h1, h2⟩ := h12
  rw [if_pos ⟨by omega, h2⟩] at h
  simp only [Option.some.injEq, Prod.mk.injEq] at h
  obtain ⟨rfl, rfl, rfl⟩ := h
  have h2b : ((a0[0].toNat : Int) == 48) = true := beq_iff_eq.mpr h2
  clear h2
  go_enter Try.func44, Try.ntmps44
  go_wp2_with fail
  refine (HD.out _).mono ?_
  rintro e w' ⟨rfl, nd, rfl⟩
  go_wp2_with fail
  go_ret3
  exact HP.out _ q10
 have h12' : 1 < n → ((a0[0].toNat : Int) == 48) = false := fun h1 => beq_eq_false_iff_ne.mpr fun h2 => h12 ⟨h1, h2⟩
 rw [if_neg (fun hh => h12 ⟨by omega, hh.2⟩)] at h
 have H12 := Aside0.mk h12'
 clear h12 h12'
 by_cases hlt : n = a0.size
 ·subst hlt
  rw [if_pos rfl] at h
  replace h := Option.bind_eq_some_iff.mp h
  obtain ⟨t, ht, h⟩ := h
  have HT := Aside0.mk (fun W => accountingref03_trim.calls k a0 t W ht)
  clear ht
  simp only [Option.some.injEq, Prod.mk.injEq] at h
  obtain ⟨rfl, rfl, rfl⟩ := h
  by_cases h1 : 1 < a0.size
  ·have h2b := H12.out h1
   clear H12
   go_enter Try.func44, Try.ntmps44
   go_wp2_with (first | (go_at_call 67; (with_reducible refine (HD.out _).mono ?_); rintro e w' ⟨rfl, nd, rfl⟩) | (go_at_call 68; (with_reducible refine (HT.out _).mono ?_); rintro e w' ⟨rfl, nd, rfl⟩))
   go_ret3
   exact HP.out _ q10
  ·clear H12
   have h1b : (decide ((1 : Int) < (a0.size : Int))) = false := by simp; omega
   go_enter Try.func44, Try.ntmps44
   go_wp2_with (first | (go_at_call 67; (with_reducible refine (HD.out _).mono ?_); rintro e w' ⟨rfl, nd, rfl⟩) | (go_at_call 68; (with_reducible refine (HT.out _).mono ?_); rintro e w' ⟨rfl, nd, rfl⟩))
   go_ret3
   exact HP.out _ q10
 ·have hlt' : n < a0.size := by omega
  have hltb : ((n : Int) == (a0.size : Int)) = false := by simp; omega
  rw [if_neg (by omega)] at h
  have hrs : (a0.extract (n + 1) a0.size).size = a0.size - (n + 1) := by simp
  obtain ⟨rest, hrest⟩ : ∃ rest, a0.extract (n + 1) a0.size = rest := ⟨_, rfl⟩
  rw [hrest] at h hrs
  have hbt : bt a0 (n : Int) = (a0[n].toNat : Int) := (bt_at a0 n hlt').symm
  unfold accountingref03_split.g at h
  rw [hbt] at h
  have HR := Aside0.mk hrest
  have HS := Aside0.mk hrs
  have HL := Aside0.mk (show rest.size ≤ 140737488351232 by omega)
  clear hrs hrest hbt hlt
  obtain ⟨c, hc⟩ : ∃ c, a0[n] = c := ⟨_, rfl⟩
  rw [hc] at h
  have HC := Aside0.mk hc
  clear hc
  by_cases h1 : 1 < n
  ·have h2b := H12.out h1
   clear H12
   by_cases hr0 : rest.size = 0
   ·rw [if_pos hr0] at h
    simp only [Option.some.injEq, Prod.mk.injEq] at h
    obtain ⟨rfl, rfl, rfl⟩ := h
    have hr1 : (rest.toList.isEmpty) = true := by rw [List.isEmpty_iff]; exact toList_nil hr0
    clear hr0
    go_enter Try.func44, Try.ntmps44
    go_wp2_with (first | (go_at_call 67; (with_reducible refine (HD.out _).mono ?_); rintro e w' ⟨rfl, nd, rfl⟩) | (go_at_call 67; (with_reducible refine (HM.out _).mono ?_); rintro e w' ⟨rfl, nd, rfl⟩) | (go_at_call 68; (with_reducible refine (HT.out _).mono ?_); rintro e w' ⟨rfl, nd, rfl⟩))
    go_quiet (fail)
    rw [HR.out]
    go_wp2_with fail
    go_ret3
    exact HP.out _ q10
   rw [if_neg hr0] at h
   replace h := Option.bind_eq_some_iff.mp h
   obtain ⟨m, hm, h⟩ := h
   have HM := Aside0.mk (fun W => accountingref03_digits.calls k rest m W hm)
   clear hm
   have hr1 : (rest.toList.isEmpty) = false := by rw [← Bool.not_eq_true, List.isEmpty_iff]; exact fun e => hr0 (toList_nil' e)
   have hr0' : 0 < rest.size := by omega
   clear hr0
   by_cases hms : m < (rest.size : Int)
   ·rw [if_pos hms] at h
    simp only [Option.some.injEq, Prod.mk.injEq] at h
    obtain ⟨rfl, rfl, rfl⟩ := h
    go_enter Try.func44, Try.ntmps44
    go_wp2_with (first | (go_at_call 67; (with_reducible refine (HD.out _).mono ?_); rintro e w' ⟨rfl, nd, rfl⟩) | (go_at_call 67; (with_reducible refine (HM.out _).mono ?_); rintro e w' ⟨rfl, nd, rfl⟩) | (go_at_call 68; (with_reducible refine (HT.out _).mono ?_); rintro e w' ⟨rfl, nd, rfl⟩))
    go_quiet (fail)
    rw [HR.out]
    go_wp2_with (first | (go_at_call 67; (with_reducible refine (HD.out _).mono ?_); rintro e w' ⟨rfl, nd, rfl⟩) | (go_at_call 67; (with_reducible refine (HM.out _).mono ?_); rintro e w' ⟨rfl, nd, rfl⟩) | (go_at_call 68; (with_reducible refine (HT.out _).mono ?_); rintro e w' ⟨rfl, nd, rfl⟩))
    go_ret3
    exact HP.out _ q10
   rw [if_neg hms] at h
   have hmsb : decide (m < (rest.size : Int)) = false := decide_eq_false hms
   clear hms
   by_cases hsl : (c.toNat : Int) = 47
   ·rw [if_pos hsl] at h
    have hslb : ((c.toNat : Int) == 47) = true := beq_iff_eq.mpr hsl
    clear hsl
    replace h := Option.bind_eq_some_iff.mp h
    obtain ⟨t, ht, h⟩ := h
    have HT := Aside0.mk (fun W => accountingref03_trim.calls k (a0.extract 0 n) t W ht)
    clear ht
    rw [show bt rest 0 = (rest[0].toNat : Int) from (bt_at rest 0 hr0').symm] at h
    simp only [Option.some.injEq, Prod.mk.injEq] at h
    obtain ⟨rfl, rfl, rfl⟩ := h
    go_enter Try.func44, Try.ntmps44
    go_wp2_with (first | (go_at_call 67; (with_reducible refine (HD.out _).mono ?_); rintro e w' ⟨rfl, nd, rfl⟩) | (go_at_call 67; (with_reducible refine (HM.out _).mono ?_); rintro e w' ⟨rfl, nd, rfl⟩) | (go_at_call 68; (with_reducible refine (HT.out _).mono ?_); rintro e w' ⟨rfl, nd, rfl⟩))
    go_quiet (fail)
    rw [HR.out, HC.out]
    go_wp2_with (first | (go_at_call 67; (with_reducible refine (HD.out _).mono ?_); rintro e w' ⟨rfl, nd, rfl⟩) | (go_at_call 67; (with_reducible refine (HM.out _).mono ?_); rintro e w' ⟨rfl, nd, rfl⟩) | (go_at_call 68; (with_reducible refine (HT.out _).mono ?_); rintro e w' ⟨rfl, nd, rfl⟩))
    go_quiet ((exact quiet_add ((HT.out _).mono fun e w' h => ⟨h.1, h.2.out⟩)))
    go_wp2_with (first | (go_at_call 67; (with_reducible refine (HD.out _).mono ?_); rintro e w' ⟨rfl, nd, rfl⟩) | (go_at_call 67; (with_reducible refine (HM.out _).mono ?_); rintro e w' ⟨rfl, nd, rfl⟩) | (go_at_call 68; (with_reducible refine (HT.out _).mono ?_); rintro e w' ⟨rfl, nd, rfl⟩))
    go_ret3
    exact HP.out _ q10
   rw [if_neg hsl] at h
   have hslb : ((c.toNat : Int) == 47) = false := beq_eq_false_iff_ne.mpr hsl
   clear hsl
   replace h := Option.bind_eq_some_iff.mp h
   obtain ⟨t, ht, h⟩ := h
   have HT := Aside0.mk (fun W => accountingref03_trim.calls k (a0.extract 0 n ++ rest) t W ht)
   clear ht
   simp only [Option.some.injEq, Prod.mk.injEq] at h
   obtain ⟨rfl, rfl, rfl⟩ := h
   have hcat : (9223372036854775807 < n + rest.size) = False := by have := HS.out; simp; omega
   by_cases h6 : 6 < rest.size
   ·have h6b : decide ((rest.size : Int) ≤ 6) = false := by simp; omega
    have h6c : (6 : Int) < (rest.size : Int) := by omega
    rw [show min rest.size 6 = 6 by omega, h6b] at HP
    replace HP : Aside0 (∀ W, Drawn0 w W → Post (.returned (.tuple #[.string t, .string ((⟨#[49, 48, 48, 48, 48, 48, 48]⟩ : ByteArray).extract 0 7), .bool (((c.toNat : Int) == 46) && false)])) W) := HP
    rw [Bool.and_false] at HP
    by_cases hpt : (c.toNat : Int) = 46
    ·have hptb : ((c.toNat : Int) == 46) = true := beq_iff_eq.mpr hpt
     clear hpt
     go_enter Try.func44, Try.ntmps44
     go_wp2_with (first | (go_at_call 67; (with_reducible refine (HD.out _).mono ?_); rintro e w' ⟨rfl, nd, rfl⟩) | (go_at_call 67; (with_reducible refine (HM.out _).mono ?_); rintro e w' ⟨rfl, nd, rfl⟩) | (go_at_call 68; (with_reducible refine (HT.out _).mono ?_); rintro e w' ⟨rfl, nd, rfl⟩))
     go_quiet (fail)
     rw [HR.out, HC.out]
     go_wp2_with (first | (go_at_call 67; (with_reducible refine (HD.out _).mono ?_); rintro e w' ⟨rfl, nd, rfl⟩) | (go_at_call 67; (with_reducible refine (HM.out _).mono ?_); rintro e w' ⟨rfl, nd, rfl⟩) | (go_at_call 68; (with_reducible refine (HT.out _).mono ?_); rintro e w' ⟨rfl, nd, rfl⟩))
     go_quiet ((exact quiet_add ((HT.out _).mono fun e w' h => ⟨h.1, h.2.out⟩)))
     go_wp2_with (first | (go_at_call 67; (with_reducible refine (HD.out _).mono ?_); rintro e w' ⟨rfl, nd, rfl⟩) | (go_at_call 67; (with_reducible refine (HM.out _).mono ?_); rintro e w' ⟨rfl, nd, rfl⟩) | (go_at_call 68; (with_reducible refine (HT.out _).mono ?_); rintro e w' ⟨rfl, nd, rfl⟩))
     go_ret3
     exact HP.out _ q10
    ·have hptb : ((c.toNat : Int) == 46) = false := beq_eq_false_iff_ne.mpr hpt
     clear hpt
     go_enter Try.func44, Try.ntmps44
     go_wp2_with (first | (go_at_call 67; (with_reducible refine (HD.out _).mono ?_); rintro e w' ⟨rfl, nd, rfl⟩) | (go_at_call 67; (with_reducible refine (HM.out _).mono ?_); rintro e w' ⟨rfl, nd, rfl⟩) | (go_at_call 68; (with_reducible refine (HT.out _).mono ?_); rintro e w' ⟨rfl, nd, rfl⟩))
     go_quiet (fail)
     rw [HR.out, HC.out]
     go_wp2_with (first | (go_at_call 67; (with_reducible refine (HD.out _).mono ?_); rintro e w' ⟨rfl, nd, rfl⟩) | (go_at_call 67; (with_reducible refine (HM.out _).mono ?_); rintro e w' ⟨rfl, nd, rfl⟩) | (go_at_call 68; (with_reducible refine (HT.out _).mono ?_); rintro e w' ⟨rfl, nd, rfl⟩))
     go_quiet ((exact quiet_add ((HT.out _).mono fun e w' h => ⟨h.1, h.2.out⟩)))
     go_wp2_with (first | (go_at_call 67; (with_reducible refine (HD.out _).mono ?_); rintro e w' ⟨rfl, nd, rfl⟩) | (go_at_call 67; (with_reducible refine (HM.out _).mono ?_); rintro e w' ⟨rfl, nd, rfl⟩) | (go_at_call 68; (with_reducible refine (HT.out _).mono ?_); rintro e w' ⟨rfl, nd, rfl⟩))
     go_ret3
     exact HP.out _ q10
   ·have h6b : decide ((rest.size : Int) ≤ 6) = true := by simp; omega
    have h6c : ¬ (6 : Int) < (rest.size : Int) := by omega
    rw [show min rest.size 6 = rest.size by omega, h6b, Bool.and_true] at HP
    have hm7 : rest.size ≤ 6 := by omega
    have hm8 : 0 ≤ 1 + (rest.size : Int) := by omega
    have hm9 : 1 + (rest.size : Int) ≤ 7 := by omega
    have hmw : IntKind.i64.wrap (1 + (rest.size : Int)) = 1 + (rest.size : Int) := IntWalk.i64_in _ (by omega)
    have hmt : (1 + (rest.size : Int)).toNat = 1 + rest.size := by omega
    clear h6
    by_cases hpt : (c.toNat : Int) = 46
    ·have hptb : ((c.toNat : Int) == 46) = true := beq_iff_eq.mpr hpt
     rw [hptb] at HP
     clear hpt
     go_enter Try.func44, Try.ntmps44
     go_wp2_with (first | (go_at_call 67; (with_reducible refine (HD.out _).mono ?_); rintro e w' ⟨rfl, nd, rfl⟩) | (go_at_call 67; (with_reducible refine (HM.out _).mono ?_); rintro e w' ⟨rfl, nd, rfl⟩) | (go_at_call 68; (with_reducible refine (HT.out _).mono ?_); rintro e w' ⟨rfl, nd, rfl⟩))
     go_quiet (fail)
     rw [HR.out, HC.out]
     go_wp2_with (first | (go_at_call 67; (with_reducible refine (HD.out _).mono ?_); rintro e w' ⟨rfl, nd, rfl⟩) | (go_at_call 67; (with_reducible refine (HM.out _).mono ?_); rintro e w' ⟨rfl, nd, rfl⟩) | (go_at_call 68; (with_reducible refine (HT.out _).mono ?_); rintro e w' ⟨rfl, nd, rfl⟩))
     go_quiet ((exact quiet_add ((HT.out _).mono fun e w' h => ⟨h.1, h.2.out⟩)))
     go_wp2_with (first | (go_at_call 67; (with_reducible refine (HD.out _).mono ?_); rintro e w' ⟨rfl, nd, rfl⟩) | (go_at_call 67; (with_reducible refine (HM.out _).mono ?_); rintro e w' ⟨rfl, nd, rfl⟩) | (go_at_call 68; (with_reducible refine (HT.out _).mono ?_); rintro e w' ⟨rfl, nd, rfl⟩))
     go_ret3
     exact HP.out _ q10
    ·have hptb : ((c.toNat : Int) == 46) = false := beq_eq_false_iff_ne.mpr hpt
     rw [hptb] at HP
     clear hpt
     go_enter Try.func44, Try.ntmps44
     go_wp2_with (first | (go_at_call 67; (with_reducible refine (HD.out _).mono ?_); rintro e w' ⟨rfl, nd, rfl⟩) | (go_at_call 67; (with_reducible refine (HM.out _).mono ?_); rintro e w' ⟨rfl, nd, rfl⟩) | (go_at_call 68; (with_reducible refine (HT.out _).mono ?_); rintro e w' ⟨rfl, nd, rfl⟩))
     go_quiet (fail)
     rw [HR.out, HC.out]
     go_wp2_with (first | (go_at_call 67; (with_reducible refine (HD.out _).mono ?_); rintro e w' ⟨rfl, nd, rfl⟩) | (go_at_call 67; (with_reducible refine (HM.out _).mono ?_); rintro e w' ⟨rfl, nd, rfl⟩) | (go_at_call 68; (with_reducible refine (HT.out _).mono ?_); rintro e w' ⟨rfl, nd, rfl⟩))
     go_quiet ((exact quiet_add ((HT.out _).mono fun e w' h => ⟨h.1, h.2.out⟩)))
     go_wp2_with (first | (go_at_call 67; (with_reducible refine (HD.out _).mono ?_); rintro e w' ⟨rfl, nd, rfl⟩) | (go_at_call 67; (with_reducible refine (HM.out _).mono ?_); rintro e w' ⟨rfl, nd, rfl⟩) | (go_at_call 68; (with_reducible refine (HT.out _).mono ?_); rintro e w' ⟨rfl, nd, rfl⟩))
     go_ret3
     exact HP.out _ q10
  ·have h1b : decide ((1 : Int) < (n : Int)) = false := by simp; omega
   clear H12
   by_cases hr0 : rest.size = 0
   ·rw [if_pos hr0] at h
    simp only [Option.some.injEq, Prod.mk.injEq] at h
    obtain ⟨rfl, rfl, rfl⟩ := h
    have hr1 : (rest.toList.isEmpty) = true := by rw [List.isEmpty_iff]; exact toList_nil hr0
    clear hr0
    go_enter Try.func44, Try.ntmps44
    go_wp2_with (first | (go_at_call 67; (with_reducible refine (HD.out _).mono ?_); rintro e w' ⟨rfl, nd, rfl⟩) | (go_at_call 67; (with_reducible refine (HM.out _).mono ?_); rintro e w' ⟨rfl, nd, rfl⟩) | (go_at_call 68; (with_reducible refine (HT.out _).mono ?_); rintro e w' ⟨rfl, nd, rfl⟩))
    go_quiet (fail)
    rw [HR.out]
    go_wp2_with fail
    go_ret3
    exact HP.out _ q10
   rw [if_neg hr0] at h
   replace h := Option.bind_eq_some_iff.mp h
   obtain ⟨m, hm, h⟩ := h
   have HM := Aside0.mk (fun W => accountingref03_digits.calls k rest m W hm)
   clear hm
   have hr1 : (rest.toList.isEmpty) = false := by rw [← Bool.not_eq_true, List.isEmpty_iff]; exact fun e => hr0 (toList_nil' e)
   have hr0' : 0 < rest.size := by omega
   clear hr0
   by_cases hms : m < (rest.size : Int)
   ·rw [if_pos hms] at h
    simp only [Option.some.injEq, Prod.mk.injEq] at h
    obtain ⟨rfl, rfl, rfl⟩ := h
    go_enter Try.func44, Try.ntmps44
    go_wp2_with (first | (go_at_call 67; (with_reducible refine (HD.out _).mono ?_); rintro e w' ⟨rfl, nd, rfl⟩) | (go_at_call 67; (with_reducible refine (HM.out _).mono ?_); rintro e w' ⟨rfl, nd, rfl⟩) | (go_at_call 68; (with_reducible refine (HT.out _).mono ?_); rintro e w' ⟨rfl, nd, rfl⟩))
    go_quiet (fail)
    rw [HR.out]
    go_wp2_with (first | (go_at_call 67; (with_reducible refine (HD.out _).mono ?_); rintro e w' ⟨rfl, nd, rfl⟩) | (go_at_call 67; (with_reducible refine (HM.out _).mono ?_); rintro e w' ⟨rfl, nd, rfl⟩) | (go_at_call 68; (with_reducible refine (HT.out _).mono ?_); rintro e w' ⟨rfl, nd, rfl⟩))
    go_ret3
    exact HP.out _ q10
   rw [if_neg hms] at h
   have hmsb : decide (m < (rest.size : Int)) = false := decide_eq_false hms
   clear hms
   by_cases hsl : (c.toNat : Int) = 47
   ·rw [if_pos hsl] at h
    have hslb : ((c.toNat : Int) == 47) = true := beq_iff_eq.mpr hsl
    clear hsl
    replace h := Option.bind_eq_some_iff.mp h
    obtain ⟨t, ht, h⟩ := h
    have HT := Aside0.mk (fun W => accountingref03_trim.calls k (a0.extract 0 n) t W ht)
    clear ht
    rw [show bt rest 0 = (rest[0].toNat : Int) from (bt_at rest 0 hr0').symm] at h
    simp only [Option.some.injEq, Prod.mk.injEq] at h
    obtain ⟨rfl, rfl, rfl⟩ := h
    go_enter Try.func44, Try.ntmps44
    go_wp2_with (first | (go_at_call 67; (with_reducible refine (HD.out _).mono ?_); rintro e w' ⟨rfl, nd, rfl⟩) | (go_at_call 67; (with_reducible refine (HM.out _).mono ?_); rintro e w' ⟨rfl, nd, rfl⟩) | (go_at_call 68; (with_reducible refine (HT.out _).mono ?_); rintro e w' ⟨rfl, nd, rfl⟩))
    go_quiet (fail)
    rw [HR.out, HC.out]
    go_wp2_with (first | (go_at_call 67; (with_reducible refine (HD.out _).mono ?_); rintro e w' ⟨rfl, nd, rfl⟩) | (go_at_call 67; (with_reducible refine (HM.out _).mono ?_); rintro e w' ⟨rfl, nd, rfl⟩) | (go_at_call 68; (with_reducible refine (HT.out _).mono ?_); rintro e w' ⟨rfl, nd, rfl⟩))
    go_quiet ((exact quiet_add ((HT.out _).mono fun e w' h => ⟨h.1, h.2.out⟩)))
    go_wp2_with (first | (go_at_call 67; (with_reducible refine (HD.out _).mono ?_); rintro e w' ⟨rfl, nd, rfl⟩) | (go_at_call 67; (with_reducible refine (HM.out _).mono ?_); rintro e w' ⟨rfl, nd, rfl⟩) | (go_at_call 68; (with_reducible refine (HT.out _).mono ?_); rintro e w' ⟨rfl, nd, rfl⟩))
    go_ret3
    exact HP.out _ q10
   rw [if_neg hsl] at h
   have hslb : ((c.toNat : Int) == 47) = false := beq_eq_false_iff_ne.mpr hsl
   clear hsl
   replace h := Option.bind_eq_some_iff.mp h
   obtain ⟨t, ht, h⟩ := h
   have HT := Aside0.mk (fun W => accountingref03_trim.calls k (a0.extract 0 n ++ rest) t W ht)
   clear ht
   simp only [Option.some.injEq, Prod.mk.injEq] at h
   obtain ⟨rfl, rfl, rfl⟩ := h
   have hcat : (9223372036854775807 < n + rest.size) = False := by have := HS.out; simp; omega
   by_cases h6 : 6 < rest.size
   ·have h6b : decide ((rest.size : Int) ≤ 6) = false := by simp; omega
    have h6c : (6 : Int) < (rest.size : Int) := by omega
    rw [show min rest.size 6 = 6 by omega, h6b] at HP
    replace HP : Aside0 (∀ W, Drawn0 w W → Post (.returned (.tuple #[.string t, .string ((⟨#[49, 48, 48, 48, 48, 48, 48]⟩ : ByteArray).extract 0 7), .bool (((c.toNat : Int) == 46) && false)])) W) := HP
    rw [Bool.and_false] at HP
    by_cases hpt : (c.toNat : Int) = 46
    ·have hptb : ((c.toNat : Int) == 46) = true := beq_iff_eq.mpr hpt
     clear hpt
     go_enter Try.func44, Try.ntmps44
     go_wp2_with (first | (go_at_call 67; (with_reducible refine (HD.out _).mono ?_); rintro e w' ⟨rfl, nd, rfl⟩) | (go_at_call 67; (with_reducible refine (HM.out _).mono ?_); rintro e w' ⟨rfl, nd, rfl⟩) | (go_at_call 68; (with_reducible refine (HT.out _).mono ?_); rintro e w' ⟨rfl, nd, rfl⟩))
     go_quiet (fail)
     rw [HR.out, HC.out]
     go_wp2_with (first | (go_at_call 67; (with_reducible refine (HD.out _).mono ?_); rintro e w' ⟨rfl, nd, rfl⟩) | (go_at_call 67; (with_reducible refine (HM.out _).mono ?_); rintro e w' ⟨rfl, nd, rfl⟩) | (go_at_call 68; (with_reducible refine (HT.out _).mono ?_); rintro e w' ⟨rfl, nd, rfl⟩))
     go_quiet ((exact quiet_add ((HT.out _).mono fun e w' h => ⟨h.1, h.2.out⟩)))
     go_wp2_with (first | (go_at_call 67; (with_reducible refine (HD.out _).mono ?_); rintro e w' ⟨rfl, nd, rfl⟩) | (go_at_call 67; (with_reducible refine (HM.out _).mono ?_); rintro e w' ⟨rfl, nd, rfl⟩) | (go_at_call 68; (with_reducible refine (HT.out _).mono ?_); rintro e w' ⟨rfl, nd, rfl⟩))
     go_ret3
     exact HP.out _ q10
    ·have hptb : ((c.toNat : Int) == 46) = false := beq_eq_false_iff_ne.mpr hpt
     clear hpt
     go_enter Try.func44, Try.ntmps44
     go_wp2_with (first | (go_at_call 67; (with_reducible refine (HD.out _).mono ?_); rintro e w' ⟨rfl, nd, rfl⟩) | (go_at_call 67; (with_reducible refine (HM.out _).mono ?_); rintro e w' ⟨rfl, nd, rfl⟩) | (go_at_call 68; (with_reducible refine (HT.out _).mono ?_); rintro e w' ⟨rfl, nd, rfl⟩))
     go_quiet (fail)
     rw [HR.out, HC.out]
     go_wp2_with (first | (go_at_call 67; (with_reducible refine (HD.out _).mono ?_); rintro e w' ⟨rfl, nd, rfl⟩) | (go_at_call 67; (with_reducible refine (HM.out _).mono ?_); rintro e w' ⟨rfl, nd, rfl⟩) | (go_at_call 68; (with_reducible refine (HT.out _).mono ?_); rintro e w' ⟨rfl, nd, rfl⟩))
     go_quiet ((exact quiet_add ((HT.out _).mono fun e w' h => ⟨h.1, h.2.out⟩)))
     go_wp2_with (first | (go_at_call 67; (with_reducible refine (HD.out _).mono ?_); rintro e w' ⟨rfl, nd, rfl⟩) | (go_at_call 67; (with_reducible refine (HM.out _).mono ?_); rintro e w' ⟨rfl, nd, rfl⟩) | (go_at_call 68; (with_reducible refine (HT.out _).mono ?_); rintro e w' ⟨rfl, nd, rfl⟩))
     go_ret3
     exact HP.out _ q10
   ·have h6b : decide ((rest.size : Int) ≤ 6) = true := by simp; omega
    have h6c : ¬ (6 : Int) < (rest.size : Int) := by omega
    rw [show min rest.size 6 = rest.size by omega, h6b, Bool.and_true] at HP
    have hm7 : rest.size ≤ 6 := by omega
    have hm8 : 0 ≤ 1 + (rest.size : Int) := by omega
    have hm9 : 1 + (rest.size : Int) ≤ 7 := by omega
    have hmw : IntKind.i64.wrap (1 + (rest.size : Int)) = 1 + (rest.size : Int) := IntWalk.i64_in _ (by omega)
    have hmt : (1 + (rest.size : Int)).toNat = 1 + rest.size := by omega
    clear h6
    by_cases hpt : (c.toNat : Int) = 46
    ·have hptb : ((c.toNat : Int) == 46) = true := beq_iff_eq.mpr hpt
     rw [hptb] at HP
     clear hpt
     go_enter Try.func44, Try.ntmps44
     go_wp2_with (first | (go_at_call 67; (with_reducible refine (HD.out _).mono ?_); rintro e w' ⟨rfl, nd, rfl⟩) | (go_at_call 67; (with_reducible refine (HM.out _).mono ?_); rintro e w' ⟨rfl, nd, rfl⟩) | (go_at_call 68; (with_reducible refine (HT.out _).mono ?_); rintro e w' ⟨rfl, nd, rfl⟩))
     go_quiet (fail)
     rw [HR.out, HC.out]
     go_wp2_with (first | (go_at_call 67; (with_reducible refine (HD.out _).mono ?_); rintro e w' ⟨rfl, nd, rfl⟩) | (go_at_call 67; (with_reducible refine (HM.out _).mono ?_); rintro e w' ⟨rfl, nd, rfl⟩) | (go_at_call 68; (with_reducible refine (HT.out _).mono ?_); rintro e w' ⟨rfl, nd, rfl⟩))
     go_quiet ((exact quiet_add ((HT.out _).mono fun e w' h => ⟨h.1, h.2.out⟩)))
     go_wp2_with (first | (go_at_call 67; (with_reducible refine (HD.out _).mono ?_); rintro e w' ⟨rfl, nd, rfl⟩) | (go_at_call 67; (with_reducible refine (HM.out _).mono ?_); rintro e w' ⟨rfl, nd, rfl⟩) | (go_at_call 68; (with_reducible refine (HT.out _).mono ?_); rintro e w' ⟨rfl, nd, rfl⟩))
     go_ret3
     exact HP.out _ q10
    ·have hptb : ((c.toNat : Int) == 46) = false := beq_eq_false_iff_ne.mpr hpt
     rw [hptb] at HP
     clear hpt
     go_enter Try.func44, Try.ntmps44
     go_wp2_with (first | (go_at_call 67; (with_reducible refine (HD.out _).mono ?_); rintro e w' ⟨rfl, nd, rfl⟩) | (go_at_call 67; (with_reducible refine (HM.out _).mono ?_); rintro e w' ⟨rfl, nd, rfl⟩) | (go_at_call 68; (with_reducible refine (HT.out _).mono ?_); rintro e w' ⟨rfl, nd, rfl⟩))
     go_quiet (fail)
     rw [HR.out, HC.out]
     go_wp2_with (first | (go_at_call 67; (with_reducible refine (HD.out _).mono ?_); rintro e w' ⟨rfl, nd, rfl⟩) | (go_at_call 67; (with_reducible refine (HM.out _).mono ?_); rintro e w' ⟨rfl, nd, rfl⟩) | (go_at_call 68; (with_reducible refine (HT.out _).mono ?_); rintro e w' ⟨rfl, nd, rfl⟩))
     go_quiet ((exact quiet_add ((HT.out _).mono fun e w' h => ⟨h.1, h.2.out⟩)))
     go_wp2_with (first | (go_at_call 67; (with_reducible refine (HD.out _).mono ?_); rintro e w' ⟨rfl, nd, rfl⟩) | (go_at_call 67; (with_reducible refine (HM.out _).mono ?_); rintro e w' ⟨rfl, nd, rfl⟩) | (go_at_call 68; (with_reducible refine (HT.out _).mono ?_); rintro e w' ⟨rfl, nd, rfl⟩))
     go_ret3
     exact HP.out _ q10

/-! ### accountingref03_less: function 69 -/
def accountingref03_less.f (a0 : ByteArray) (a1 : ByteArray) : Option (Bool) := if (a0.size : Int) < (a1.size : Int) then (some true) else (if (a0.size : Int) = (a1.size : Int) then (some (Op.bytesLess a0.toList a1.toList)) else (some false))
set_option maxHeartbeats 8000000 in
set_option maxRecDepth 100000 in
theorem accountingref03_less.calls (a0 : ByteArray) (a1 : ByteArray) (r : Bool) (w : World) (h : accountingref03_less.f a0 a1 = some r) :
  Calls Try.prog 69 #[.string a0, .string a1] w fun e w' => e = .returned (.bool r) ∧ Drawn0 w w' := by
 have H : (if (a0.size : Int) < (a1.size : Int) then (some true) else (if (a0.size : Int) = (a1.size : Int) then (some (Op.bytesLess a0.toList a1.toList)) else (some false))) = some r := h
 clear h
 by_cases c3 : (a0.size : Int) < (a1.size : Int)
 ·rw [if_pos c3] at H
  have c3b0 : decide ((a0.size : Int) < (a1.size : Int)) = true := decide_eq_true c3
  have c3b1 : decide (a0.size < a1.size) = true := decide_eq_true (Int.ofNat_lt.mp c3)
  clear c3
  obtain rfl := Option.some.inj H
  go_enter Try.func69, Try.ntmps69
  go_wp2
  go_ret
  exact ⟨q9, q10⟩
 ·rw [if_neg c3] at H
  have c3b0 : decide ((a0.size : Int) < (a1.size : Int)) = false := decide_eq_false c3
  have c3b1 : decide (a0.size < a1.size) = false := decide_eq_false (fun h => c3 (Int.ofNat_lt.mpr h))
  clear c3
  by_cases c4 : (a0.size : Int) = (a1.size : Int)
  ·rw [if_pos c4] at H
   have c4b0 : ((a0.size : Int) == (a1.size : Int)) = true := beq_iff_eq.mpr c4
   have c4b1 : ((a0.size : Int) != (a1.size : Int)) = false := bne_eq_false_iff_eq.mpr c4
   have c4b2 : (a0.size == a1.size) = true := by first | simpa using c4 | (simp at c4 ⊢; omega)
   clear c4
   obtain rfl := Option.some.inj H
   go_enter Try.func69, Try.ntmps69
   go_wp2
   go_ret
   exact ⟨q9, q10⟩
  ·rw [if_neg c4] at H
   have c4b0 : ((a0.size : Int) == (a1.size : Int)) = false := beq_eq_false_iff_ne.mpr c4
   have c4b1 : ((a0.size : Int) != (a1.size : Int)) = true := bne_iff_ne.mpr c4
   have c4b2 : (a0.size == a1.size) = false := by first | simpa using c4 | (simp at c4 ⊢; omega)
   obtain rfl := Option.some.inj H
   go_enter Try.func69, Try.ntmps69
   go_wp2
   go_ret
   exact ⟨q9, q10⟩

end Go.Proofs.Ytoenhagbgfkihaa.A
