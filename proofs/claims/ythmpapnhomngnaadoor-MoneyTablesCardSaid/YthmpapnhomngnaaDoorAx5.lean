-- By gen.py, a program of this session's, over the print's forms: not the print's own text.
import Derived.Test.YthmpapnhomngnaaDoorAx0
import Derived.Test.YthmpapnhomngnaaDoorQ
import Derived.Test.YthmpapnhomngnaaDoorAx1
import Derived.Test.YthmpapnhomngnaaDoorAx2
import Derived.Test.YthmpapnhomngnaaDoorAx4
namespace Go.Proofs.YthmpapnhomngnaaDoor.A
open Go.RowKit Go.Proofs.YthmpapnhomngnaaDoor.B Go.Proofs.YthmpapnhomngnaaDoorW.PrintWords Go.Proofs.YthmpapnhomngnaaDoorW.PrintLast Go.Proofs.YthmpapnhomngnaaDoorW.PrintMore
attribute [local go_sem] max2_int min2_int max_two min_two max_three min_three max_four min_four   -- for this text's walks alone
set_option linter.unusedVariables false
set_option linter.unusedSimpArgs false

/-! ### num_Sub: function 47 -/
def num_Sub.f (a0 : Int) (a1 : Int) : Option (Int × Bool) := if ((decide ((wrap64 (a0 - a1)) < a0)) != (decide (a1 > 0))) = true then (if a1 = 0 then (some (wrap64 (a0 - a1), true)) else (some (0, false))) else (some (wrap64 (a0 - a1), true))
set_option maxHeartbeats 8000000 in
set_option maxRecDepth 100000 in
theorem num_Sub.calls (a0 : Int) (a1 : Int) (r1 : Int) (r2 : Bool) (w : World) (h : num_Sub.f a0 a1 = some (r1, r2)) :
  Calls Tryd.prog 47 #[.int .i64 a0, .int .i64 a1] w fun e w' => e = .returned (.tuple #[.int .i64 r1, .bool r2]) ∧ Drawn0 w w' := by
 have H : (if ((decide ((wrap64 (a0 - a1)) < a0)) != (decide (a1 > 0))) = true then (if a1 = 0 then (some (wrap64 (a0 - a1), true)) else (some (0, false))) else (some (wrap64 (a0 - a1), true))) = some (r1, r2) := h
 clear h
 by_cases c3 : ((decide ((wrap64 (a0 - a1)) < a0)) != (decide (a1 > 0))) = true
 ·rw [if_pos c3] at H
  have c3b0 : ((decide ((wrap64 (a0 - a1)) < a0)) != (decide (a1 > 0))) = true := c3
  (try (have c3b1 : decide ((decide ((wrap64 (a0 - a1)) < a0)) = (decide (a1 > 0))) = false := by simpa using c3))
  (try (have c3b2 : ((decide ((wrap64 (a0 - a1)) < a0)) == (decide (a1 > 0))) = false := by simpa using c3))
  (try (have c3b3 : ¬ ((decide ((wrap64 (a0 - a1)) < a0)) = (decide (a1 > 0))) := by simpa using c3))
  clear c3
  by_cases c4 : a1 = 0
  ·rw [if_pos c4] at H
   have c4b0 : (a1 == 0) = true := beq_iff_eq.mpr c4
   have c4b1 : (a1 != 0) = false := bne_eq_false_iff_eq.mpr c4
   clear c4
   simp only [Option.some.injEq, Prod.mk.injEq] at H
   obtain ⟨rfl, rfl⟩ := H
   go_enter Tryd.func47, Tryd.ntmps47
   go_wp2
   go_ret2
   exact ⟨zq1, zq2⟩
  ·rw [if_neg c4] at H
   have c4b0 : (a1 == 0) = false := beq_eq_false_iff_ne.mpr c4
   have c4b1 : (a1 != 0) = true := bne_iff_ne.mpr c4
   simp only [Option.some.injEq, Prod.mk.injEq] at H
   obtain ⟨rfl, rfl⟩ := H
   go_enter Tryd.func47, Tryd.ntmps47
   go_wp2
   go_ret2
   exact ⟨zq1, zq2⟩
 ·rw [if_neg c3] at H
  have c3b0 : ((decide ((wrap64 (a0 - a1)) < a0)) != (decide (a1 > 0))) = false := by simpa using c3
  (try (have c3b1 : decide ((decide ((wrap64 (a0 - a1)) < a0)) = (decide (a1 > 0))) = true := by simpa using c3))
  (try (have c3b2 : ((decide ((wrap64 (a0 - a1)) < a0)) == (decide (a1 > 0))) = true := by simpa using c3))
  clear c3
  simp only [Option.some.injEq, Prod.mk.injEq] at H
  obtain ⟨rfl, rfl⟩ := H
  go_enter Tryd.func47, Tryd.ntmps47
  go_wp2
  go_ret2
  exact ⟨zq1, zq2⟩

theorem num_Sub_eq (a b : Int) (ha : I64 a) (hb : I64 b) : num_Sub.f a b = some (fit (a - b)) := by
 unfold num_Sub.f
 unfold I64 at ha hb
 have hw : I64 (a - b) → wrap64 (a - b) = a - b := by unfold I64; unfold wrap64; omega
 have hlo : a - b < -9223372036854775808 → wrap64 (a - b) = a - b + 18446744073709551616 := by unfold wrap64; omega
 have hhi : 9223372036854775807 < a - b → wrap64 (a - b) = a - b - 18446744073709551616 := by unfold wrap64; omega
 by_cases h : I64 (a - b)
 ·rw [hw h, fit_yes h]
  by_cases hb0 : b = 0
  ·subst hb0; simp
  ·by_cases hb1 : b > 0
   ·rw [if_neg (by rw [decide_eq_true (show a - b < a by omega), decide_eq_true hb1]; decide)]
   ·rw [if_neg (by rw [decide_eq_false (show ¬ a - b < a by omega), decide_eq_false hb1]; decide)]
 ·rw [fit_no h]
  unfold I64 at h
  by_cases h1 : a - b < -9223372036854775808
  ·rw [hlo h1, if_pos (by rw [decide_eq_false (show ¬ a - b + 18446744073709551616 < a by omega), decide_eq_true (show b > 0 by omega)]; decide), if_neg (by omega)]
  ·rw [hhi (by omega), if_pos (by rw [decide_eq_true (show a - b - 18446744073709551616 < a by omega), decide_eq_false (show ¬ b > 0 by omega)]; decide), if_neg (by omega)]


/-! ### num_Mul: function 48 (by hand) -/
def num_Mul.f (a0 : Int) (a1 : Int) : Option (Int × Bool) := if I64 a0 ∧ I64 a1 then some (fit (a0 * a1)) else none
set_option maxHeartbeats 1600000 in
theorem num_Mul.calls (a0 : Int) (a1 : Int) (r1 : Int) (r2 : Bool) (w : World) (h : num_Mul.f a0 a1 = some (r1, r2)) :
  Calls Tryd.prog 48 #[.int .i64 a0, .int .i64 a1] w fun e w' => e = .returned (.tuple #[.int .i64 r1, .bool r2]) ∧ Drawn0 w w' := by
 unfold num_Mul.f at h
 split at h <;> simp only [Option.some.injEq, reduceCtorEq] at h
 rename_i hb
 have h0 : num_size.f a0 = some (a0.natAbs : Int) := by unfold num_size.f; rw [if_pos hb.1]
 have h1 : num_size.f a1 = some (a1.natAbs : Int) := by unfold num_size.f; rw [if_pos hb.2]
 have h2 : bits_Mul64.f (a0.natAbs : Int) (a1.natAbs : Int) = some (((a0.natAbs * a1.natAbs : Nat) : Int) / 18446744073709551616, ((a0.natAbs * a1.natAbs : Nat) : Int) % 18446744073709551616) := by
  have := hb.1; have := hb.2
  unfold I64 at *
  unfold bits_Mul64.f; rw [if_pos (by omega)]; simp
 obtain ⟨x, hx⟩ : ∃ x, x = ((a0.natAbs * a1.natAbs : Nat) : Int) / 18446744073709551616 := ⟨_, rfl⟩
 obtain ⟨y, hy⟩ : ∃ y, y = ((a0.natAbs * a1.natAbs : Nat) : Int) % 18446744073709551616 := ⟨_, rfl⟩
 rw [← hx, ← hy] at h2
 have key := mul_ways h.symm hx hy
 clear hx hy h
 have H0 := Aside0.mk h0; have H1 := Aside0.mk h1; have H2 := Aside0.mk h2
 clear h0 h1 h2 hb
 obtain ⟨s, hs⟩ : ∃ s, s = (decide (a0 < 0) != decide (a1 < 0)) := ⟨_, rfl⟩
 replace key := key s hs.symm
 by_cases ha : a0 < 0 <;> by_cases hb : a1 < 0 <;> (have hs' : s = _ := hs.trans (by simp only [ha, hb, decide_true, decide_false, bne_self_eq_false, Bool.true_bne, Bool.false_bne, Bool.not_false]; rfl)) <;> subst hs' <;>
  simp only [Bool.false_eq_true, if_false, if_true] at key <;> clear hs <;> (rcases key with ⟨hm, hw, b1, b2⟩ | ⟨hm, b1⟩ | ⟨hm, b1, b2⟩) <;> simp only [Prod.mk.injEq] at hm <;> (obtain ⟨rfl, rfl⟩ := hm)
 all_goals
  (try (have HW := Aside0.mk hw; clear hw))
  (first | have da := decide_eq_true ha | have da := decide_eq_false ha)
  (first | have db := decide_eq_true hb | have db := decide_eq_false hb)
  (try have e0 : (!decide (a0 < 0)) = true := by rw [da]; rfl)
  (try have e1 : (!decide (a1 < 0)) = true := by rw [db]; rfl)
  (try have e2 : (!decide (a0 < 0) == decide (a1 < 0)) = false := by rw [da, db]; rfl)
  clear ha hb
  (first | have d1 := decide_eq_true (show 0 < x by omega) | have d1 := decide_eq_false (show ¬ 0 < x by omega))
  (try (first | have d2 := decide_eq_true (show 9223372036854775808 < y by omega) | have d2 := decide_eq_false (show ¬ 9223372036854775808 < y by omega)))
  (try (first | have d3 := decide_eq_true (show 9223372036854775807 < y by omega) | have d3 := decide_eq_false (show ¬ 9223372036854775807 < y by omega)))
  clear b1
  (try clear b2)
 all_goals
  go_enter Tryd.func48, Tryd.ntmps48
  go_wp2_with fail
  refine (num_size.calls a0 _ _ H0.out).mono ?_
  rintro e w1 ⟨rfl, hd1⟩
  obtain ⟨⟨n1, rfl⟩⟩ := hd1
  go_wp2_with fail
  refine (num_size.calls a1 _ _ H1.out).mono ?_
  rintro e w2 ⟨rfl, hd2⟩
  obtain ⟨⟨n2, rfl⟩⟩ := hd2
  go_wp2_with fail
  refine (bits_Mul64.calls _ _ _ _ _ H2.out).mono ?_
  rintro e w3 ⟨rfl, hd3⟩
  obtain ⟨⟨n3, rfl⟩⟩ := hd3
  go_wp2_with fail
  all_goals (try (exfalso; (simp at *) <;> omega))
  go_ret2
  refine ⟨?_, ⟨⟨_, rfl⟩⟩⟩
  first | rfl | exact ret_tup HW.out


/-! ### num_Parse: function 34 (by hand) -/
def num_Parse.f (a0 : ByteArray) (a1 a2 : Int) : Option (Int × Int) := if a0.size ≤ 140737488351232 then some (parseL a0.data.toList a1 a2) else none
set_option maxHeartbeats 1600000 in
theorem parse_pos (s : ByteArray) (lo hi : Int) (hs : s.size ≤ 140737488351232) (w : World) (hf : formedL s.data.toList = true) (hn : negOf s.data.toList = false) :
  Calls Tryd.prog 34 #[.string s, .int .i64 lo, .int .i64 hi] w fun e w' => e = .returned (.tuple #[.int .i64 (parseL s.data.toList lo hi).1, .int .i64 (parseL s.data.toList lo hi).2]) ∧ Drawn0 w w' := by
 have hF := formed_calls s hs
 rw [hf] at hF
 have hsz := size_eq' s
 have hm : magOf s.data.toList = s.data.toList := by simp [magOf, hn]
 have hne := formed_some hf
 have hdg := formed_digits hf
 rw [hm] at hne hdg
 have h0 : 0 < s.size := by rw [hsz]; exact List.length_pos_iff.mpr hne
 have hat : ∀ j, (h : j < s.size) → (h' : j < s.data.toList.length) → s.data.toList[j] = s[j] := fun j h h' => by simp; rfl
 have hb : ((s[0].toNat : Int) == 45) = false := by
  rw [beq_eq_false_iff_ne]
  intro h
  have := (byte_is s[0] 45).mp h
  rw [← hat 0 h0 (by omega)] at this
  unfold negOf at hn
  rw [List.head?_eq_getElem?, List.getElem?_eq_getElem (by omega), this] at hn
  simp at hn
 have HS := fun j n h => @parse_stop s.data.toList hf j n h lo hi
 have HW := fun j n h hj => @parse_whole s.data.toList hf j n h hj lo hi
 have H0 := Aside0.mk (PInv.start (negOf s.data.toList) s.data.toList)
 rw [hm] at HS HW
 rw [hn] at HS HW H0
 have HS := Aside0.mk HS
 have HW := Aside0.mk HW
 have HFc := Aside0.mk hF
 have HD : ∀ j, (h : j < s.size) → isDig s[j] = true := fun j h => by
  rw [← hat j h (by omega)]; exact List.all_eq_true.mp hdg _ (List.getElem_mem _)
 have HD := Aside0.mk HD
 have HA := Aside0.mk hat
 have HZ := Aside0.mk hsz
 clear hf hn hF hm hne hdg hat hsz
 generalize hP : (fun e w' => e = Ending.returned (.tuple #[.int .i64 (parseL s.data.toList lo hi).1, .int .i64 (parseL s.data.toList lo hi).2]) ∧ Drawn0 w w') = Post
 have HP := Aside0.mk hP
 clear hP
 go_enter Tryd.func34, Tryd.ntmps34
 go_wp2_with fail
 refine (HFc.out _).mono ?_
 rintro e w1 ⟨rfl, hd1⟩
 obtain ⟨⟨n1, rfl⟩⟩ := hd1
 go_wp2_with fail
 go_loopw [6, 9, 10] (fun n_ at_ ok_ wr => ∃ (p : Nat) (n : Int) (ok : Bool), p ≤ s.size ∧ n_ = .int .i64 n ∧ at_ = .int .i64 p ∧ ok_ = .bool ok ∧ Aside0 (PInv false s.data.toList p n ok) ∧ Drawn0 w wr) (fun _ at_ _ _ => (s.size - (RowKit.intOf at_).toNat))
 case atStart => exact ⟨0, 0, true, by omega, rfl, rfl, rfl, H0, (Drawn0.refl _).step _⟩
 case round =>
  obtain ⟨p, n, ok, hp, rfl, rfl, rfl, HI, HDr⟩ := hrel
  rename World => wr
  cases ok
  ·have hr := HS.out _ _ HI.out
   have HR := Aside0.mk hr
   clear hr
   by_cases hlt : p < s.size
   ·go_wp2_with fail
    rw [← HP.out]
    exact ⟨by rw [HR.out]; (try rfl), HDr⟩
   ·go_wp2_with fail
    rw [← HP.out]
    exact ⟨by rw [HR.out]; (try rfl), HDr⟩
  ·by_cases hlt : p < s.size
   ·have hd := (isDig_iff _).mp (HD.out p hlt)
    obtain ⟨hd1, hd2⟩ := hd
    have hj : p < s.data.toList.length := by rw [← HZ.out]; exact hlt
    have HJ := Aside0.mk hj
    clear hj
    have hI := (slot_ok HI.out).2
    have hM : num_Mul.f n 10 = some (fit (n * 10)) := by unfold num_Mul.f; rw [if_pos ⟨hI, by unfold I64; omega⟩]
    have hIn : -9223372036854775808 ≤ n ∧ n ≤ 9223372036854775807 := hI
    obtain ⟨hIn1, hIn2⟩ := hIn
    clear hI
    by_cases hm : I64 (n * 10)
    ·rw [fit_yes hm] at hM
     have hA := num_Add_eq (n * 10) ((s[p].toNat : Int) - 48) hm (by unfold I64; omega)
     have hN := PInv.next HI.out HJ.out (by rw [HA.out p hlt HJ.out]; exact HD.out p hlt) (x := n * 10 + ((s[p].toNat : Int) - 48)) (by rw [HA.out p hlt HJ.out]; rfl)
     generalize fit (n * 10 + ((s[p].toNat : Int) - 48)) = q at hA hN
     obtain ⟨q1, q2⟩ := q
     have HM := Aside0.mk hM
     have HAd := Aside0.mk hA
     have HN := Aside0.mk hN
     have hm' : -9223372036854775808 ≤ n * 10 ∧ n * 10 ≤ 9223372036854775807 := hm
     obtain ⟨hm1, hm2⟩ := hm'
     clear hM hA hN hm
     go_wp2_with fail
     refine (num_Mul.calls _ _ _ _ _ HM.out).mono ?_
     rintro e w1 ⟨rfl, hd3⟩
     obtain ⟨⟨n3, rfl⟩⟩ := hd3
     go_wp2_with fail
     refine (num_Add.calls _ _ _ _ _ HAd.out).mono ?_
     rintro e w1 ⟨rfl, hd4⟩
     obtain ⟨⟨n4, rfl⟩⟩ := hd4
     go_wp2_with fail
     go_roundw
     case rel => exact ⟨p + 1, q1, q2, by omega, rfl, by go_num, rfl, HN, HDr.step _⟩
     case measure => simp [RowKit.intOf]; omega
    ·rw [fit_no hm] at hM
     have hN := PInv.over HI.out HJ.out hm
     have HM := Aside0.mk hM
     have HN := Aside0.mk hN
     clear hM hN hm
     go_wp2_with fail
     refine (num_Mul.calls _ _ _ _ _ HM.out).mono ?_
     rintro e w1 ⟨rfl, hd3⟩
     obtain ⟨⟨n3, rfl⟩⟩ := hd3
     go_wp2_with fail
     go_roundw
     case rel => exact ⟨p + 1, 0, false, by omega, rfl, by go_num, rfl, HN, HDr.step _⟩
     case measure => simp [RowKit.intOf]; omega
   ·have hr := HW.out _ _ HI.out (by rw [← HZ.out]; omega)
    have HR := Aside0.mk hr
    clear hr
    by_cases h1 : n < lo
    ·go_wp2_with fail
     rw [← HP.out]
     exact ⟨zq16, HDr⟩
    ·by_cases h2 : hi < n
     ·go_wp2_with fail
      rw [← HP.out]
      exact ⟨zq16, HDr⟩
     ·go_wp2_with fail
      rw [← HP.out]
      exact ⟨by rw [HR.out, if_neg (by omega)]; (try rfl), HDr⟩
set_option maxHeartbeats 1600000 in
theorem parse_neg (s : ByteArray) (lo hi : Int) (hs : s.size ≤ 140737488351232) (w : World) (hf : formedL s.data.toList = true) (hn : negOf s.data.toList = true) :
  Calls Tryd.prog 34 #[.string s, .int .i64 lo, .int .i64 hi] w fun e w' => e = .returned (.tuple #[.int .i64 (parseL s.data.toList lo hi).1, .int .i64 (parseL s.data.toList lo hi).2]) ∧ Drawn0 w w' := by
 have hF := formed_calls s hs
 rw [hf] at hF
 have hsz := size_eq' s
 have hm : magOf s.data.toList = s.data.toList.drop 1 := by simp [magOf, hn]
 have hne := formed_some hf
 have hdg := formed_digits hf
 rw [hm] at hne hdg
 have h0 : 1 < s.size := by
  rw [hsz]
  rcases Nat.lt_or_ge 1 s.data.toList.length with h | h
  ·exact h
  ·exact absurd (List.drop_eq_nil_of_le h) hne
 have h00 : 0 < s.size := by omega
 have hat : ∀ j, (h : j + 1 < s.size) → (h' : j < (s.data.toList.drop 1).length) → (s.data.toList.drop 1)[j] = s[j + 1] := fun j h h' => by simp [Nat.add_comm 1 j]; rfl
 have hb : ((s[0].toNat : Int) == 45) = true := by
  rw [beq_iff_eq]
  refine (byte_is s[0] 45).mpr ?_
  unfold negOf at hn
  rw [List.head?_eq_getElem?, List.getElem?_eq_getElem (by omega), beq_iff_eq, Option.some_inj] at hn
  rw [← hn]; simp; (try rfl)
 have HS := fun j n h => @parse_stop s.data.toList hf j n h lo hi
 have HW := fun j n h hj => @parse_whole s.data.toList hf j n h hj lo hi
 have H0 := Aside0.mk (PInv.start (negOf s.data.toList) (s.data.toList.drop 1))
 rw [hm] at HS HW
 rw [hn] at HS HW H0
 have HS := Aside0.mk HS
 have HW := Aside0.mk HW
 have HFc := Aside0.mk hF
 have HD : ∀ j, (h : j + 1 < s.size) → isDig s[j + 1] = true := fun j h => by
  rw [← hat j h (by rw [List.length_drop]; omega)]; exact List.all_eq_true.mp hdg _ (List.getElem_mem _)
 have HD := Aside0.mk HD
 have HA := Aside0.mk hat
 have HZ := Aside0.mk hsz
 clear hf hn hF hm hne hdg hat hsz
 generalize hP : (fun e w' => e = Ending.returned (.tuple #[.int .i64 (parseL s.data.toList lo hi).1, .int .i64 (parseL s.data.toList lo hi).2]) ∧ Drawn0 w w') = Post
 have HP := Aside0.mk hP
 clear hP
 go_enter Tryd.func34, Tryd.ntmps34
 go_wp2_with fail
 refine (HFc.out _).mono ?_
 rintro e w1 ⟨rfl, hd1⟩
 obtain ⟨⟨n1, rfl⟩⟩ := hd1
 go_wp2_with fail
 go_loopw [6, 9, 10] (fun n_ at_ ok_ wr => ∃ (p : Nat) (n : Int) (ok : Bool), p + 1 ≤ s.size ∧ n_ = .int .i64 n ∧ at_ = .int .i64 ((p : Int) + 1) ∧ ok_ = .bool ok ∧ Aside0 (PInv true (s.data.toList.drop 1) p n ok) ∧ Drawn0 w wr) (fun _ at_ _ _ => (s.size - (RowKit.intOf at_).toNat))
 case atStart => exact ⟨0, 0, true, by omega, rfl, rfl, rfl, H0, (Drawn0.refl _).step _⟩
 case round =>
  obtain ⟨p, n, ok, hp, rfl, rfl, rfl, HI, HDr⟩ := hrel
  rename World => wr
  cases ok
  ·have hr := HS.out _ _ HI.out
   have HR := Aside0.mk hr
   clear hr
   by_cases hlt : p + 1 < s.size
   ·go_wp2_with fail
    rw [← HP.out]
    exact ⟨by rw [HR.out]; (try rfl), HDr⟩
   ·go_wp2_with fail
    rw [← HP.out]
    exact ⟨by rw [HR.out]; (try rfl), HDr⟩
  ·by_cases hlt : p + 1 < s.size
   ·have hd := (isDig_iff _).mp (HD.out p hlt)
    obtain ⟨hd1, hd2⟩ := hd
    have hj : p < (s.data.toList.drop 1).length := by rw [List.length_drop, ← HZ.out]; omega
    have HJ := Aside0.mk hj
    clear hj
    have hI := (slot_ok HI.out).2
    have hM : num_Mul.f n 10 = some (fit (n * 10)) := by unfold num_Mul.f; rw [if_pos ⟨hI, by unfold I64; omega⟩]
    have hIn : -9223372036854775808 ≤ n ∧ n ≤ 9223372036854775807 := hI
    obtain ⟨hIn1, hIn2⟩ := hIn
    clear hI
    by_cases hm : I64 (n * 10)
    ·rw [fit_yes hm] at hM
     have hA := num_Sub_eq (n * 10) ((s[p + 1].toNat : Int) - 48) hm (by unfold I64; omega)
     have hN := PInv.next HI.out HJ.out (by rw [HA.out p hlt HJ.out]; exact HD.out p hlt) (x := n * 10 - ((s[p + 1].toNat : Int) - 48)) (by rw [HA.out p hlt HJ.out]; rfl)
     generalize fit (n * 10 - ((s[p + 1].toNat : Int) - 48)) = q at hA hN
     obtain ⟨q1, q2⟩ := q
     have HM := Aside0.mk hM
     have HAd := Aside0.mk hA
     have HN := Aside0.mk hN
     have hm' : -9223372036854775808 ≤ n * 10 ∧ n * 10 ≤ 9223372036854775807 := hm
     obtain ⟨hm1, hm2⟩ := hm'
     clear hM hA hN hm
     go_wp2_with fail
     refine (num_Mul.calls _ _ _ _ _ HM.out).mono ?_
     rintro e w1 ⟨rfl, hd3⟩
     obtain ⟨⟨n3, rfl⟩⟩ := hd3
     go_wp2_with fail
     refine (num_Sub.calls _ _ _ _ _ HAd.out).mono ?_
     rintro e w1 ⟨rfl, hd4⟩
     obtain ⟨⟨n4, rfl⟩⟩ := hd4
     go_wp2_with fail
     go_roundw
     case rel => exact ⟨p + 1, q1, q2, by omega, rfl, by go_num, rfl, HN, HDr.step _⟩
     case measure => simp [RowKit.intOf]; omega
    ·rw [fit_no hm] at hM
     have hN := PInv.over HI.out HJ.out hm
     have HM := Aside0.mk hM
     have HN := Aside0.mk hN
     clear hM hN hm
     go_wp2_with fail
     refine (num_Mul.calls _ _ _ _ _ HM.out).mono ?_
     rintro e w1 ⟨rfl, hd3⟩
     obtain ⟨⟨n3, rfl⟩⟩ := hd3
     go_wp2_with fail
     go_roundw
     case rel => exact ⟨p + 1, 0, false, by omega, rfl, by go_num, rfl, HN, HDr.step _⟩
     case measure => simp [RowKit.intOf]; omega
   ·have hr := HW.out _ _ HI.out (by rw [List.length_drop, ← HZ.out]; omega)
    have HR := Aside0.mk hr
    clear hr
    by_cases h1 : n < lo
    ·go_wp2_with fail
     rw [← HP.out]
     exact ⟨zq16, HDr⟩
    ·by_cases h2 : hi < n
     ·go_wp2_with fail
      rw [← HP.out]
      exact ⟨zq16, HDr⟩
     ·go_wp2_with fail
      rw [← HP.out]
      exact ⟨by rw [HR.out, if_neg (by omega)]; (try rfl), HDr⟩
theorem num_Parse.calls (a0 : ByteArray) (a1 : Int) (a2 : Int) (r1 : Int) (r2 : Int) (w : World) (h : num_Parse.f a0 a1 a2 = some (r1, r2)) :
  Calls Tryd.prog 34 #[.string a0, .int .i64 a1, .int .i64 a2] w fun e w' => e = .returned (.tuple #[.int .i64 r1, .int .i64 r2]) ∧ Drawn0 w w' := by
 unfold num_Parse.f at h
 split at h <;> simp only [Option.some.injEq, reduceCtorEq] at h
 rename_i hs
 have e1 : r1 = (parseL a0.data.toList a1 a2).1 := by rw [h]
 have e2 : r2 = (parseL a0.data.toList a1 a2).2 := by rw [h]
 subst e1 e2
 clear h
 cases hf : formedL a0.data.toList
 ·have hF := formed_calls a0 hs
  rw [hf] at hF
  have hp : parseL a0.data.toList a1 a2 = (0, 5) := by unfold parseL; rw [hf]; rfl
  have HP := Aside0.mk hp
  have HFc := Aside0.mk hF
  clear hf hF hp
  generalize hP : (fun e w' => e = Ending.returned (.tuple #[.int .i64 (parseL a0.data.toList a1 a2).1, .int .i64 (parseL a0.data.toList a1 a2).2]) ∧ Drawn0 w w') = Post
  rw [HP.out] at hP
  have HPo := Aside0.mk hP
  clear hP
  go_enter Tryd.func34, Tryd.ntmps34
  go_wp2_with fail
  refine (HFc.out _).mono ?_
  rintro e w1 ⟨rfl, hd1⟩
  obtain ⟨⟨n1, rfl⟩⟩ := hd1
  go_wp2_with fail
  rw [← HPo.out]
  exact ⟨rfl, (Drawn0.refl _).step _⟩
 ·cases hn : negOf a0.data.toList
  ·exact parse_pos a0 a1 a2 hs w hf hn
  ·exact parse_neg a0 a1 a2 hs w hf hn


end Go.Proofs.YthmpapnhomngnaaDoor.A
