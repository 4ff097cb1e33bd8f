-- By gen.py, a program of this session's, over the print's forms: not the print's own text.
import Derived.Test.YthmpapnhomngnaaDoorAx0
import Derived.Test.YthmpapnhomngnaaDoorAx14
import Derived.Test.YthmpapnhomngnaaDoorAx15
namespace Go.Proofs.YthmpapnhomngnaaDoor.A
open Go.RowKit Go.Proofs.YthmpapnhomngnaaDoor.B Go.Proofs.YthmpapnhomngnaaDoorW.PrintWords Go.Proofs.YthmpapnhomngnaaDoorW.PrintLast Go.Proofs.YthmpapnhomngnaaDoorW.PrintMore
attribute [local go_sem] max2_int min2_int max_two min_two max_three min_three max_four min_four   -- for this text's walks alone
set_option linter.unusedVariables false
set_option linter.unusedSimpArgs false

/-! ### num_Parse: function 34 (by hand) -/
def num_Parse.f (a0 : ByteArray) (a1 a2 : Int) : Option (Int × Int) := if a0.size ≤ 140737488351232 then some (parseL a0.data.toList a1 a2) else none
set_option maxHeartbeats 1600000 in
theorem parse_pos (s : ByteArray) (lo hi : Int) (hs : s.size ≤ 140737488351232) (w : World) (hf : formedL s.data.toList = true) (hn : negOf s.data.toList = false) :
    Calls Tryd.prog 34 #[.string s, .int .i64 lo, .int .i64 hi] w fun e w' => e = .returned (.tuple #[.int .i64 (parseL s.data.toList lo hi).1, .int .i64 (parseL s.data.toList lo hi).2]) ∧ Drawn0 w w' := by
  have hF := formed_calls s hs
  rw [hf] at hF
  have hsz := size_eq' s
  have hm : magOf s.data.toList = s.data.toList := by simp [magOf, hn]
  have hne := formed_some hf
  have hdg := formed_digits hf
  rw [hm] at hne hdg
  have h0 : 0 < s.size := by rw [hsz]; exact List.length_pos_iff.mpr hne
  have hat : ∀ j, (h : j < s.size) → (h' : j < s.data.toList.length) → s.data.toList[j] = s[j] := fun j h h' => by simp; rfl
  have hb : ((s[0].toNat : Int) == 45) = false := by
    rw [beq_eq_false_iff_ne]
    intro h
    have := (byte_is s[0] 45).mp h
    rw [← hat 0 h0 (by omega)] at this
    unfold negOf at hn
    rw [List.head?_eq_getElem?, List.getElem?_eq_getElem (by omega), this] at hn
    simp at hn
  have HS := fun j n h => @parse_stop s.data.toList hf j n h lo hi
  have HW := fun j n h hj => @parse_whole s.data.toList hf j n h hj lo hi
  have H0 := Aside0.mk (PInv.start (negOf s.data.toList) s.data.toList)
  rw [hm] at HS HW
  rw [hn] at HS HW H0
  have HS := Aside0.mk HS
  have HW := Aside0.mk HW
  have HFc := Aside0.mk hF
  have HD : ∀ j, (h : j < s.size) → isDig s[j] = true := fun j h => by
    rw [← hat j h (by omega)]; exact List.all_eq_true.mp hdg _ (List.getElem_mem _)
  have HD := Aside0.mk HD
  have HA := Aside0.mk hat
  have HZ := Aside0.mk hsz
  clear hf hn hF hm hne hdg hat hsz
  generalize hP : (fun e w' => e = Ending.returned (.tuple #[.int .i64 (parseL s.data.toList lo hi).1, .int .i64 (parseL s.data.toList lo hi).2]) ∧ Drawn0 w w') = Post
  have HP := Aside0.mk hP
  clear hP
  go_enter Tryd.func34, Tryd.ntmps34
  go_wp2_with fail
  refine (HFc.out _).mono ?_
  rintro e w1 ⟨rfl, hd1⟩
  obtain ⟨⟨n1, rfl⟩⟩ := hd1
  go_wp2_with fail
  go_loopw [6, 9, 10] (fun n_ at_ ok_ wr => ∃ (p : Nat) (n : Int) (ok : Bool), p ≤ s.size ∧ n_ = .int .i64 n ∧ at_ = .int .i64 p ∧ ok_ = .bool ok ∧ Aside0 (PInv false s.data.toList p n ok) ∧ Drawn0 w wr) (fun _ at_ _ _ => (s.size - (RowKit.intOf at_).toNat))
  case atStart => exact ⟨0, 0, true, by omega, rfl, rfl, rfl, H0, (Drawn0.refl _).step _⟩
  case round =>
    obtain ⟨p, n, ok, hp, rfl, rfl, rfl, HI, HDr⟩ := hrel
    rename World => wr
    cases ok
    · have hr := HS.out _ _ HI.out
      have HR := Aside0.mk hr
      clear hr
      by_cases hlt : p < s.size
      · go_wp2_with fail
        rw [← HP.out]
        exact ⟨by rw [HR.out]; (try rfl), HDr⟩
      · go_wp2_with fail
        rw [← HP.out]
        exact ⟨by rw [HR.out]; (try rfl), HDr⟩
    · by_cases hlt : p < s.size
      · have hd := (isDig_iff _).mp (HD.out p hlt)
        obtain ⟨hd1, hd2⟩ := hd
        have hj : p < s.data.toList.length := by rw [← HZ.out]; exact hlt
        have HJ := Aside0.mk hj
        clear hj
        have hI := (slot_ok HI.out).2
        have hM : num_Mul.f n 10 = some (fit (n * 10)) := by unfold num_Mul.f; rw [if_pos ⟨hI, by unfold I64; omega⟩]
        have hIn : -9223372036854775808 ≤ n ∧ n ≤ 9223372036854775807 := hI
        obtain ⟨hIn1, hIn2⟩ := hIn
        clear hI
        by_cases hm : I64 (n * 10)
        · rw [fit_yes hm] at hM
          have hA := num_Add_eq (n * 10) ((s[p].toNat : Int) - 48) hm (by unfold I64; omega)
          have hN := PInv.next HI.out HJ.out (by rw [HA.out p hlt HJ.out]; exact HD.out p hlt) (x := n * 10 + ((s[p].toNat : Int) - 48)) (by rw [HA.out p hlt HJ.out]; rfl)
          generalize fit (n * 10 + ((s[p].toNat : Int) - 48)) = q at hA hN
          obtain ⟨q1, q2⟩ := q
          have HM := Aside0.mk hM
          have HAd := Aside0.mk hA
          have HN := Aside0.mk hN
          have hm' : -9223372036854775808 ≤ n * 10 ∧ n * 10 ≤ 9223372036854775807 := hm
          obtain ⟨hm1, hm2⟩ := hm'
          clear hM hA hN hm
          go_wp2_with fail
          refine (num_Mul.calls _ _ _ _ _ HM.out).mono ?_
          rintro e w1 ⟨rfl, hd3⟩
          obtain ⟨⟨n3, rfl⟩⟩ := hd3
          go_wp2_with fail
          refine (num_Add.calls _ _ _ _ _ HAd.out).mono ?_
          rintro e w1 ⟨rfl, hd4⟩
          obtain ⟨⟨n4, rfl⟩⟩ := hd4
          go_wp2_with fail
          go_roundw
          case rel => exact ⟨p + 1, q1, q2, by omega, rfl, by go_num, rfl, HN, HDr.step _⟩
          case measure => simp [RowKit.intOf]; omega
        · rw [fit_no hm] at hM
          have hN := PInv.over HI.out HJ.out hm
          have HM := Aside0.mk hM
          have HN := Aside0.mk hN
          clear hM hN hm
          go_wp2_with fail
          refine (num_Mul.calls _ _ _ _ _ HM.out).mono ?_
          rintro e w1 ⟨rfl, hd3⟩
          obtain ⟨⟨n3, rfl⟩⟩ := hd3
          go_wp2_with fail
          go_roundw
          case rel => exact ⟨p + 1, 0, false, by omega, rfl, by go_num, rfl, HN, HDr.step _⟩
          case measure => simp [RowKit.intOf]; omega
      · have hr := HW.out _ _ HI.out (by rw [← HZ.out]; omega)
        have HR := Aside0.mk hr
        clear hr
        by_cases h1 : n < lo
        · go_wp2_with fail
          rw [← HP.out]
          exact ⟨by rw [HR.out, if_pos (by omega)]; (try rfl), HDr⟩
        · by_cases h2 : hi < n
          · go_wp2_with fail
            rw [← HP.out]
            exact ⟨by rw [HR.out, if_pos (by omega)]; (try rfl), HDr⟩
          · go_wp2_with fail
            rw [← HP.out]
            exact ⟨by rw [HR.out, if_neg (by omega)]; (try rfl), HDr⟩
set_option maxHeartbeats 1600000 in
theorem parse_neg (s : ByteArray) (lo hi : Int) (hs : s.size ≤ 140737488351232) (w : World) (hf : formedL s.data.toList = true) (hn : negOf s.data.toList = true) :
    Calls Tryd.prog 34 #[.string s, .int .i64 lo, .int .i64 hi] w fun e w' => e = .returned (.tuple #[.int .i64 (parseL s.data.toList lo hi).1, .int .i64 (parseL s.data.toList lo hi).2]) ∧ Drawn0 w w' := by
  have hF := formed_calls s hs
  rw [hf] at hF
  have hsz := size_eq' s
  have hm : magOf s.data.toList = s.data.toList.drop 1 := by simp [magOf, hn]
  have hne := formed_some hf
  have hdg := formed_digits hf
  rw [hm] at hne hdg
  have h0 : 1 < s.size := by
    rw [hsz]
    rcases Nat.lt_or_ge 1 s.data.toList.length with h | h
    · exact h
    · exact absurd (List.drop_eq_nil_of_le h) hne
  have h00 : 0 < s.size := by omega
  have hat : ∀ j, (h : j + 1 < s.size) → (h' : j < (s.data.toList.drop 1).length) → (s.data.toList.drop 1)[j] = s[j + 1] := fun j h h' => by simp [Nat.add_comm 1 j]; rfl
  have hb : ((s[0].toNat : Int) == 45) = true := by
    rw [beq_iff_eq]
    refine (byte_is s[0] 45).mpr ?_
    unfold negOf at hn
    rw [List.head?_eq_getElem?, List.getElem?_eq_getElem (by omega), beq_iff_eq, Option.some_inj] at hn
    rw [← hn]; simp; (try rfl)
  have HS := fun j n h => @parse_stop s.data.toList hf j n h lo hi
  have HW := fun j n h hj => @parse_whole s.data.toList hf j n h hj lo hi
  have H0 := Aside0.mk (PInv.start (negOf s.data.toList) (s.data.toList.drop 1))
  rw [hm] at HS HW
  rw [hn] at HS HW H0
  have HS := Aside0.mk HS
  have HW := Aside0.mk HW
  have HFc := Aside0.mk hF
  have HD : ∀ j, (h : j + 1 < s.size) → isDig s[j + 1] = true := fun j h => by
    rw [← hat j h (by rw [List.length_drop]; omega)]; exact List.all_eq_true.mp hdg _ (List.getElem_mem _)
  have HD := Aside0.mk HD
  have HA := Aside0.mk hat
  have HZ := Aside0.mk hsz
  clear hf hn hF hm hne hdg hat hsz
  generalize hP : (fun e w' => e = Ending.returned (.tuple #[.int .i64 (parseL s.data.toList lo hi).1, .int .i64 (parseL s.data.toList lo hi).2]) ∧ Drawn0 w w') = Post
  have HP := Aside0.mk hP
  clear hP
  go_enter Tryd.func34, Tryd.ntmps34
  go_wp2_with fail
  refine (HFc.out _).mono ?_
  rintro e w1 ⟨rfl, hd1⟩
  obtain ⟨⟨n1, rfl⟩⟩ := hd1
  go_wp2_with fail
  go_loopw [6, 9, 10] (fun n_ at_ ok_ wr => ∃ (p : Nat) (n : Int) (ok : Bool), p + 1 ≤ s.size ∧ n_ = .int .i64 n ∧ at_ = .int .i64 ((p : Int) + 1) ∧ ok_ = .bool ok ∧ Aside0 (PInv true (s.data.toList.drop 1) p n ok) ∧ Drawn0 w wr) (fun _ at_ _ _ => (s.size - (RowKit.intOf at_).toNat))
  case atStart => exact ⟨0, 0, true, by omega, rfl, rfl, rfl, H0, (Drawn0.refl _).step _⟩
  case round =>
    obtain ⟨p, n, ok, hp, rfl, rfl, rfl, HI, HDr⟩ := hrel
    rename World => wr
    cases ok
    · have hr := HS.out _ _ HI.out
      have HR := Aside0.mk hr
      clear hr
      by_cases hlt : p + 1 < s.size
      · go_wp2_with fail
        rw [← HP.out]
        exact ⟨by rw [HR.out]; (try rfl), HDr⟩
      · go_wp2_with fail
        rw [← HP.out]
        exact ⟨by rw [HR.out]; (try rfl), HDr⟩
    · by_cases hlt : p + 1 < s.size
      · have hd := (isDig_iff _).mp (HD.out p hlt)
        obtain ⟨hd1, hd2⟩ := hd
        have hj : p < (s.data.toList.drop 1).length := by rw [List.length_drop, ← HZ.out]; omega
        have HJ := Aside0.mk hj
        clear hj
        have hI := (slot_ok HI.out).2
        have hM : num_Mul.f n 10 = some (fit (n * 10)) := by unfold num_Mul.f; rw [if_pos ⟨hI, by unfold I64; omega⟩]
        have hIn : -9223372036854775808 ≤ n ∧ n ≤ 9223372036854775807 := hI
        obtain ⟨hIn1, hIn2⟩ := hIn
        clear hI
        by_cases hm : I64 (n * 10)
        · rw [fit_yes hm] at hM
          have hA := num_Sub_eq (n * 10) ((s[p + 1].toNat : Int) - 48) hm (by unfold I64; omega)
          have hN := PInv.next HI.out HJ.out (by rw [HA.out p hlt HJ.out]; exact HD.out p hlt) (x := n * 10 - ((s[p + 1].toNat : Int) - 48)) (by rw [HA.out p hlt HJ.out]; rfl)
          generalize fit (n * 10 - ((s[p + 1].toNat : Int) - 48)) = q at hA hN
          obtain ⟨q1, q2⟩ := q
          have HM := Aside0.mk hM
          have HAd := Aside0.mk hA
          have HN := Aside0.mk hN
          have hm' : -9223372036854775808 ≤ n * 10 ∧ n * 10 ≤ 9223372036854775807 := hm
          obtain ⟨hm1, hm2⟩ := hm'
          clear hM hA hN hm
          go_wp2_with fail
          refine (num_Mul.calls _ _ _ _ _ HM.out).mono ?_
          rintro e w1 ⟨rfl, hd3⟩
          obtain ⟨⟨n3, rfl⟩⟩ := hd3
          go_wp2_with fail
          refine (num_Sub.calls _ _ _ _ _ HAd.out).mono ?_
          rintro e w1 ⟨rfl, hd4⟩
          obtain ⟨⟨n4, rfl⟩⟩ := hd4
          go_wp2_with fail
          go_roundw
          case rel => exact ⟨p + 1, q1, q2, by omega, rfl, by go_num, rfl, HN, HDr.step _⟩
          case measure => simp [RowKit.intOf]; omega
        · rw [fit_no hm] at hM
          have hN := PInv.over HI.out HJ.out hm
          have HM := Aside0.mk hM
          have HN := Aside0.mk hN
          clear hM hN hm
          go_wp2_with fail
          refine (num_Mul.calls _ _ _ _ _ HM.out).mono ?_
          rintro e w1 ⟨rfl, hd3⟩
          obtain ⟨⟨n3, rfl⟩⟩ := hd3
          go_wp2_with fail
          go_roundw
          case rel => exact ⟨p + 1, 0, false, by omega, rfl, by go_num, rfl, HN, HDr.step _⟩
          case measure => simp [RowKit.intOf]; omega
      · have hr := HW.out _ _ HI.out (by rw [List.length_drop, ← HZ.out]; omega)
        have HR := Aside0.mk hr
        clear hr
        by_cases h1 : n < lo
        · go_wp2_with fail
          rw [← HP.out]
          exact ⟨by rw [HR.out, if_pos (by omega)]; (try rfl), HDr⟩
        · by_cases h2 : hi < n
          · go_wp2_with fail
            rw [← HP.out]
            exact ⟨by rw [HR.out, if_pos (by omega)]; (try rfl), HDr⟩
          · go_wp2_with fail
            rw [← HP.out]
            exact ⟨by rw [HR.out, if_neg (by omega)]; (try rfl), HDr⟩
theorem num_Parse.calls (a0 : ByteArray) (a1 : Int) (a2 : Int) (r1 : Int) (r2 : Int) (w : World) (h : num_Parse.f a0 a1 a2 = some (r1, r2)) :
    Calls Tryd.prog 34 #[.string a0, .int .i64 a1, .int .i64 a2] w fun e w' => e = .returned (.tuple #[.int .i64 r1, .int .i64 r2]) ∧ Drawn0 w w' := by
  unfold num_Parse.f at h
  split at h <;> simp only [Option.some.injEq, reduceCtorEq] at h
  rename_i hs
  have e1 : r1 = (parseL a0.data.toList a1 a2).1 := by rw [h]
  have e2 : r2 = (parseL a0.data.toList a1 a2).2 := by rw [h]
  subst e1 e2
  clear h
  cases hf : formedL a0.data.toList
  · have hF := formed_calls a0 hs
    rw [hf] at hF
    have hp : parseL a0.data.toList a1 a2 = (0, 5) := by unfold parseL; rw [hf]; rfl
    have HP := Aside0.mk hp
    have HFc := Aside0.mk hF
    clear hf hF hp
    generalize hP : (fun e w' => e = Ending.returned (.tuple #[.int .i64 (parseL a0.data.toList a1 a2).1, .int .i64 (parseL a0.data.toList a1 a2).2]) ∧ Drawn0 w w') = Post
    rw [HP.out] at hP
    have HPo := Aside0.mk hP
    clear hP
    go_enter Tryd.func34, Tryd.ntmps34
    go_wp2_with fail
    refine (HFc.out _).mono ?_
    rintro e w1 ⟨rfl, hd1⟩
    obtain ⟨⟨n1, rfl⟩⟩ := hd1
    go_wp2_with fail
    rw [← HPo.out]
    exact ⟨rfl, (Drawn0.refl _).step _⟩
  · cases hn : negOf a0.data.toList
    · exact parse_pos a0 a1 a2 hs w hf hn
    · exact parse_neg a0 a1 a2 hs w hf hn


end Go.Proofs.YthmpapnhomngnaaDoor.A
