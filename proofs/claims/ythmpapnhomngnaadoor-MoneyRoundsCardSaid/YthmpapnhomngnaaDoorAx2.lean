-- By gen.py, a program of this session's, over the print's forms: not the print's own text.
import Derived.Test.YthmpapnhomngnaaDoorAx0
namespace Go.Proofs.YthmpapnhomngnaaDoor.A
open Go.RowKit Go.Proofs.YthmpapnhomngnaaDoor.B Go.Proofs.YthmpapnhomngnaaDoorW.PrintWords Go.Proofs.YthmpapnhomngnaaDoorW.PrintLast Go.Proofs.YthmpapnhomngnaaDoorW.PrintMore
attribute [local go_sem] max2_int min2_int max_two min_two max_three min_three max_four min_four   -- for this text's walks alone
set_option linter.unusedVariables false
set_option linter.unusedSimpArgs false

/-! ### muldiv_divide: function 39 (by hand) -/
set_option maxHeartbeats 6400000 in
set_option maxRecDepth 100000 in
theorem divide_calls (x y c : Nat) (hx : x < 18446744073709551616) (hy : y < 18446744073709551616) (hc : 0 < c) (hc2 : c < 18446744073709551616) (w : World) :
    Calls Tryd.prog 39 #[.agg #[.int .u64 x, .int .u64 y], .int .u64 c] w fun e w' => e = .returned (.tuple #[.agg #[.int .u64 ((x / c : Nat) : Int), .int .u64 (((x % c * 18446744073709551616 + y) / c : Nat) : Int)], .int .u64 (((x % c * 18446744073709551616 + y) % c : Nat) : Int)]) ∧ w' = (w.alloc (.cells #[.int .u64 x, .int .u64 y] 59)).alloc (.cells #[.int .u64 ((x / c : Nat) : Int), .int .u64 (((x % c * 18446744073709551616 + y) / c : Nat) : Int)] 59) := by
  go_enter Tryd.func39, Tryd.ntmps39
  go_wp2_with fail
  go_step3
  go_wp2_with fail
  go_step3
  go_wp2_with fail
  go_loopg [5, 11] 2 (fun g s5 s11 wr => ∃ (i : Nat) (r q0 q1 : Nat), i + g = 2 ∧ s11 = .int .i64 i ∧ s5 = .int .u64 r ∧ wr = (w.alloc (Obj.cells #[Value.int IntKind.u64 ↑x, Value.int IntKind.u64 ↑y] 59)).alloc (Obj.cells #[Value.int IntKind.u64 q0, Value.int IntKind.u64 q1] 59) ∧ Aside0 (DOut x y c i r q0 q1))
  case atStart => exact ⟨0, 0, 0, 0, rfl, rfl, rfl, rfl, ⟨⟨fun _ => ⟨rfl, rfl, rfl⟩, fun h => by omega, fun h => by omega⟩⟩⟩
  case round =>
    obtain ⟨i, r, q0, q1, hg, rfl, rfl, rfl, HO⟩ := hrel
    have h012 : i = 0 ∨ i = 1 ∨ i = 2 := by omega
    rcases h012 with rfl | rfl | rfl
    · obtain ⟨rfl, rfl, rfl⟩ := HO.out.at0 rfl
      obtain rfl : gk = 2 := by omega
      have hi0 : ∀ W, (Instr.index 59 (Value.agg #[Value.int IntKind.u64 ↑x, Value.int IntKind.u64 ↑y]) (.int .i64 0)).run Tryd.prog W = .ok (.int .u64 x) W := fun _ => by kernel_rfl
      go_wp2_with fail
      go_loopg [5, 8] 64 (fun k s5 s8 wr => ∃ (Q r2 : Nat), s8 = .int .i64 ((k : Int) - 1) ∧ s5 = .int .u64 r2 ∧ wr = (w.alloc (Obj.cells #[Value.int IntKind.u64 ↑x, Value.int IntKind.u64 ↑y] 59)).alloc (Obj.cells #[Value.int IntKind.u64 Q, Value.int IntKind.u64 0] 59) ∧ Aside0 (DInv c 0 x k Q r2))
      case atStart => exact ⟨0, 0, rfl, rfl, rfl, ⟨DInv.start hc hx⟩⟩
      case round =>
        obtain ⟨Q, r2, rfl, rfl, rfl, HI⟩ := hrel
        cases gk with
        | zero =>
          obtain ⟨hd1, hd2⟩ := HI.out.done
          (try simp only [Nat.zero_mul, Nat.zero_add] at hd1 hd2)
          have HD := Aside0.mk (show DOut x y c (0 + 1) r2 Q 0 from ⟨fun h => by omega, fun _ => ⟨hd2, hd1, rfl⟩, fun h => by omega⟩)
          clear hd1 hd2
          go_wp2_with fail
          go_roundg 1
          case rel => exact ⟨0 + 1, r2, Q, 0, by omega, by go_num, rfl, rfl, HD⟩
          case measure => omega
        | succ k =>
          have hk := HI.out.le
          obtain ⟨b, s, t, cv, N⟩ := HI.out.nums hc2
          obtain ⟨hb, hs, ht, hcc, hq, hq1, hw⟩ := N
          have hN := HI.out.next
          obtain ⟨Q2, eQ2⟩ : ∃ Q2, Q2 = 2 * Q := ⟨_, rfl⟩
          obtain ⟨Q3, eQ3⟩ : ∃ Q3, Q3 = 2 * Q + 1 := ⟨_, rfl⟩
          rw [← eQ3] at hq1 hN
          rw [← eQ2] at hq hq1 hN
          have HN := Aside0.mk hN
          clear eQ2 eQ3 hN
          have HW := Aside0.mk hw
          clear hw
          have hlt := HI.out.lt
          obtain ⟨Z, hZ⟩ : ∃ Z, IntKind.u64.wrap ((x : Int) * 2 ^ (63 - k)) = Z := ⟨_, rfl⟩
          have HZ := Aside0.mk hZ
          by_cases hr0 : r2 = 0 ∧ Z = 0
          · obtain ⟨h1, h2⟩ := hr0
            have eZ : x * 2 ^ (63 - k) % 18446744073709551616 = 0 := by
              have := HZ.out
              rw [h2, show ((x : Int) * 2 ^ (63 - k)) = ((x * 2 ^ (63 - k) : Nat) : Int) by simp, wu64n] at this
              omega
            have hE := DInv.early (by rw [← h1]; exact HI.out) eZ
            have hQ : IntKind.u64.wrap ((Q : Int) * 2 ^ (k + 1)) = ((Q * 2 ^ (k + 1) : Nat) : Int) := by
              rw [show ((Q : Int) * 2 ^ (k + 1)) = ((Q * 2 ^ (k + 1) : Nat) : Int) by simp, wu64n]
              have := hE.2; congr 1; omega
            obtain ⟨hd1, hd2⟩ := hE.1.done
            (try simp only [Nat.zero_mul, Nat.zero_add] at hd1 hd2)
            generalize Q * 2 ^ (k + 1) = Q9 at hQ hd1
            have HD := Aside0.mk (show DOut x y c (0 + 1) r2 Q9 0 from by rw [h1]; exact ⟨fun h => by omega, fun _ => ⟨hd2, hd1, rfl⟩, fun h => by omega⟩)
            clear eZ hE hd1 hd2 hb hs ht hcc hq hq1
            subst h1
            subst h2
            go_wp2_with fail
            go_roundg 1
            case rel => exact ⟨0 + 1, 0, Q9, 0, by omega, by go_num, rfl, rfl, HD⟩
            case measure => omega
          · have hgo : (((r2 : Int) == 0) = false) ∨ (((r2 : Int) == 0) = true ∧ (Z == 0) = false) := by
              rw [beq_eq_false_iff_ne, beq_iff_eq, beq_eq_false_iff_ne]
              rcases Nat.eq_zero_or_pos r2 with h | h
              · exact .inr ⟨by omega, fun hz => hr0 ⟨h, hz⟩⟩
              · exact .inl (by omega)
            clear hr0
            rcases HW.out with ⟨h1, h2, h3⟩ | ⟨h1, h2, h3, h4⟩ | ⟨h1, h2, h3, h4⟩
            · have HN1 := Aside0.mk (HN.out.1 h2)
              obtain ⟨r9, hr9⟩ : ∃ r9, r9 = 2 * r2 + x / 2 ^ k % 2 - c := ⟨_, rfl⟩
              rw [← hr9] at h3 HN1
              rw [h1] at hcc
              clear h1 h2 hr9 HW HN
              rcases hgo with hg0 | ⟨hg0, hg1⟩
              all_goals
                go_wp2_with fail
                go_roundg k
                case rel => exact ⟨Q3, r9, by go_num, rfl, rfl, HN1⟩
                case measure => omega
            · have HN1 := Aside0.mk (HN.out.1 h3)
              obtain ⟨r9, hr9⟩ : ∃ r9, r9 = 2 * r2 + x / 2 ^ k % 2 - c := ⟨_, rfl⟩
              rw [← hr9] at h4 HN1
              rw [h1] at hcc
              clear h1 h3 hr9 HW HN
              rcases hgo with hg0 | ⟨hg0, hg1⟩
              all_goals
                go_wp2_with fail
                go_roundg k
                case rel => exact ⟨Q3, r9, by go_num, rfl, rfl, HN1⟩
                case measure => omega
            · have HN1 := Aside0.mk (HN.out.2 h3)
              obtain ⟨r9, hr9⟩ : ∃ r9, r9 = 2 * r2 + x / 2 ^ k % 2 := ⟨_, rfl⟩
              rw [← hr9] at h4 HN1
              rw [h1] at hcc
              rw [h4] at ht h2
              clear h1 h3 h4 hr9 HW HN
              rcases hgo with hg0 | ⟨hg0, hg1⟩
              all_goals
                go_wp2_with fail
                go_roundg k
                case rel => exact ⟨Q2, r9, by go_num, rfl, rfl, HN1⟩
                case measure => omega
    · obtain ⟨hrx, hqx, rfl⟩ := HO.out.at1 rfl
      obtain rfl : gk = 1 := by omega
      have HO1 := Aside0.mk (And.intro hrx hqx)
      have hrc : r < c := by rw [hrx]; exact Nat.mod_lt _ hc
      clear hrx hqx HO
      have hi0 : ∀ W, (Instr.index 59 (Value.agg #[Value.int IntKind.u64 ↑x, Value.int IntKind.u64 ↑y]) (.int .i64 1)).run Tryd.prog W = .ok (.int .u64 y) W := fun _ => by kernel_rfl
      go_wp2_with fail
      go_loopg [5, 8] 64 (fun k s5 s8 wr => ∃ (Q r2 : Nat), s8 = .int .i64 ((k : Int) - 1) ∧ s5 = .int .u64 r2 ∧ wr = (w.alloc (Obj.cells #[Value.int IntKind.u64 ↑x, Value.int IntKind.u64 ↑y] 59)).alloc (Obj.cells #[Value.int IntKind.u64 q0, Value.int IntKind.u64 Q] 59) ∧ Aside0 (DInv c r y k Q r2))
      case atStart => exact ⟨0, r, rfl, rfl, rfl, ⟨DInv.start hrc hy⟩⟩
      case round =>
        obtain ⟨Q, r2, rfl, rfl, rfl, HI⟩ := hrel
        cases gk with
        | zero =>
          obtain ⟨hd1, hd2⟩ := HI.out.done
          (try simp only [Nat.zero_mul, Nat.zero_add] at hd1 hd2)
          have HD := Aside0.mk (show DOut x y c (1 + 1) r2 q0 Q from ⟨fun h => by omega, fun h => by omega, fun _ => ⟨by rw [hd2, HO1.out.1], HO1.out.2, by rw [hd1, HO1.out.1]⟩⟩)
          clear hd1 hd2
          go_wp2_with fail
          go_roundg 0
          case rel => exact ⟨1 + 1, r2, q0, Q, by omega, by go_num, rfl, rfl, HD⟩
          case measure => omega
        | succ k =>
          have hk := HI.out.le
          obtain ⟨b, s, t, cv, N⟩ := HI.out.nums hc2
          obtain ⟨hb, hs, ht, hcc, hq, hq1, hw⟩ := N
          have hN := HI.out.next
          obtain ⟨Q2, eQ2⟩ : ∃ Q2, Q2 = 2 * Q := ⟨_, rfl⟩
          obtain ⟨Q3, eQ3⟩ : ∃ Q3, Q3 = 2 * Q + 1 := ⟨_, rfl⟩
          rw [← eQ3] at hq1 hN
          rw [← eQ2] at hq hq1 hN
          have HN := Aside0.mk hN
          clear eQ2 eQ3 hN
          have HW := Aside0.mk hw
          clear hw
          have hlt := HI.out.lt
          obtain ⟨Z, hZ⟩ : ∃ Z, IntKind.u64.wrap ((y : Int) * 2 ^ (63 - k)) = Z := ⟨_, rfl⟩
          have HZ := Aside0.mk hZ
          by_cases hr0 : r2 = 0 ∧ Z = 0
          · obtain ⟨h1, h2⟩ := hr0
            have eZ : y * 2 ^ (63 - k) % 18446744073709551616 = 0 := by
              have := HZ.out
              rw [h2, show ((y : Int) * 2 ^ (63 - k)) = ((y * 2 ^ (63 - k) : Nat) : Int) by simp, wu64n] at this
              omega
            have hE := DInv.early (by rw [← h1]; exact HI.out) eZ
            have hQ : IntKind.u64.wrap ((Q : Int) * 2 ^ (k + 1)) = ((Q * 2 ^ (k + 1) : Nat) : Int) := by
              rw [show ((Q : Int) * 2 ^ (k + 1)) = ((Q * 2 ^ (k + 1) : Nat) : Int) by simp, wu64n]
              have := hE.2; congr 1; omega
            obtain ⟨hd1, hd2⟩ := hE.1.done
            (try simp only [Nat.zero_mul, Nat.zero_add] at hd1 hd2)
            generalize Q * 2 ^ (k + 1) = Q9 at hQ hd1
            have HD := Aside0.mk (show DOut x y c (1 + 1) r2 q0 Q9 from by rw [h1]; exact ⟨fun h => by omega, fun h => by omega, fun _ => ⟨by rw [hd2, HO1.out.1], HO1.out.2, by rw [hd1, HO1.out.1]⟩⟩)
            clear eZ hE hd1 hd2 hb hs ht hcc hq hq1
            subst h1
            subst h2
            go_wp2_with fail
            go_roundg 0
            case rel => exact ⟨1 + 1, 0, q0, Q9, by omega, by go_num, rfl, rfl, HD⟩
            case measure => omega
          · have hgo : (((r2 : Int) == 0) = false) ∨ (((r2 : Int) == 0) = true ∧ (Z == 0) = false) := by
              rw [beq_eq_false_iff_ne, beq_iff_eq, beq_eq_false_iff_ne]
              rcases Nat.eq_zero_or_pos r2 with h | h
              · exact .inr ⟨by omega, fun hz => hr0 ⟨h, hz⟩⟩
              · exact .inl (by omega)
            clear hr0
            rcases HW.out with ⟨h1, h2, h3⟩ | ⟨h1, h2, h3, h4⟩ | ⟨h1, h2, h3, h4⟩
            · have HN1 := Aside0.mk (HN.out.1 h2)
              obtain ⟨r9, hr9⟩ : ∃ r9, r9 = 2 * r2 + y / 2 ^ k % 2 - c := ⟨_, rfl⟩
              rw [← hr9] at h3 HN1
              rw [h1] at hcc
              clear h1 h2 hr9 HW HN
              rcases hgo with hg0 | ⟨hg0, hg1⟩
              all_goals
                go_wp2_with fail
                go_roundg k
                case rel => exact ⟨Q3, r9, by go_num, rfl, rfl, HN1⟩
                case measure => omega
            · have HN1 := Aside0.mk (HN.out.1 h3)
              obtain ⟨r9, hr9⟩ : ∃ r9, r9 = 2 * r2 + y / 2 ^ k % 2 - c := ⟨_, rfl⟩
              rw [← hr9] at h4 HN1
              rw [h1] at hcc
              clear h1 h3 hr9 HW HN
              rcases hgo with hg0 | ⟨hg0, hg1⟩
              all_goals
                go_wp2_with fail
                go_roundg k
                case rel => exact ⟨Q3, r9, by go_num, rfl, rfl, HN1⟩
                case measure => omega
            · have HN1 := Aside0.mk (HN.out.2 h3)
              obtain ⟨r9, hr9⟩ : ∃ r9, r9 = 2 * r2 + y / 2 ^ k % 2 := ⟨_, rfl⟩
              rw [← hr9] at h4 HN1
              rw [h1] at hcc
              rw [h4] at ht h2
              clear h1 h3 h4 hr9 HW HN
              rcases hgo with hg0 | ⟨hg0, hg1⟩
              all_goals
                go_wp2_with fail
                go_roundg k
                case rel => exact ⟨Q2, r9, by go_num, rfl, rfl, HN1⟩
                case measure => omega
    · obtain ⟨hrx, hqx, hqy⟩ := HO.out.at2 rfl
      have HO2 := Aside0.mk (And.intro hrx (And.intro hqx hqy))
      clear hrx hqx hqy HO
      go_wp2_with fail
      rw [Exit.noGoto_ret]
      refine bodyPost_ret (v := .tuple #[.agg #[.int .u64 (q0 : Int), .int .u64 (q1 : Int)], .int .u64 (r : Int)]) (by simp [results, Tryd.results39, go_sem]) rfl ⟨?_, ?_⟩
      · rw [HO2.out.1, HO2.out.2.1, HO2.out.2.2]
      · rw [HO2.out.2.1, HO2.out.2.2]


end Go.Proofs.YthmpapnhomngnaaDoor.A
