-- By gen.py, a program of this session's, over the print's forms: not the print's own text.
import Derived.Test.YtoenhagbgfkihaaAx0
import Derived.Test.YtoenhagbgfkihaaQ
import Derived.Test.YtoenhagbgfkihaaAx2
namespace Go.Proofs.Ytoenhagbgfkihaa.A
open Go.RowKit Go.Proofs.Ytoenhagbgfkihaa.B Go.Proofs.YtoenhagbgfkihaaW.PrintWords Go.Proofs.YtoenhagbgfkihaaW.PrintLast Go.Proofs.YtoenhagbgfkihaaW.PrintMore
attribute [local go_sem] max2_int min2_int max_two min_two max_three min_three max_four min_four   -- for this text's walks alone
set_option linter.unusedVariables false
set_option linter.unusedSimpArgs false

/-! ### muldiv_divide: function 57 (by hand) -/
set_option maxHeartbeats 6400000 in
set_option maxRecDepth 100000 in
theorem divide_calls (x y c : Nat) (hx : x < 18446744073709551616) (hy : y < 18446744073709551616) (hc : 0 < c) (hc2 : c < 18446744073709551616) (w : World) :
  Calls Try.prog 57 #[.agg #[.int .u64 x, .int .u64 y], .int .u64 c] w fun e w' => e = .returned (.tuple #[.agg #[.int .u64 ((x / c : Nat) : Int), .int .u64 (((x % c * 18446744073709551616 + y) / c : Nat) : Int)], .int .u64 (((x % c * 18446744073709551616 + y) % c : Nat) : Int)]) ∧ w' = (w.alloc (.cells #[.int .u64 x, .int .u64 y] 75)).alloc (.cells #[.int .u64 ((x / c : Nat) : Int), .int .u64 (((x % c * 18446744073709551616 + y) / c : Nat) : Int)] 75) := by
 go_enter Try.func57, Try.ntmps57
 go_wp2_with fail
 go_step3
 go_wp2_with fail
 go_step3
 go_wp2_with fail
 go_loopg [5, 11] 2 (fun g s5 s11 wr => ∃ (i : Nat) (r q0 q1 : Nat), i + g = 2 ∧ s11 = .int .i64 i ∧ s5 = .int .u64 r ∧ wr = (w.alloc (Obj.cells #[Value.int IntKind.u64 ↑x, Value.int IntKind.u64 ↑y] 75)).alloc (Obj.cells #[Value.int IntKind.u64 q0, Value.int IntKind.u64 q1] 75) ∧ Aside0 (DOut x y c i r q0 q1))
 case atStart => exact ⟨0, 0, 0, 0, rfl, rfl, rfl, rfl, ⟨⟨fun _ => ⟨rfl, rfl, rfl⟩, fun h => by omega, fun h => by omega⟩⟩⟩
 case round =>
  obtain ⟨i, r, q0, q1, hg, rfl, rfl, rfl, HO⟩ := hrel
  have h012 : i = 0 ∨ i = 1 ∨ i = 2 := by omega
  rcases h012 with rfl | rfl | rfl
  ·obtain ⟨rfl, rfl, rfl⟩ := HO.out.at0 rfl
   obtain rfl : gk = 2 := by omega
   have hi0 : ∀ W, (Instr.index 75 (Value.agg #[Value.int IntKind.u64 ↑x, Value.int IntKind.u64 ↑y]) (.int .i64 0)).run Try.prog W = .ok (.int .u64 x) W := fun _ => by kernel_rfl
   go_wp2_with fail
   go_loopg [5, 8] 64 (fun k s5 s8 wr => ∃ (Q r2 : Nat), s8 = .int .i64 ((k : Int) - 1) ∧ s5 = .int .u64 r2 ∧ wr = (w.alloc (Obj.cells #[Value.int IntKind.u64 ↑x, Value.int IntKind.u64 ↑y] 75)).alloc (Obj.cells #[Value.int IntKind.u64 Q, Value.int IntKind.u64 0] 75) ∧ Aside0 (DInv c 0 x k Q r2))
   case atStart => exact ⟨0, 0, rfl, rfl, rfl, ⟨DInv.start hc hx⟩⟩
   case round =>
    obtain ⟨Q, r2, rfl, rfl, rfl, HI⟩ := hrel
    cases gk with
    | zero =>
     obtain ⟨hd1, hd2⟩ := HI.out.done
     (try simp only [Nat.zero_mul, Nat.zero_add] at hd1 hd2)
     have HD := Aside0.mk (show DOut x y c (0 + 1) r2 Q 0 from ⟨fun h => by omega, fun _ => ⟨hd2, hd1, rfl⟩, fun h => by omega⟩)
     clear hd1 hd2
     go_wp2_with fail
     go_roundg 1
     case rel => exact ⟨0 + 1, r2, Q, 0, by omega, by go_num, rfl, rfl, HD⟩
     case measure => omega
    | succ k =>
     have hk := HI.out.le
     obtain ⟨b, s, t, cv, N⟩ := HI.out.nums hc2
     obtain ⟨hb, hs, ht, hcc, hq, hq1, hw⟩ := N
     have hN := HI.out.next
     obtain ⟨Q2, eQ2⟩ : ∃ Q2, Q2 = 2 * Q := ⟨_, rfl⟩
     obtain ⟨Q3, eQ3⟩ : ∃ Q3, Q3 = 2 * Q + 1 := ⟨_, rfl⟩
     rw [← eQ3] at hq1 hN
     rw [← eQ2] at hq hq1 hN
     have HN := Aside0.mk hN
     clear eQ2 eQ3 hN
     have HW := Aside0.mk hw
     clear hw
     have hlt := HI.out.lt
     obtain ⟨Z, hZ⟩ : ∃ Z, IntKind.u64.wrap ((x : Int) * 2 ^ (63 - k)) = Z := ⟨_, rfl⟩
     have HZ := Aside0.mk hZ
     by_cases hr0 : r2 = 0 ∧ Z = 0
     ·obtain ⟨h1, h2⟩ := hr0
      have eZ : x * 2 ^ (63 - k) % 18446744073709551616 = 0 := by
       have := HZ.out
       rw [h2, show ((x : Int) * 2 ^ (63 - k)) = ((x * 2 ^ (63 - k) : Nat) : Int) by simp, wu64n] at this
       omega
      have hE := DInv.early (by rw [← h1]; exact HI.out) eZ
      have hQ : IntKind.u64.wrap ((Q : Int) * 2 ^ (k + 1)) = ((Q * 2 ^ (k + 1) : Nat) : Int) := by
       rw [show ((Q : Int) * 2 ^ (k + 1)) = ((Q * 2 ^ (k + 1) : Nat) : Int) by simp, wu64n]
       have := hE.2; congr 1; omega
      obtain ⟨hd1, hd2⟩ := hE.1.done
      (try simp only [Nat.zero_mul, Nat.zero_add] at hd1 hd2)
      generalize Q * 2 ^ (k + 1) = Q9 at hQ hd1
      have HD := Aside0.mk (show DOut x y c (0 + 1) r2 Q9 0 from by rw [h1]; exact ⟨fun h => by omega, fun _ => ⟨hd2, hd1, rfl⟩, fun h => by omega⟩)
      clear eZ hE hd1 hd2 hb hs ht hcc hq hq1
      subst h1
      subst h2
      go_wp2_with fail
      go_roundg 1
      case rel => exact ⟨0 + 1, 0, Q9, 0, by omega, by go_num, rfl, rfl, HD⟩
      case measure => omega
     ·have hgo : (((r2 : Int) == 0) = false) ∨ (((r2 : Int) == 0) = true ∧ (Z == 0) = false) := by
       rw [beq_eq_false_iff_ne, beq_iff_eq, beq_eq_false_iff_ne]
       rcases Nat.eq_zero_or_pos r2 with h | h
       ·exact .inr ⟨by omega, fun hz => hr0 ⟨h, hz⟩⟩
       ·exact .inl (by omega)
      clear hr0
      rcases HW.out with ⟨h1, h2, h3⟩ | ⟨h1, h2, h3, h4⟩ | ⟨h1, h2, h3, h4⟩
      ·have HN1 := Aside0.mk (HN.out.1 h2)
       obtain ⟨r9, hr9⟩ : ∃ r9, r9 = 2 * r2 + x / 2 ^ k % 2 - c := ⟨_, rfl⟩
       rw [← hr9] at h3 HN1
       rw [h1] at hcc
       clear h1 h2 hr9 HW HN
       rcases hgo with hg0 | ⟨hg0, hg1⟩
       all_goals
        go_wp2_with fail
        go_roundg k
        case rel => exact ⟨Q3, r9, by go_num, rfl, rfl, HN1⟩
        case measure => omega
      ·have HN1 := Aside0.mk (HN.out.1 h3)
       obtain ⟨r9, hr9⟩ : ∃ r9, r9 = 2 * r2 + x / 2 ^ k % 2 - c := ⟨_, rfl⟩
       rw [← hr9] at h4 HN1
       rw [h1] at hcc
       clear h1 h3 hr9 HW HN
       rcases hgo with hg0 | ⟨hg0, hg1⟩
       all_goals
        go_wp2_with fail
        go_roundg k
        case rel => exact ⟨Q3, r9, by go_num, rfl, rfl, HN1⟩
        case measure => omega
      ·have HN1 := Aside0.mk (HN.out.2 h3)
       obtain ⟨r9, hr9⟩ : ∃ r9, r9 = 2 * r2 + x / 2 ^ k % 2 := ⟨_, rfl⟩
       rw [← hr9] at h4 HN1
       rw [h1] at hcc
       rw [h4] at ht h2
       clear h1 h3 h4 hr9 HW HN
       rcases hgo with hg0 | ⟨hg0, hg1⟩
       all_goals
        go_wp2_with fail
        go_roundg k
        case rel => exact ⟨Q2, r9, by go_num, rfl, rfl, HN1⟩
        case measure => omega
  ·obtain ⟨hrx, hqx, rfl⟩ := HO.out.at1 rfl
   obtain rfl : gk = 1 := by omega
   have HO1 := Aside0.mk (And.intro hrx hqx)
   have hrc : r < c := by rw [hrx]; exact Nat.mod_lt _ hc
   clear hrx hqx HO
   have hi0 : ∀ W, (Instr.index 75 (Value.agg #[Value.int IntKind.u64 ↑x, Value.int IntKind.u64 ↑y]) (.int .i64 1)).run Try.prog W = .ok (.int .u64 y) W := fun _ => by kernel_rfl
   go_wp2_with fail
   go_loopg [5, 8] 64 (fun k s5 s8 wr => ∃ (Q r2 : Nat), s8 = .int .i64 ((k : Int) - 1) ∧ s5 = .int .u64 r2 ∧ wr = (w.alloc (Obj.cells #[Value.int IntKind.u64 ↑x, Value.int IntKind.u64 ↑y] 75)).alloc (Obj.cells #[Value.int IntKind.u64 q0, Value.int IntKind.u64 Q] 75) ∧ Aside0 (DInv c r y k Q r2))
   case atStart => exact ⟨0, r, rfl, rfl, rfl, ⟨DInv.start hrc hy⟩⟩
   case round =>
    obtain ⟨Q, r2, rfl, rfl, rfl, HI⟩ := hrel
    cases gk with
    | zero =>
     obtain ⟨hd1, hd2⟩ := HI.out.done
     (try simp only [Nat.zero_mul, Nat.zero_add] at hd1 hd2)
     have HD := Aside0.mk (show DOut x y c (1 + 1) r2 q0 Q from ⟨fun h => by omega, fun h => by omega, fun _ => ⟨by rw [hd2, HO1.out.1], HO1.out.2, by rw [hd1, HO1.out.1]⟩⟩)
     clear hd1 hd2
     go_wp2_with fail
     go_roundg 0
     case rel => exact ⟨1 + 1, r2, q0, Q, by omega, by go_num, rfl, rfl, HD⟩
     case measure => omega
    | succ k =>
     have hk := HI.out.le
     obtain ⟨b, s, t, cv, N⟩ := HI.out.nums hc2
     obtain ⟨hb, hs, ht, hcc, hq, hq1, hw⟩ := N
     have hN := HI.out.next
     obtain ⟨Q2, eQ2⟩ : ∃ Q2, Q2 = 2 * Q := ⟨_, rfl⟩
     obtain ⟨Q3, eQ3⟩ : ∃ Q3, Q3 = 2 * Q + 1 := ⟨_, rfl⟩
     rw [← eQ3] at hq1 hN
     rw [← eQ2] at hq hq1 hN
     have HN := Aside0.mk hN
     clear eQ2 eQ3 hN
     have HW := Aside0.mk hw
     clear hw
     have hlt := HI.out.lt
     obtain ⟨Z, hZ⟩ : ∃ Z, IntKind.u64.wrap ((y : Int) * 2 ^ (63 - k)) = Z := ⟨_, rfl⟩
     have HZ := Aside0.mk hZ
     by_cases hr0 : r2 = 0 ∧ Z = 0
     ·obtain ⟨h1, h2⟩ := hr0
      have eZ : y * 2 ^ (63 - k) % 18446744073709551616 = 0 := by
       have := HZ.out
       rw [h2, show ((y : Int) * 2 ^ (63 - k)) = ((y * 2 ^ (63 - k) : Nat) : Int) by simp, wu64n] at this
       omega
      have hE := DInv.early (by rw [← h1]; exact HI.out) eZ
      have hQ : IntKind.u64.wrap ((Q : Int) * 2 ^ (k + 1)) = ((Q * 2 ^ (k + 1) : Nat) : Int) := by
       rw [show ((Q : Int) * 2 ^ (k + 1)) = ((Q * 2 ^ (k + 1) : Nat) : Int) by simp, wu64n]
       have := hE.2; congr 1; omega
      obtain ⟨hd1, hd2⟩ := hE.1.done
      (try simp only [Nat.zero_mul, Nat.zero_add] at hd1 hd2)
      generalize Q * 2 ^ (k + 1) = Q9 at hQ hd1
      have HD := Aside0.mk (show DOut x y c (1 + 1) r2 q0 Q9 from by rw [h1]; exact ⟨fun h => by omega, fun h => by omega, fun _ => ⟨by rw [hd2, HO1.out.1], HO1.out.2, by rw [hd1, HO1.out.1]⟩⟩)
      clear eZ hE hd1 hd2 hb hs ht hcc hq hq1
      subst h1
      subst h2
      go_wp2_with fail
      go_roundg 0
      case rel => exact ⟨1 + 1, 0, q0, Q9, by omega, by go_num, rfl, rfl, HD⟩
      case measure => omega
     ·have hgo : (((r2 : Int) == 0) = false) ∨ (((r2 : Int) == 0) = true ∧ (Z == 0) = false) := by
       rw [beq_eq_false_iff_ne, beq_iff_eq, beq_eq_false_iff_ne]
       rcases Nat.eq_zero_or_pos r2 with h | h
       ·exact .inr ⟨by omega, fun hz => hr0 ⟨h, hz⟩⟩
       ·exact .inl (by omega)
      clear hr0
      rcases HW.out with ⟨h1, h2, h3⟩ | ⟨h1, h2, h3, h4⟩ | ⟨h1, h2, h3, h4⟩
      ·have HN1 := Aside0.mk (HN.out.1 h2)
       obtain ⟨r9, hr9⟩ : ∃ r9, r9 = 2 * r2 + y / 2 ^ k % 2 - c := ⟨_, rfl⟩
       rw [← hr9] at h3 HN1
       rw [h1] at hcc
       clear h1 h2 hr9 HW HN
       rcases hgo with hg0 | ⟨hg0, hg1⟩
       all_goals
        go_wp2_with fail
        go_roundg k
        case rel => exact ⟨Q3, r9, by go_num, rfl, rfl, HN1⟩
        case measure => omega
      ·have HN1 := Aside0.mk (HN.out.1 h3)
       obtain ⟨r9, hr9⟩ : ∃ r9, r9 = 2 * r2 + y / 2 ^ k % 2 - c := ⟨_, rfl⟩
       rw [← hr9] at h4 HN1
       rw [h1] at hcc
       clear h1 h3 hr9 HW HN
       rcases hgo with hg0 | ⟨hg0, hg1⟩
       all_goals
        go_wp2_with fail
        go_roundg k
        case rel => exact ⟨Q3, r9, by go_num, rfl, rfl, HN1⟩
        case measure => omega
      ·have HN1 := Aside0.mk (HN.out.2 h3)
       obtain ⟨r9, hr9⟩ : ∃ r9, r9 = 2 * r2 + y / 2 ^ k % 2 := ⟨_, rfl⟩
       rw [← hr9] at h4 HN1
       rw [h1] at hcc
       rw [h4] at ht h2
       clear h1 h3 h4 hr9 HW HN
       rcases hgo with hg0 | ⟨hg0, hg1⟩
       all_goals
        go_wp2_with fail
        go_roundg k
        case rel => exact ⟨Q2, r9, by go_num, rfl, rfl, HN1⟩
        case measure => omega
  ·obtain ⟨hrx, hqx, hqy⟩ := HO.out.at2 rfl
   have HO2 := Aside0.mk (And.intro hrx (And.intro hqx hqy))
   clear hrx hqx hqy HO
   go_wp2_with fail
   rw [Exit.noGoto_ret]
   refine bodyPost_ret (v := .tuple #[.agg #[.int .u64 (q0 : Int), .int .u64 (q1 : Int)], .int .u64 (r : Int)]) (by simp [results, Try.results57, go_sem]) rfl ⟨?_, ?_⟩
   ·rw [HO2.out.1, HO2.out.2.1, HO2.out.2.2]
   ·rw [HO2.out.2.1, HO2.out.2.2]


/-! ### muldiv_away: function 58 (by hand) -/
def muldiv_away.f (a0 : Int) (a1 : Bool) (a2 : Bool) (a3 : Int) (a4 : Int) : Option (Bool) := if 0 ≤ a3 ∧ a3 < a4 ∧ a4 < 18446744073709551616 then some (mdAway a0 a1 a2 a3.toNat a4.toNat) else none
set_option maxHeartbeats 1600000 in
theorem away_any (mode : Int) (neg odd : Bool) (r c : Nat) (hr : r < c) (hc : c < 18446744073709551616) (w : World) :
  Calls Try.prog 58 #[.int .i64 mode, .bool neg, .bool odd, .int .u64 (r : Int), .int .u64 (c : Int)] w fun e w' => e = .returned (.bool (mdAway mode neg odd r c)) ∧ w = w' := by
 obtain ⟨q, hq⟩ : ∃ q, q = mdAway mode neg odd r c := ⟨_, rfl⟩
 rw [← hq]
 unfold mdAway at hq
 obtain ⟨s, hs⟩ : ∃ s : Nat, s = c - r := ⟨_, rfl⟩
 have hw : IntKind.u64.wrap ((c : Int) - (r : Int)) = (s : Int) := by rw [wu64]; omega
 rw [← hs] at hq
 clear hs
 by_cases h0 : r = 0
 ·have hr0 : ((r : Int) == 0) = true := by rw [beq_iff_eq]; omega
  simp only [h0, ne_eq, not_true_eq_false, decide_false, Bool.false_and] at hq
  subst hq
  clear h0
  go_enter Try.func58, Try.ntmps58
  go_wp2
  go_ret
  exact ⟨rfl, rfl⟩
 ·have hr0 : ((r : Int) == 0) = false := by rw [beq_eq_false_iff_ne]; omega
  simp only [h0, ne_eq, not_false_eq_true, decide_true, Bool.true_and] at hq
  clear h0
  by_cases m2 : mode = 2
  ·subst m2
   simp at hq
   subst hq
   go_enter Try.func58, Try.ntmps58
   go_wp2
   go_ret
   exact ⟨rfl, rfl⟩
  ·have e2 : (mode == 2) = false := by rw [beq_eq_false_iff_ne]; exact m2
   by_cases m3 : mode = 3
   ·subst m3
    simp at hq
    have HQ := Aside0.mk hq
    clear hq m2 e2
    go_enter Try.func58, Try.ntmps58
    go_wp2
    go_ret
    exact ⟨ret_bool (by rw [HQ.out]; (try simp)), rfl⟩
   ·have e3 : (mode == 3) = false := by rw [beq_eq_false_iff_ne]; exact m3
    by_cases m4 : mode = 4
    ·subst m4
     simp at hq
     have HQ := Aside0.mk hq
     clear hq m2 m3 e2 e3
     by_cases g1 : s < r
     ·go_enter Try.func58, Try.ntmps58
      go_wp2
      go_ret
      exact ⟨ret_bool (by rw [HQ.out]; simp [g1]), rfl⟩
     ·by_cases g2 : r = s
      ·have g3 : ((r : Int) == (s : Int)) = true := by rw [beq_iff_eq]; omega
       have HG := Aside0.mk g2
       clear g2
       go_enter Try.func58, Try.ntmps58
       go_wp2
       go_ret
       exact ⟨ret_bool (by rw [HQ.out, HG.out]; simp), rfl⟩
      ·have g3 : ((r : Int) == (s : Int)) = false := by rw [beq_eq_false_iff_ne]; omega
       go_enter Try.func58, Try.ntmps58
       go_wp2
       go_ret
       exact ⟨ret_bool (by rw [HQ.out]; simp [g1, g2]), rfl⟩
    ·have e4 : (mode == 4) = false := by rw [beq_eq_false_iff_ne]; exact m4
     by_cases m5 : mode = 5
     ·subst m5
      simp at hq
      subst hq
      clear m2 m3 m4 e2 e3 e4
      go_enter Try.func58, Try.ntmps58
      go_wp2
      go_ret
      exact ⟨rfl, rfl⟩
     ·have e5 : (mode == 5) = false := by rw [beq_eq_false_iff_ne]; exact m5
      simp [m2, m3, m4, m5] at hq
      subst hq
      clear m2 m3 m4 m5
      go_enter Try.func58, Try.ntmps58
      go_wp2
      go_ret
      exact ⟨rfl, rfl⟩
theorem muldiv_away.calls (a0 : Int) (a1 : Bool) (a2 : Bool) (a3 : Int) (a4 : Int) (r : Bool) (w : World) (h : muldiv_away.f a0 a1 a2 a3 a4 = some r) :
  Calls Try.prog 58 #[.int .i64 a0, .bool a1, .bool a2, .int .u64 a3, .int .u64 a4] w fun e w' => e = .returned (.bool r) ∧ Drawn0 w w' := by
 unfold muldiv_away.f at h
 split at h <;> simp only [Option.some.injEq, reduceCtorEq] at h
 rename_i hb
 obtain ⟨h0, h1, h2⟩ := hb
 obtain ⟨x, rfl⟩ := Int.eq_ofNat_of_zero_le h0
 obtain ⟨y, rfl⟩ := Int.eq_ofNat_of_zero_le (show 0 ≤ a4 by omega)
 subst h
 refine (away_any a0 a1 a2 x y (by omega) (by omega) w).mono ?_
 rintro e w' ⟨rfl, rfl⟩
 exact ⟨rfl, Drawn0.refl _⟩


/-! ### muldiv_signed: function 59 (by hand) -/
def muldiv_signed.f (a0 : Bool) (a1 : Int) : Option (Int × Int) := if 0 ≤ a1 ∧ a1 < 18446744073709551616 then some (mdSigned a0 a1.toNat) else none
set_option maxHeartbeats 1600000 in
set_option maxRecDepth 100000 in
theorem signed_any (neg : Bool) (size : Nat) (h : size < 18446744073709551616) (w : World) :
  Calls Try.prog 59 #[.bool neg, .int .u64 (size : Int)] w fun e w' => e = .returned (.tuple #[.int .i64 (mdSigned neg size).1, .int .i64 (mdSigned neg size).2]) ∧ w = w' := by
 obtain ⟨m, hm⟩ : ∃ m, m = mdSigned neg size := ⟨_, rfl⟩
 rw [← hm]
 unfold mdSigned at hm
 cases neg
 ·rw [if_neg (by decide)] at hm
  by_cases h1 : 9223372036854775808 ≤ size
  ·rw [if_pos h1] at hm
   subst hm
   have h1' : decide ((9223372036854775808 : Int) ≤ size) = true := decide_eq_true (by omega)
   clear h1
   go_enter Try.func59, Try.ntmps59
   go_wp2
   go_ret2
   exact ⟨rfl, rfl⟩
  ·rw [if_neg h1] at hm
   subst hm
   have h1' : decide ((9223372036854775808 : Int) ≤ size) = false := decide_eq_false (by omega)
   have hz1 : (size : Int) < 9223372036854775808 := by omega
   clear h1
   go_enter Try.func59, Try.ntmps59
   go_wp2
   go_ret2
   exact ⟨rfl, rfl⟩
 ·rw [if_pos rfl] at hm
  by_cases h1 : 9223372036854775808 < size
  ·rw [if_pos h1] at hm
   subst hm
   have h1' : (9223372036854775808 : Int) < size := by omega
   clear h1
   go_enter Try.func59, Try.ntmps59
   go_wp2
   go_ret2
   exact ⟨rfl, rfl⟩
  ·rw [if_neg h1] at hm
   obtain ⟨z, hz⟩ : ∃ z : Int, z = -(size : Int) := ⟨_, rfl⟩
   obtain ⟨u, hu⟩ : ∃ u : Int, IntKind.u64.wrap ((size : Int) - 1) = u := ⟨_, rfl⟩
   obtain ⟨v, hv⟩ : ∃ v : Int, wrap64 u = v := ⟨_, rfl⟩
   have eu : u = (if size = 0 then 18446744073709551615 else (size : Int) - 1) := by rw [← hu, wu64]; split <;> omega
   have ev : v = (size : Int) - 1 := by rw [← hv, eu]; unfold wrap64; split <;> omega
   have e1 : -1 ≤ v := by omega
   have e2 : v ≤ 9223372036854775807 := by omega
   rw [← hz] at hm
   have HZ := Aside0.mk (show -v - 1 = z by omega)
   have HM := Aside0.mk hm
   have h1' : (size : Int) ≤ 9223372036854775808 := by omega
   clear ev eu hz hm h1
   go_enter Try.func59, Try.ntmps59
   go_wp2
   go_ret2
   exact ⟨by rw [HM.out, ← HZ.out]; rfl, rfl⟩
theorem muldiv_signed.calls (a0 : Bool) (a1 : Int) (r1 : Int) (r2 : Int) (w : World) (h : muldiv_signed.f a0 a1 = some (r1, r2)) :
  Calls Try.prog 59 #[.bool a0, .int .u64 a1] w fun e w' => e = .returned (.tuple #[.int .i64 r1, .int .i64 r2]) ∧ Drawn0 w w' := by
 unfold muldiv_signed.f at h
 split at h <;> simp only [Option.some.injEq, reduceCtorEq] at h
 rename_i hb
 obtain ⟨x, rfl⟩ := Int.eq_ofNat_of_zero_le hb.1
 refine (signed_any a0 x (by omega) w).mono ?_
 rintro e w' ⟨rfl, rfl⟩
 exact ⟨by rw [Int.toNat_natCast] at h; rw [h], Drawn0.refl _⟩


/-! ### muldiv_MulDiv: function 37 (by hand) -/
theorem eq59 (a b c d : Int) (W : World) : (Op.equalIn 10000 75 (.agg #[.int .u64 a, .int .u64 b]) (.agg #[.int .u64 c, .int .u64 d])).run Try.prog W = .ok (a == c && b == d) W := by
 have hs : ∀ W, (Go.sizeOf 49).run Try.prog W = .ok 1 W := fun _ => by kernel_rfl
 have p1 : ∀ (x y : Int) W, (part 49 #[.int .u64 x, .int .u64 y] 0).run Try.prog W = .ok (.int .u64 x) W := fun _ _ _ => by kernel_rfl
 have p2 : ∀ (x y : Int) W, (part 49 #[.int .u64 x, .int .u64 y] 1).run Try.prog W = .ok (.int .u64 y) W := fun _ _ _ => by kernel_rfl
 have e1 : ∀ (x y : Int) W, (Op.equalIn 9999 49 (.int .u64 x) (.int .u64 y)).run Try.prog W = .ok (x == y) W := fun x y W => run_equalIn_int W 9998 49 .u64 .u64 x y Try.underlying49
 rw [show (10000 : Nat) = 9999 + 1 from rfl, Op.equalIn]
 simp only [Sem.run_bind, run_underlying Try.underlying75, Result.andThen_ok, hs]
 rw [Std.Legacy.Range.forIn_eq_forIn_range']
 simp [Std.Legacy.Range.size, List.range', p1, p2, e1]
 by_cases h1 : a = c <;> by_cases h2 : b = d <;> simp [h1, h2]
set_option maxHeartbeats 3200000 in
set_option maxRecDepth 100000 in
theorem md (a b c mode : Int) (ha : I64 a) (hbb : I64 b) (hcc : I64 c) (h1 : 1 ≤ mode) (h2 : mode ≤ 5) (hc : (c == 0) = false) (hcn : 0 < c.natAbs) (w : World) :
  Calls Try.prog 37 #[.int .i64 a, .int .i64 b, .int .i64 c, .int .i64 mode] w fun e w' => e = .returned (.tuple #[.int .i64 (mulDivS a b c mode).1, .int .i64 (mulDivS a b c mode).2]) ∧ Below w.heap.size w w' := by
 obtain ⟨x, hx⟩ : ∃ x : Nat, x = a.natAbs := ⟨_, rfl⟩
 obtain ⟨y, hy⟩ : ∃ y : Nat, y = b.natAbs := ⟨_, rfl⟩
 obtain ⟨z, hz⟩ : ∃ z : Nat, z = c.natAbs := ⟨_, rfl⟩
 rw [← hz] at hcn
 have hxb : x < 18446744073709551616 := by unfold I64 at ha; omega
 have hyb : y < 18446744073709551616 := by unfold I64 at hbb; omega
 have hzb : z < 18446744073709551616 := by unfold I64 at hcc; omega
 have HXB := Aside0.mk hxb
 have HYB := Aside0.mk hyb
 have HZB := Aside0.mk hzb
 have HIa := Aside0.mk ha
 have HIb := Aside0.mk hbb
 have HIc := Aside0.mk hcc
 clear hxb hyb hzb ha hbb hcc
 have HX := Aside0.mk hx
 have HY := Aside0.mk hy
 have HZ := Aside0.mk hz
 clear hx hy hz
 go_enter Try.func37, Try.ntmps37
 go_wp2_with fail
 refine (mag a HIa.out _).mono ?_
 rintro e w' ⟨rfl, rfl⟩
 rw [← HX.out]
 go_wp2_with fail
 refine (mag b HIb.out _).mono ?_
 rintro e w' ⟨rfl, rfl⟩
 rw [← HY.out]
 go_wp2_with fail
 refine (mulx x y HXB.out HYB.out _).mono ?_
 rintro e w1 ⟨rfl, rfl⟩
 generalize hphi : x * y / 18446744073709551616 = phi
 generalize hplo : x * y % 18446744073709551616 = plo
 have HPhi := Aside0.mk hphi
 have HPlo := Aside0.mk hplo
 clear hphi hplo
 have hg : Try.prog.eqGuardType Try.prog.depth 75 = false := by kernel_rfl
 obtain ⟨pz, hpz⟩ : ∃ pz : Bool, pz = ((phi : Int) == 0 && (plo : Int) == 0) := ⟨_, rfl⟩
 have hne := fun W => eq59 (phi : Int) (plo : Int) 0 0 W
 rw [← hpz] at hne
 have HPZ := Aside0.mk hpz
 clear hpz
 obtain ⟨ng, hng⟩ : ∃ ng : Bool, ng = (!pz && ((!(!decide (a < 0) == decide (b < 0)) == decide (c < 0)))) := ⟨_, rfl⟩
 have HNG := Aside0.mk hng
 clear hng
 go_upto_region 6 with fail
 go_cut [11] (fun s11 wx => s11 = .bool ng ∧ wx = (w.alloc (.cells #[.int .u64 phi, .int .u64 plo] 75)).alloc (.cells #[.int .u64 phi, .int .u64 plo] 75))
 case first =>
  cases pz
  ·go_wp2_with fail
   go_meet
   exact ⟨by rw [HNG.out]; rfl, rfl⟩
  ·go_wp2_with fail
   go_meet
   exact ⟨by rw [HNG.out]; rfl, rfl⟩
 case rest =>
  obtain ⟨rfl, rfl⟩ := hcut
  clear hne hg
  have hdiv := fun W => divide_calls phi plo z (md_hi HPhi.out HXB.out HYB.out) (by have := HPlo.out; omega) hcn HZB.out W
  generalize hQ0 : phi / z = Q0 at hdiv
  generalize hQ1 : (phi % z * 18446744073709551616 + plo) / z = Q1 at hdiv
  generalize hR : (phi % z * 18446744073709551616 + plo) % z = R at hdiv
  have HQ0 := Aside0.mk hQ0
  have HQ1 := Aside0.mk hQ1
  have HR := Aside0.mk hR
  have HDiv := Aside0.mk hdiv
  clear hQ0 hQ1 hR hdiv
  go_upto_region 7 with fail
  go_cut [12, 13] (fun s12 s13 wx => ∃ g : Nat, s12 = .pointer (some ⟨g, 0, none⟩) ∧ s13 = .int .u64 R ∧ wx.cell? ⟨g, 0, none⟩ = some (.int .u64 Q0) ∧ wx.cell? ⟨g, 1, none⟩ = some (.int .u64 Q1) ∧ wx.frozen? ⟨g, 0, none⟩ = false ∧ Below w.heap.size w wx)
  case first =>
   go_region_with (first
    | (go_at_call 56; refine (mag c HIc.out _).mono ?_; rintro e w' ⟨rfl, rfl⟩; rw [← HZ.out])
    | (go_at_call 57; refine (HDiv.out _).mono ?_; rintro e w2 ⟨rfl, rfl⟩))
   all_goals (go_wp2_with fail; go_meet; refine ⟨_, rfl, rfl, ?_, ?_, ?_, ?_⟩)
   all_goals first | (go_simp; done) | (simp [World.cell?_alloc_new]; done) | (repeat (first | exact Below.refl _ _ | refine Below.drew ?_ | refine Below.alloc ?_ (by simp; try omega) _ | refine Below.setCell ?_ (by simp; try omega) _))
  case rest =>
   obtain ⟨g, rfl, rfl, hc0, hc1, hf0, hbel⟩ := hcut
   rename World => wx
   have HBel := Aside0.mk hbel
   clear hbel
   have hR : R < z := by rw [← HR.out]; exact Nat.mod_lt _ hcn
   have HAd := Aside0.mk (fun W => away_any mode ng (decide (Q1 % 2 = 1)) R z hR HZB.out W)
   have HFin := Aside0.mk (fun h => md_fin a b c mode x y z phi plo Q0 Q1 R pz ng HX.out HY.out HZ.out HPhi.out HPlo.out HQ0.out HQ1.out HR.out HPZ.out HNG.out hcn h)
   have hQ1 : Q1 < 18446744073709551616 := md_q1 hcn HPlo.out HQ1.out
   clear hR
   have hodd : ((Q1 : Int) % 2 == 1) = decide (Q1 % 2 = 1) := by rw [Bool.eq_iff_iff, beq_iff_eq, decide_eq_true_iff]; omega
   have HOdd := Aside0.mk hodd
   clear hodd
   by_cases hq : Q0 = 0
   ·have hm := (HFin.out ⟨h1, h2⟩).1 hq
    have HM := Aside0.mk hm
    clear hm
    go_wp2_with fail
    refine (mag c HIc.out _).mono ?_
    rintro e w' ⟨rfl, rfl⟩
    rw [← HZ.out]
    go_wp2_with fail
    rw [HOdd.out]
    refine (HAd.out _).mono ?_
    rintro e w' ⟨rfl, rfl⟩
    generalize haw : mdAway mode ng (decide (Q1 % 2 = 1)) R z = aw
    rw [haw] at HM
    clear haw
    cases aw
    ·go_wp2_with fail
     refine (signed_any ng Q1 hQ1 _).mono ?_
     rintro e w' ⟨rfl, rfl⟩
     go_wp2_with fail
     go_ret2
     exact ⟨by rw [HM.out]; rfl, HBel.out⟩
    ·by_cases hov : Q1 = 18446744073709551615
     ·have hwr : IntKind.u64.wrap ((Q1 : Int) + 1) = 0 := by rw [wu64]; omega
      have ho : mdSigned ng (Q1 + 1) = (0, 4) := by rw [hov]; exact mdSigned_big ng (by omega)
      have HO := Aside0.mk ho
      clear ho hov
      go_wp2_with fail
      go_ret2
      exact ⟨by rw [HM.out]; simp only [if_true]; rw [HO.out]; rfl, HBel.out⟩
     ·obtain ⟨Q2, hQ2⟩ : ∃ Q2, Q2 = Q1 + 1 := ⟨_, rfl⟩
      have hwr : IntKind.u64.wrap ((Q1 : Int) + 1) = (Q2 : Int) := by rw [wu64]; omega
      have hne0 : ((Q2 : Int) == 0) = false := by rw [beq_eq_false_iff_ne]; omega
      have hb2 : Q2 < 18446744073709551616 := by omega
      have HM2 := HM.out
      rw [if_pos rfl, ← hQ2] at HM2
      have HM3 := Aside0.mk HM2
      have HB2 := Aside0.mk hb2
      clear HM2 hb2 hov hQ1 hQ2
      go_wp2_with fail
      refine (signed_any ng Q2 HB2.out _).mono ?_
      rintro e w' ⟨rfl, rfl⟩
      go_wp2_with fail
      go_ret2
      exact ⟨by rw [HM3.out]; rfl, HBel.out⟩
   ·have hm := (HFin.out ⟨h1, h2⟩).2 hq
    have HM := Aside0.mk hm
    clear hm
    go_wp2_with fail
    go_ret2
    exact ⟨by rw [HM.out]; rfl, HBel.out⟩

def muldiv_MulDiv.f (a0 : Int) (a1 : Int) (a2 : Int) (a3 : Int) : Option (Int × Int) := if I64 a0 ∧ I64 a1 ∧ I64 a2 then some (mulDivS a0 a1 a2 a3) else none
theorem muldiv_MulDiv.calls (a0 : Int) (a1 : Int) (a2 : Int) (a3 : Int) (r1 : Int) (r2 : Int) (w : World) (h : muldiv_MulDiv.f a0 a1 a2 a3 = some (r1, r2)) :
  Calls Try.prog 37 #[.int .i64 a0, .int .i64 a1, .int .i64 a2, .int .i64 a3] w fun e w' => e = .returned (.tuple #[.int .i64 r1, .int .i64 r2]) ∧ Below w.heap.size w w' := by
 unfold muldiv_MulDiv.f at h
 split at h <;> simp only [Option.some.injEq, reduceCtorEq] at h
 rename_i hb
 have e1 : r1 = (mulDivS a0 a1 a2 a3).1 := by rw [h]
 have e2 : r2 = (mulDivS a0 a1 a2 a3).2 := by rw [h]
 subst e1 e2
 clear h
 by_cases hm : a3 < 1 ∨ 5 < a3
 ·have hs : mulDivS a0 a1 a2 a3 = (0, 10) := by unfold mulDivS; rw [if_pos hm]
  rw [hs]
  clear hb hs
  rcases hm with h1 | h1
  ·go_enter Try.func37, Try.ntmps37
   go_wp2
   go_ret2
   exact ⟨rfl, Below.refl _ _⟩
  ·have h2 : ¬ a3 < 1 := by omega
   go_enter Try.func37, Try.ntmps37
   go_wp2
   go_ret2
   exact ⟨rfl, Below.refl _ _⟩
 ·by_cases hc : a2 = 0
  ·have hs : mulDivS a0 a1 a2 a3 = (0, 2) := by unfold mulDivS; rw [if_neg hm, if_pos hc]
   rw [hs]
   clear hb hs
   subst hc
   have h1 : 1 ≤ a3 := by omega
   have h2 : a3 ≤ 5 := by omega
   clear hm
   go_enter Try.func37, Try.ntmps37
   go_wp2
   go_ret2
   exact ⟨rfl, Below.refl _ _⟩
  ·exact md a0 a1 a2 a3 hb.1 hb.2.1 hb.2.2 (by omega) (by omega) (by rw [beq_eq_false_iff_ne]; exact hc) (by omega) w

/-! ### frac_Apply: function 17 -/
def frac_Apply.f (k : Nat) (a0_0 : Int) (a0_1 : Int) (a1 : Int) (a2 : Int) : Option (Int × Int) := (frac_Right.f k a0_0 a0_1).bind fun t115 => (if t115 = true then ((muldiv_MulDiv.f a0_0 a1 a0_1 a2).bind fun bt116 => (some (bt116.1, bt116.2))) else (some (0, 2)))
theorem frac_Apply.mono : ∀ a0 a1 a2 a3 k, LeO (frac_Apply.f k a0 a1 a2 a3) (frac_Apply.f (k + 1) a0 a1 a2 a3) := by
 intro a0 a1 a2 a3 k
 unfold frac_Apply.f
 repeat' first
   | (with_reducible exact frac_Right.mono _ _ _)
   | (with_reducible exact LeO.refl _)
   | (with_reducible exact LeO.none _)
   | (with_reducible refine LeO.ite ?_ ?_)
   | (with_reducible refine LeO.bind ?_ (fun _ => ?_))
   | exact frac_Right.mono _ _ _
   | exact LeO.none _
   | refine LeO.ite ?_ ?_
   | refine LeO.bind ?_ (fun _ => ?_)
set_option maxHeartbeats 8000000 in
set_option maxRecDepth 100000 in
theorem frac_Apply.calls (k : Nat) (a0_0 : Int) (a0_1 : Int) (a1 : Int) (a2 : Int) (r1 : Int) (r2 : Int) (w : World) (h : frac_Apply.f k a0_0 a0_1 a1 a2 = some (r1, r2)) :
  Calls Try.prog 17 #[.agg #[.int .i64 a0_0, .int .i64 a0_1], .int .i64 a1, .int .i64 a2] w fun e w' => e = .returned (.tuple #[.int .i64 r1, .int .i64 r2]) ∧ Below w.heap.size w w' := by
 have hu23 := Try.underlying23
 have HB := Aside0.mk (Below.refl w.heap.size w)
 have H : ((frac_Right.f k a0_0 a0_1).bind fun t115 => (if t115 = true then ((muldiv_MulDiv.f a0_0 a1 a0_1 a2).bind fun bt116 => (some (bt116.1, bt116.2))) else (some (0, 2)))) = some (r1, r2) := h
 clear h
 replace H := Option.bind_eq_some_iff.mp H
 obtain ⟨t115, A40, H⟩ := H
 replace H : (if t115 = true then ((muldiv_MulDiv.f a0_0 a1 a0_1 a2).bind fun bt116 => (some (bt116.1, bt116.2))) else (some (0, 2))) = some (r1, r2) := H
 have A4 := Aside0.mk A40
 clear A40
 by_cases c5 : t115 = true
 ·subst c5
  have H1 : ((muldiv_MulDiv.f a0_0 a1 a0_1 a2).bind fun bt116 => (some (bt116.1, bt116.2))) = some (r1, r2) := by rw [if_pos rfl] at H; exact H
  clear H
  have H := H1
  clear H1
  replace H := Option.bind_eq_some_iff.mp H
  obtain ⟨⟨t116, t117⟩, A60, H⟩ := H
  replace H : (some (t116, t117)) = some (r1, r2) := H
  have A6 := Aside0.mk A60
  clear A60
  simp only [Option.some.injEq, Prod.mk.injEq] at H
  obtain ⟨rfl, rfl⟩ := H
  go_enter Try.func17, Try.ntmps17
  go_wp2_with (first | ((with_reducible refine gate_dst (N := 3) rfl ?_); refine box_event ?hg (N := 3) ?hd (cs := #[.int .i64 a0_0, .int .i64 a0_1]) (t := 23) ?hr ?_; (case hd => rfl); (case hg => rfl); (case hr => first | (go_simp; done) | (go_simp; rfl)); intro gb114 hg w7 hbox hb; have n0_ := Aside0.mk (below_step q11 hb); have n1_ := Aside0.mk (hbox); have n2_ := Aside0.mk ((q12 : w.heap.size ≤ gb114)); have n3_ := Aside0.mk ((q12 : w.heap.size ≤ gb114)); clear HB; have HB := n0_; have BK114 := n1_; have GW114 := n2_; have GE114 := n3_; clear n0_ n1_ n2_ n3_; clear hb hbox hg; have hcz8_0 : w7.cell? ⟨gb114, 0, none⟩ = some (.int .i64 a0_0) := (blk_cell BK114.out 0).trans rfl; have hcz8_1 : w7.cell? ⟨gb114, 1, none⟩ = some (.int .i64 a0_1) := (blk_cell BK114.out 1).trans rfl; have hfz8_0 := blk_frozen BK114.out 0; have hfz8_1 := blk_frozen BK114.out 1) | ((with_reducible refine gate_callee (f := 12) rfl ?_); refine goesL_ (some 9) rfl rfl Try.func12 (by kernel_rfl) rfl #[.agg #[.int .i64 a0_0, .int .i64 a0_1]] rfl q20 ?_; (with_reducible refine (frac_Right.calls k a0_0 a0_1 true _ A4.out).mono ?_); rintro e w9 ⟨rfl, hb⟩; refine ⟨_, rfl, ?_⟩; have n0_ := Aside0.mk (blk_below (g := gb114) (o := .cells #[.int .i64 a0_0, .int .i64 a0_1] 23 (0, 0)) q186 hb); have n1_ := Aside0.mk (below_step q187 hb); clear BK114; clear HB; have BK114 := n0_; have HB := n1_; clear n0_ n1_; (try clear hb); (try clear hb2); (try clear hk); (try clear hi); have hcz10_0 : w9.cell? ⟨gb114, 0, none⟩ = some (.int .i64 a0_0) := (blk_cell BK114.out 0).trans rfl; have hcz10_1 : w9.cell? ⟨gb114, 1, none⟩ = some (.int .i64 a0_1) := (blk_cell BK114.out 1).trans rfl; have hfz10_0 := blk_frozen BK114.out 0; have hfz10_1 := blk_frozen BK114.out 1) | ((with_reducible refine gate_callee (f := 37) rfl ?_); refine goesL_ (some 17) rfl rfl Try.func37 (by kernel_rfl) rfl #[.int .i64 a0_0, .int .i64 a1, .int .i64 a0_1, .int .i64 a2] rfl q20 ?_; (with_reducible refine (muldiv_MulDiv.calls a0_0 a1 a0_1 a2 t116 t117 _ A6.out).mono ?_); rintro e w11 ⟨rfl, hb⟩; refine ⟨_, rfl, ?_⟩; have n0_ := Aside0.mk (blk_below (g := gb114) (o := .cells #[.int .i64 a0_0, .int .i64 a0_1] 23 (0, 0)) q186 hb); have n1_ := Aside0.mk (below_step q187 hb); clear BK114; clear HB; have BK114 := n0_; have HB := n1_; clear n0_ n1_; (try clear hb); (try clear hb2); (try clear hk); (try clear hi)))
  go_ret2
  exact ⟨q13, q187⟩
 ·replace c5 := Bool.eq_false_iff.mpr c5
  subst c5
  have H1 : (some (0, 2)) = some (r1, r2) := by rw [if_neg (show ¬ (false = true) by decide)] at H; exact H
  clear H
  have H := H1
  clear H1
  simp only [Option.some.injEq, Prod.mk.injEq] at H
  obtain ⟨rfl, rfl⟩ := H
  go_enter Try.func17, Try.ntmps17
  go_wp2_with (first | ((with_reducible refine gate_dst (N := 3) rfl ?_); refine box_event ?hg (N := 3) ?hd (cs := #[.int .i64 a0_0, .int .i64 a0_1]) (t := 23) ?hr ?_; (case hd => rfl); (case hg => rfl); (case hr => first | (go_simp; done) | (go_simp; rfl)); intro gb114 hg w12 hbox hb; have n0_ := Aside0.mk (below_step q11 hb); have n1_ := Aside0.mk (hbox); have n2_ := Aside0.mk ((q12 : w.heap.size ≤ gb114)); have n3_ := Aside0.mk ((q12 : w.heap.size ≤ gb114)); clear HB; have HB := n0_; have BK114 := n1_; have GW114 := n2_; have GE114 := n3_; clear n0_ n1_ n2_ n3_; clear hb hbox hg; have hcz13_0 : w12.cell? ⟨gb114, 0, none⟩ = some (.int .i64 a0_0) := (blk_cell BK114.out 0).trans rfl; have hcz13_1 : w12.cell? ⟨gb114, 1, none⟩ = some (.int .i64 a0_1) := (blk_cell BK114.out 1).trans rfl; have hfz13_0 := blk_frozen BK114.out 0; have hfz13_1 := blk_frozen BK114.out 1) | ((with_reducible refine gate_callee (f := 12) rfl ?_); refine goesL_ (some 9) rfl rfl Try.func12 (by kernel_rfl) rfl #[.agg #[.int .i64 a0_0, .int .i64 a0_1]] rfl q20 ?_; (with_reducible refine (frac_Right.calls k a0_0 a0_1 false _ A4.out).mono ?_); rintro e w14 ⟨rfl, hb⟩; refine ⟨_, rfl, ?_⟩; have n0_ := Aside0.mk (blk_below (g := gb114) (o := .cells #[.int .i64 a0_0, .int .i64 a0_1] 23 (0, 0)) q186 hb); have n1_ := Aside0.mk (below_step q187 hb); clear BK114; clear HB; have BK114 := n0_; have HB := n1_; clear n0_ n1_; (try clear hb); (try clear hb2); (try clear hk); (try clear hi)))
  go_ret2
  exact ⟨q13, q187⟩

/-! ### num_size: function 64 (by hand) -/
def num_size.f (a0 : Int) : Option (Int) := if I64 a0 then some (a0.natAbs : Int) else none
theorem num_size.same (a0 : Int) (hb : I64 a0) (w : World) :
  Calls Try.prog 64 #[.int .i64 a0] w fun e w' => e = .returned (.int .u64 (a0.natAbs : Int)) ∧ w = w' := by
 obtain ⟨h0, h1⟩ := hb
 by_cases h : a0 < 0
 ·go_enter Try.func64, Try.ntmps64
  go_wp2
  go_ret
  exact ⟨ret_int (by rw [wu64, wu64]; omega), rfl⟩
 ·go_enter Try.func64, Try.ntmps64
  go_wp2
  go_ret
  exact ⟨ret_int (by omega), rfl⟩
theorem num_size.calls (a0 : Int) (r : Int) (w : World) (h : num_size.f a0 = some r) :
  Calls Try.prog 64 #[.int .i64 a0] w fun e w' => e = .returned (.int .u64 r) ∧ Drawn0 w w' := by
 unfold num_size.f at h
 split at h <;> simp only [Option.some.injEq, reduceCtorEq] at h
 rename_i hb
 subst h
 refine (num_size.same a0 hb w).mono ?_
 rintro e w' ⟨rfl, rfl⟩
 exact ⟨rfl, Drawn0.refl _⟩


end Go.Proofs.Ytoenhagbgfkihaa.A
