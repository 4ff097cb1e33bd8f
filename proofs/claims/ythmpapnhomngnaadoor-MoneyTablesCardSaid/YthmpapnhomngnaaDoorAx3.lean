-- By gen.py, a program of this session's, over the print's forms: not the print's own text.
import Derived.Test.YthmpapnhomngnaaDoorAx0
import Derived.Test.YthmpapnhomngnaaDoorQ
namespace Go.Proofs.YthmpapnhomngnaaDoor.A
open Go.RowKit Go.Proofs.YthmpapnhomngnaaDoor.B Go.Proofs.YthmpapnhomngnaaDoorW.PrintWords Go.Proofs.YthmpapnhomngnaaDoorW.PrintLast Go.Proofs.YthmpapnhomngnaaDoorW.PrintMore
attribute [local go_sem] max2_int min2_int max_two min_two max_three min_three max_four min_four   -- for this text's walks alone
set_option linter.unusedVariables false
set_option linter.unusedSimpArgs false

/-! ### money_split: function 32 (by hand) -/
theorem digit_any (c : Int) (w : World) : Calls Tryd.prog 44 #[.int .i32 c] w fun e w' => e = .returned (.bool (decide (48 ≤ c) && decide (c ≤ 57))) ∧ w = w' := by
 by_cases h1 : 48 ≤ c
 ·go_enter Tryd.func44, Tryd.ntmps44
  go_wp2
  go_ret
  exact ⟨ret_bool (by simp [h1]), rfl⟩
 ·go_enter Tryd.func44, Tryd.ntmps44
  go_wp2
  go_ret
  exact ⟨ret_bool (by rw [decide_eq_false (show ¬ 48 ≤ c by omega)]; rfl), rfl⟩

set_option maxHeartbeats 3200000 in
theorem split_any (s : ByteArray) (hs : s.size ≤ 140737488351232) (w : World) : Calls Tryd.prog 32 #[.string s] w fun e w' => e = .returned (.tuple #[.string (ofL (splitL s.data.toList).1), .string (ofL (splitL s.data.toList).2.1), .bool (splitL s.data.toList).2.2]) ∧ Below w.heap.size w w' := by
 have HSZ := Aside0.mk (size_eq' s)
 generalize hP : (fun e w' => e = Ending.returned (.tuple #[.string (ofL (splitL s.data.toList).1), .string (ofL (splitL s.data.toList).2.1), .bool (splitL s.data.toList).2.2]) ∧ Below w.heap.size w w') = Post
 have HP := Aside0.mk hP
 clear hP
 have HB0 := Aside0.mk (show ∀ q p, Below w.heap.size w ((w.drewN q).iter s p) from fun q p => (pw_below_drewN (Below.refl _ _) q).alloc (Nat.le_refl _) _)
 go_enter Tryd.func32, Tryd.ntmps32
 go_wp2_with fail
 go_loopg [2, 3, 5, 6] s.size (fun g v2 v3 v5 v6 wr => ∃ (p : Nat) (whole rest : ByteArray) (points after : Int), p + g = s.size ∧ v2 = .string whole ∧ v3 = .string rest ∧ v5 = .int .i64 points ∧ v6 = .int .i32 after ∧ (∃ q, wr = (w.iter s p).drewN q) ∧ Aside0 (SInv s p whole rest points after))
 case atStart => exact ⟨0, ⟨#[]⟩, ⟨#[]⟩, 0, 0, by omega, rfl, rfl, rfl, rfl, ⟨0, rfl⟩, ⟨.inl ⟨rfl, rfl, rfl, fun j h => by omega, fun _ => rfl, fun h => absurd rfl h⟩⟩⟩
 case round =>
  obtain ⟨p, whole, rest, points, after, hg, rfl, rfl, rfl, rfl, ⟨q, rfl⟩, HI⟩ := hrel
  cases gk with
  | zero =>
   obtain rfl : p = s.size := by omega
   have hnx := fun ty => show (Instr.next (.pointer (some ⟨w.heap.size, 0, none⟩)) true ty).run Tryd.prog ((w.iter s s.size).drewN q) = _ from run_next_end (P := Tryd.prog) (w.drewN q) s s.size ty (Nat.lt_irrefl _)
   obtain ⟨F0, F1⟩ := HI.out.fin
   by_cases h0 : points = 0
   ·have hf := F0 h0
    have HF := Aside0.mk hf
    subst h0
    clear F0 F1 hf
    have hrest : rest.toList = [] := by
     rcases HI.out with ⟨_, _, h3, _⟩ | ⟨h, _⟩
     ·rw [ByteArray.toList_eq]; exact h3
     ·exact absurd h (by decide)
    have HR := Aside0.mk (show rest = ofL [] from ofL_of (by rw [← ByteArray.toList_eq]; exact hrest))
    go_wp2_with fail
    refine (digit_any after _).mono ?_
    rintro e w' ⟨rfl, rfl⟩
    generalize (decide (48 ≤ after) && decide (after ≤ 57)) = D at *
    cases D
    ·go_wp2_with fail
     go_ret3
     rw [← HP.out]
     exact ⟨by rw [HF.out, HR.out, ofL_data]; (try rfl), zq14⟩
    ·by_cases hw : s.toList = []
     ·have HW := Aside0.mk (show s.data.toList = [] by rw [← ByteArray.toList_eq]; exact hw)
      go_wp2_with fail
      go_ret3
      rw [← HP.out]
      exact ⟨by rw [HF.out, HR.out, ofL_data, HW.out]; (try rfl), zq14⟩
     ·have HW := Aside0.mk (show decide (s.data.toList ≠ []) = true by rw [decide_eq_true_iff, ← ByteArray.toList_eq]; exact hw)
      have hw2 : (!s.toList.isEmpty) = true := by simpa using hw
      go_wp2_with fail
      go_ret3
      rw [← HP.out]
      exact ⟨by rw [HF.out, HR.out, ofL_data, HW.out]; (try rfl), zq14⟩
   ·obtain ⟨hp1, hf⟩ := F1 h0
    have HF := Aside0.mk hf
    subst hp1
    clear F0 F1 hf h0
    have hq1 : whole = ofL whole.data.toList := (ofL_data _).symm
    have hq2 : rest = ofL rest.data.toList := (ofL_data _).symm
    have HQ1 := Aside0.mk hq1
    have HQ2 := Aside0.mk hq2
    clear hq1 hq2
    go_wp2_with fail
    refine (digit_any after _).mono ?_
    rintro e w' ⟨rfl, rfl⟩
    generalize (decide (48 ≤ after) && decide (after ≤ 57)) = D at *
    cases D
    ·go_wp2_with fail
     go_ret3
     rw [← HP.out]
     exact ⟨by rw [HF.out, ofL_data, ofL_data]; (try rfl), zq14⟩
    ·by_cases hw : whole.toList = []
     ·have HW := Aside0.mk (show decide (whole.data.toList ≠ []) = false by rw [← ByteArray.toList_eq, hw]; rfl)
      go_wp2_with fail
      go_ret3
      rw [← HP.out]
      exact ⟨by rw [HF.out, ofL_data, ofL_data, HW.out]; (try rfl), zq14⟩
     ·have HW := Aside0.mk (show decide (whole.data.toList ≠ []) = true by rw [decide_eq_true_iff, ← ByteArray.toList_eq]; exact hw)
      have hw2 : (!whole.toList.isEmpty) = true := by simpa using hw
      by_cases hr : rest.toList = []
      ·have HR := Aside0.mk (show decide (rest.data.toList ≠ []) = false by rw [← ByteArray.toList_eq, hr]; rfl)
       go_wp2_with fail
       go_ret3
       rw [← HP.out]
       exact ⟨by rw [HF.out, ofL_data, ofL_data, HW.out, HR.out]; (try rfl), zq14⟩
      ·have HR := Aside0.mk (show decide (rest.data.toList ≠ []) = true by rw [decide_eq_true_iff, ← ByteArray.toList_eq]; exact hr)
       have hr2 : (!rest.toList.isEmpty) = true := by simpa using hr
       go_wp2_with fail
       go_ret3
       rw [← HP.out]
       exact ⟨by rw [HF.out, ofL_data, ofL_data, HW.out, HR.out]; (try rfl), zq14⟩
  | succ g =>
   have hlt : p < s.size := by omega
   by_cases hasc : (s[p].toNat : Int) < 128
   ·have hnx := fun ty => show (Instr.next (.pointer (some ⟨w.heap.size, 0, none⟩)) true ty).run Tryd.prog ((w.iter s p).drewN q) = .ok _ ((w.iter s (p+1)).drewN q) from run_next_ascii (P := Tryd.prog) (w.drewN q) s p ty hlt (by omega)
    have HDi := Aside0.mk (isDig_eq s[p])
    by_cases hd : isDig s[p] = true
    ·have HN := Aside0.mk (HI.out.digit hlt hd)
     obtain ⟨d1, d2⟩ := (isDig_iff _).mp hd
     clear hd HDi
     generalize (s[p].toNat : Int) = c at *
     have hda := fun W => digit_any c W
     rw [decide_eq_true d1, decide_eq_true d2] at hda
     have HDa := Aside0.mk hda
     clear hda
     go_wp2_with fail
     refine (HDa.out _).mono ?_
     rintro e w' ⟨rfl, rfl⟩
     go_wp2_with fail
     go_roundg g
     case rel => exact ⟨p + 1, whole, rest, points, c, by omega, rfl, rfl, rfl, rfl, ⟨_, rfl⟩, HN⟩
     case measure => omega
    ·have hd' : isDig s[p] = false := Bool.eq_false_iff.mpr hd
     by_cases h46 : s[p] = 46 ∧ points = 0
     ·obtain ⟨e46, rfl⟩ := h46
      have HN := Aside0.mk (HI.out.point hlt e46)
      have ec : (s[p].toNat : Int) = 46 := by rw [e46]; rfl
      clear hd hd' HDi e46
      generalize (s[p].toNat : Int) = c at *
      subst ec
      have HDa := Aside0.mk (fun W => digit_any 46 W)
      go_wp2_with fail
      refine (HDa.out _).mono ?_
      rintro e w' ⟨rfl, rfl⟩
      go_wp2_with fail
      go_region
      go_wp2_with fail
      go_roundg g
      case rel => exact ⟨p + 1, s.extract 0 p, s.extract (p + 1) s.size, 1, 46, by omega, rfl, rfl, rfl, rfl, ⟨q + 1, rfl⟩, HN⟩
      case measure => omega
     ·have HB := Aside0.mk (HI.out.bad hlt hd' (fun e h => h46 ⟨e, h⟩))
      have h46' : ((s[p].toNat : Int) == 46) = false ∨ ((s[p].toNat : Int) == 46) = true ∧ (points == 0) = false := by
       by_cases e : s[p] = 46
       ·exact .inr ⟨by rw [e]; rfl, by rw [beq_eq_false_iff_ne]; exact fun h => h46 ⟨e, h⟩⟩
       ·exact .inl (by rw [beq_eq_false_iff_ne]; exact fun h => e ((byte_is s[p] 46).mp h))
      have hda := fun W => digit_any (s[p].toNat : Int) W
      rw [← HDi.out, hd'] at hda
      have HDa := Aside0.mk hda
      clear hd hd' h46 hda HDi
      generalize (s[p].toNat : Int) = c at *
      rcases h46' with h1 | ⟨h1, h2⟩
      all_goals
       go_wp2_with fail
       refine (HDa.out _).mono ?_
       rintro e w' ⟨rfl, rfl⟩
       go_wp2_with fail
       go_ret3
       rw [← HP.out]
       exact ⟨by rw [HB.out]; (try rfl), zq14⟩
   ·obtain ⟨c, width, hdc, hc⟩ := decode_over s p hlt (by omega)
    have hnx := fun ty => show (Instr.next (.pointer (some ⟨w.heap.size, 0, none⟩)) true ty).run Tryd.prog ((w.iter s p).drewN q) = .ok _ ((w.iter s (p+width)).drewN q) from run_next_over (P := Tryd.prog) (w.drewN q) s p ty hlt hdc
    have hd' : isDig s[p] = false := by rw [Bool.eq_false_iff]; intro h; have := (isDig_iff _).mp h; omega
    have HB := Aside0.mk (HI.out.bad hlt hd' (fun e => by rw [e] at hasc; exact absurd (by decide) hasc))
    have h1 : ((c : Int) == 46) = false := by rw [beq_eq_false_iff_ne]; omega
    have hda := fun W => digit_any (c : Int) W
    rw [decide_eq_false (show ¬ (c : Int) ≤ 57 by omega), Bool.and_false] at hda
    have HDa := Aside0.mk hda
    clear hdc hd' hasc hc hda
    go_wp2_with fail
    refine (HDa.out _).mono ?_
    rintro e w' ⟨rfl, rfl⟩
    go_wp2_with fail
    go_ret3
    rw [← HP.out]
    exact ⟨by rw [HB.out]; (try rfl), zq14⟩
def money_split.f (a0 : ByteArray) : Option (ByteArray × ByteArray × Bool) := if a0.size ≤ 140737488351232 then some (ofL (splitL a0.data.toList).1, ofL (splitL a0.data.toList).2.1, (splitL a0.data.toList).2.2) else none
theorem money_split.calls (a0 : ByteArray) (r1 : ByteArray) (r2 : ByteArray) (r3 : Bool) (w : World) (h : money_split.f a0 = some (r1, r2, r3)) :
  Calls Tryd.prog 32 #[.string a0] w fun e w' => e = .returned (.tuple #[.string r1, .string r2, .bool r3]) ∧ Below w.heap.size w w' := by
 unfold money_split.f at h
 split at h
 ·rename_i hs
  simp only [Option.some.injEq, Prod.mk.injEq] at h
  obtain ⟨rfl, rfl, rfl⟩ := h
  exact split_any a0 hs w
 ·cases h

/-! ### money_plain: function 33 -/
def money_plain.l0 : Nat → ByteArray → Option (ByteArray)
 | 0, _ => none
 | k + 1, x0 => if (x0.size : Int) > 1 then (if 0 < (x0.size : Int) then (if (bt x0 0) = 48 then (if 1 ≤ (x0.size : Int) then (money_plain.l0 k (x0.extract 1 x0.size)) else (none)) else (some x0)) else (none)) else (some x0)
def money_plain.f (k : Nat) (a0 : ByteArray) : Option (ByteArray) := money_plain.l0 k a0
theorem money_plain.mono_l : ∀ k, (∀ y0, LeO (money_plain.l0 k y0) (money_plain.l0 (k + 1) y0))
 | 0 => fun _ r h => by simp [money_plain.l0] at h
 | k + 1 => by
  have ih0 := money_plain.mono_l k
  ·intro y0
   unfold money_plain.l0
   repeat' first
   | (with_reducible exact ih0 _)
   | (with_reducible exact LeO.refl _)
   | (with_reducible exact LeO.none _)
   | (with_reducible refine LeO.ite ?_ ?_)
   | (with_reducible refine LeO.bind ?_ (fun _ => ?_))
   | exact ih0 _
   | exact LeO.none _
   | refine LeO.ite ?_ ?_
   | refine LeO.bind ?_ (fun _ => ?_)
theorem money_plain.mono : ∀ a0 k, LeO (money_plain.f k a0) (money_plain.f (k + 1) a0) := by
 intro a0 k
 have ih0 := money_plain.mono_l k
 unfold money_plain.f
 repeat' first
   | (with_reducible exact ih0 _)
   | (with_reducible exact LeO.refl _)
   | (with_reducible exact LeO.none _)
   | (with_reducible refine LeO.ite ?_ ?_)
   | (with_reducible refine LeO.bind ?_ (fun _ => ?_))
   | exact ih0 _
   | exact LeO.none _
   | refine LeO.ite ?_ ?_
   | refine LeO.bind ?_ (fun _ => ?_)
set_option maxHeartbeats 8000000 in
set_option maxRecDepth 100000 in
theorem money_plain.calls (k : Nat) (a0 : ByteArray) (r : ByteArray) (w : World) (h : money_plain.f k a0 = some r) :
  Calls Tryd.prog 33 #[.string a0] w fun e w' => e = .returned (.string r) ∧ Drawn0 w w' := by
 have H : (money_plain.l0 k a0) = some r := h
 clear h
 have H' := Aside0.mk H
 clear H
 go_enter Tryd.func33, Tryd.ntmps33
 go_wp2
 go_loopg [0] k (fun kq v0 w' => ∃ (x0_1 : ByteArray), v0 = .string x0_1 ∧ Aside0 (money_plain.l0 kq x0_1 = some r) ∧ Aside0 (kq ≤ k) ∧ Drawn0 w w')
 case atStart => exact ⟨(a0), zq1, H', ⟨Nat.le_refl _⟩, zq2⟩
 case round =>
  clear H'
  obtain ⟨x0_1, rfl, HA, HK1, ⟨m1, rfl⟩⟩ := hrel
  cases gk with
  | zero => exact absurd HA.out (by simp [money_plain.l0])
  | succ k1 =>
   have H := HA.out
   clear HA
   simp only [money_plain.l0] at H
   by_cases c2 : (x0_1.size : Int) > 1
   ·rw [if_pos c2] at H
    have c2b0 : decide (1 < (x0_1.size : Int)) = true := decide_eq_true c2
    have c2b1 : decide (1 < x0_1.size) = true := decide_eq_true (by omega)
    clear c2
    by_cases c3 : 0 < (x0_1.size : Int)
    ·rw [if_pos c3] at H
     have c3b0 : decide (0 < (x0_1.size : Int)) = true := decide_eq_true c3
     have c3b1 : decide (0 < x0_1.size) = true := decide_eq_true (by omega)
     clear c3
     by_cases c5 : (bt x0_1 0) = 48
     ·rw [if_pos c5] at H
      have c5b0 : ((bt x0_1 0) == 48) = true := beq_iff_eq.mpr c5
      have c5b1 : ((bt x0_1 0) != 48) = false := bne_eq_false_iff_eq.mpr c5
      clear c5
      by_cases c6 : 1 ≤ (x0_1.size : Int)
      ·rw [if_pos c6] at H
       have c6b0 := eq_true c6
       have c6b1 : decide (1 ≤ (x0_1.size : Int)) = true := decide_eq_true c6
       clear c6
       have H' := Aside0.mk H
       clear H
       have p4 : 0 ≤ (0 : Int) := (by omega)
       have q4 : 0 < x0_1.size := (by have : (0 : Int) < (x0_1.size : Int) := of_decide_eq_true zq6; omega)
       have hx4 : ∀ h : 0 < x0_1.size, ((x0_1[0]'h).toNat : Int) = bt x0_1 0 := bt_at x0_1 0
       clear p4
       have qi4 : (0 < (x0_1.size : Int)) = True := eq_true (of_decide_eq_true zq6)
       replace q4 := eq_true q4
       go_wp2
       go_roundg k1
       case measure => have := HK1.out; omega
       case rel => exact ⟨(x0_1.extract 1 x0_1.size), zq1, H', ⟨by have := HK1.out; omega⟩, zq2⟩
      ·rw [if_neg c6] at H
       exact absurd H (by simp)
     ·rw [if_neg c5] at H
      have c5b0 : ((bt x0_1 0) == 48) = false := beq_eq_false_iff_ne.mpr c5
      have c5b1 : ((bt x0_1 0) != 48) = true := bne_iff_ne.mpr c5
      obtain rfl := Option.some.inj H
      have p4 : 0 ≤ (0 : Int) := (by omega)
      have q4 : 0 < x0_1.size := (by have : (0 : Int) < (x0_1.size : Int) := of_decide_eq_true zq6; omega)
      have hx4 : ∀ h : 0 < x0_1.size, ((x0_1[0]'h).toNat : Int) = bt x0_1 0 := bt_at x0_1 0
      clear p4
      have qi4 : (0 < (x0_1.size : Int)) = True := eq_true (of_decide_eq_true zq6)
      replace q4 := eq_true q4
      go_wp2
      go_ret
      exact ⟨zq1, zq2⟩
    ·rw [if_neg c3] at H
     exact absurd H (by simp)
   ·rw [if_neg c2] at H
    have c2b0 : decide (1 < (x0_1.size : Int)) = false := decide_eq_false c2
    have c2b1 : decide (1 < x0_1.size) = false := decide_eq_false (by omega)
    clear c2
    obtain rfl := Option.some.inj H
    go_wp2
    go_ret
    exact ⟨zq1, zq2⟩

end Go.Proofs.YthmpapnhomngnaaDoor.A
