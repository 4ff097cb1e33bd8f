-- By gen.py, a program of this session's, over the print's forms: not the print's own text.
import Derived.Test.YtoenhagbgfkihaaAx0
import Derived.Test.YtoenhagbgfkihaaQ
import Derived.Test.YtoenhagbgfkihaaAx14
namespace Go.Proofs.Ytoenhagbgfkihaa.A
open Go.RowKit Go.Proofs.Ytoenhagbgfkihaa.B Go.Proofs.YtoenhagbgfkihaaW.PrintWords Go.Proofs.YtoenhagbgfkihaaW.PrintLast Go.Proofs.YtoenhagbgfkihaaW.PrintMore
attribute [local go_sem] max2_int min2_int max_two min_two max_three min_three max_four min_four   -- for this text's walks alone
set_option linter.unusedVariables false
set_option linter.unusedSimpArgs false

/-! ### accountingref03_minus: function 70 (by hand) -/
def accountingref03_minus.l0 : Nat → ByteArray → ByteArray → List Int → Int → Int → Option ByteArray
 | 0, _, _, _, _, _ => none
 | k + 1, a, b, o, br, i => if i ≤ (a.size : Int) then (if mnDigit a b br i < 0 then accountingref03_minus.l0 k a b (o.set ((a.size : Int) - i).toNat ((58 + mnDigit a b br i) % 256)) 1 (i + 1) else accountingref03_minus.l0 k a b (o.set ((a.size : Int) - i).toNat ((48 + mnDigit a b br i) % 256)) 0 (i + 1))
  else accountingref03_trim.f k (strOfNums o)
def accountingref03_minus.f (k : Nat) (a b : ByteArray) : Option ByteArray := if a.size ≤ 140737488351232 ∧ b.size ≤ 140737488351232 then accountingref03_minus.l0 k a b (bytesOf a) 0 1 else none
theorem accountingref03_minus.mono_l : ∀ k, (∀ a b o br i, LeO (accountingref03_minus.l0 k a b o br i) (accountingref03_minus.l0 (k + 1) a b o br i))
 | 0 => fun _ _ _ _ _ r h => by simp [accountingref03_minus.l0] at h
 | k + 1 => by
  have ih := accountingref03_minus.mono_l k
  intro a b o br i
  unfold accountingref03_minus.l0
  exact LeO.ite (LeO.ite (ih _ _ _ _ _) (ih _ _ _ _ _)) (accountingref03_trim.mono _ _)
theorem accountingref03_minus.mono : ∀ a0 a1 k, LeO (accountingref03_minus.f k a0 a1) (accountingref03_minus.f (k + 1) a0 a1) := fun a0 a1 k => by
 unfold accountingref03_minus.f; exact LeO.ite (accountingref03_minus.mono_l k _ _ _ _ _) (LeO.refl _)
set_option maxHeartbeats 6400000 in
set_option maxRecDepth 100000 in
theorem accountingref03_minus.calls (k : Nat) (a0 a1 r : ByteArray) (w : World) (h : accountingref03_minus.f k a0 a1 = some r) :
  Calls Try.prog 70 #[.string a0, .string a1] w fun e w' => e = .returned (.string r) ∧ Below w.heap.size w w' := by
 unfold accountingref03_minus.f at h
 split at h
 case isFalse => cases h
 rename_i hs
 obtain ⟨hA, hB⟩ := hs
 have hcv := run_bytes_of_string (P := Try.prog) w 9 55 5 a0 Try.underlying9 Try.underlying55 Try.underlying5
 have H := Aside0.mk h
 clear h
 go_enter Try.func70, Try.ntmps70
 go_wp2_with fail
 have HS := Aside0.mk (MinR.start 5 w a0 (grownCap w a0.size 0 5) _ (show a0.size ≤ (bytesRow a0 (grownCap w a0.size 0 5)).size by exact bytesRow_le _ _))
 have HBel := Aside0.mk (show Below w.heap.size w ((w.alloc (.cells (bytesRow a0 (grownCap w a0.size 0 5)) 5 ((bytesRow a0 (grownCap w a0.size 0 5)).size, (bytesRow a0 (grownCap w a0.size 0 5)).size + 1))).drew) from below_drew (below_alloc (Below.refl _ _) _))
 have HLen := Aside0.mk (bytesOf_length a0)
 generalize (w.alloc (.cells (bytesRow a0 (grownCap w a0.size 0 5)) 5 ((bytesRow a0 (grownCap w a0.size 0 5)).size, (bytesRow a0 (grownCap w a0.size 0 5)).size + 1))).drew = W0 at *
 generalize grownCap w a0.size 0 5 = cap at *
 generalize bytesOf a0 = o0 at *
 clear hcv
 go_loopg [6, 7] k (fun kq v6 v7 wr => ∃ (o : List Int) (br : Int) (p : Nat), v6 = .int .i64 br ∧ v7 = .int .i64 (p : Int) ∧ 0 ≤ br ∧ br ≤ 1 ∧ 1 ≤ p ∧ p ≤ a0.size + 1 ∧ Aside0 (accountingref03_minus.l0 kq a0 a1 o br (p : Int) = some r) ∧ Aside0 (MinR wr w.heap.size o) ∧ Aside0 (o.length = a0.size) ∧ Aside0 (Below w.heap.size w wr))
 case atStart => exact ⟨o0, 0, 1, rfl, rfl, by omega, by omega, by omega, by omega, H, HS, HLen, HBel⟩
 case round =>
  clear H HS HBel HLen
  obtain ⟨o, br, p, rfl, rfl, hb0, hb1, hp1, hp2, HA, HM, HL, HB⟩ := hrel
  cases gk with
  | zero => exact absurd HA.out (by simp [accountingref03_minus.l0])
  | succ k1 =>
   have H := HA.out
   clear HA
   rw [accountingref03_minus.l0] at H
   by_cases hp : p ≤ a0.size
   ·rw [if_pos (by omega)] at H
    obtain ⟨j, hj⟩ : ∃ j : Nat, j + p = a0.size := ⟨a0.size - p, by omega⟩
    have ej : (a0.size : Int) - (p : Int) = (j : Int) := by omega
    have hjlt : j < a0.size := by omega
    have hM := HM.out j (by rw [HL.out]; exact hjlt)
    rw [show ((a0.size : Int) - (p : Int)).toNat = j by omega] at H
    have hc0 : (0 : Int) ≤ (a0[j].toNat : Int) := by omega
    have hc1 : (a0[j].toNat : Int) ≤ 255 := by have := a0[j].toNat_lt; omega
    by_cases hpb : p ≤ a1.size
    ·obtain ⟨jb, hjb⟩ : ∃ jb : Nat, jb + p = a1.size := ⟨a1.size - p, by omega⟩
     have eb : (a1.size : Int) - (p : Int) = (jb : Int) := by omega
     have hjblt : jb < a1.size := by omega
     have hd0 : (0 : Int) ≤ (a1[jb].toNat : Int) := by omega
     have hd1 : (a1[jb].toNat : Int) ≤ 255 := by have := a1[jb].toNat_lt; omega
     have hmn : mnDigit a0 a1 br (p : Int) = (a0[j].toNat : Int) - 48 - br - ((a1[jb].toNat : Int) - 48) := by
      unfold mnDigit
      rw [if_pos (by omega), ej, eb, ← bt_at a0 j hjlt, ← bt_at a1 jb hjblt]; rfl
     obtain ⟨c, hc⟩ : ∃ c : Int, (a0[j].toNat : Int) = c := ⟨_, rfl⟩
     obtain ⟨d, hd⟩ : ∃ d : Int, (a1[jb].toNat : Int) = d := ⟨_, rfl⟩
     rw [hc] at hc0 hc1 hmn
     rw [hd] at hd0 hd1 hmn
     rw [hmn] at H
     clear hmn
     by_cases hn : c - 48 - br - (d - 48) < 0
     ·rw [if_pos hn] at H
      have HH := Aside0.mk H
      clear H
      have hset := HM.out.set j (by rw [HL.out]; exact hjlt) ((58 + (c - 48 - br - (d - 48))) % 256)
      rw [show (58 + (c - 48 - br - (d - 48))) % 256 = (48 + (c - 48 - br - (d - 48) + 10)) % 256 by congr 1; omega] at hset HH
      have HSet := Aside0.mk hset
      clear hset
      obtain ⟨hm1, hm2⟩ := hM
      go_wp2_with fail
      go_roundg k1
      case measure => omega
      case rel => exact ⟨_, 1, p + 1, rfl, by go_num, by omega, by omega, by omega, by omega, ⟨q79⟩, HSet, ⟨by rw [List.length_set]; exact HL.out⟩, ⟨HB.out.setCell (Nat.le_refl _) _⟩⟩
     ·rw [if_neg hn] at H
      have HH := Aside0.mk H
      clear H
      have hset := HM.out.set j (by rw [HL.out]; exact hjlt) ((48 + (c - 48 - br - (d - 48))) % 256)
      have HSet := Aside0.mk hset
      clear hset
      obtain ⟨hm1, hm2⟩ := hM
      go_wp2_with fail
      go_roundg k1
      case measure => omega
      case rel => exact ⟨_, 0, p + 1, rfl, by go_num, by omega, by omega, by omega, by omega, ⟨q79⟩, HSet, ⟨by rw [List.length_set]; exact HL.out⟩, ⟨HB.out.setCell (Nat.le_refl _) _⟩⟩
    ·have hmn : mnDigit a0 a1 br (p : Int) = (a0[j].toNat : Int) - 48 - br := by
      unfold mnDigit
      rw [if_neg (by omega), ej, ← bt_at a0 j hjlt]; show _ - _ - _ - 0 = _; rw [Int.sub_zero]; rfl
     obtain ⟨c, hc⟩ : ∃ c : Int, (a0[j].toNat : Int) = c := ⟨_, rfl⟩
     rw [hc] at hc0 hc1 hmn
     rw [hmn] at H
     clear hmn
     by_cases hn : c - 48 - br < 0
     ·rw [if_pos hn] at H
      have HH := Aside0.mk H
      clear H
      have hset := HM.out.set j (by rw [HL.out]; exact hjlt) ((58 + (c - 48 - br)) % 256)
      rw [show (58 + (c - 48 - br)) % 256 = 48 + (c - 48 - br + 10) by omega] at hset HH
      have HSet := Aside0.mk hset
      clear hset
      obtain ⟨hm1, hm2⟩ := hM
      go_wp2_with fail
      go_roundg k1
      case measure => omega
      case rel => exact ⟨_, 1, p + 1, rfl, by go_num, by omega, by omega, by omega, by omega, ⟨q79⟩, HSet, ⟨by rw [List.length_set]; exact HL.out⟩, ⟨HB.out.setCell (Nat.le_refl _) _⟩⟩
     ·rw [if_neg hn] at H
      have HH := Aside0.mk H
      clear H
      have hset := HM.out.set j (by rw [HL.out]; exact hjlt) ((48 + (c - 48 - br)) % 256)
      rw [show (48 + (c - 48 - br)) % 256 = 48 + (c - 48 - br) by omega] at hset HH
      have HSet := Aside0.mk hset
      clear hset
      obtain ⟨hm1, hm2⟩ := hM
      go_wp2_with fail
      go_roundg k1
      case measure => omega
      case rel => exact ⟨_, 0, p + 1, rfl, by go_num, by omega, by omega, by omega, by omega, ⟨q79⟩, HSet, ⟨by rw [List.length_set]; exact HL.out⟩, ⟨HB.out.setCell (Nat.le_refl _) _⟩⟩
   ·rw [if_neg (by omega)] at H
    have hC := HM.out.C (by rw [HL.out]; omega)
    rw [HL.out] at hC
    have hcs := Kd.C_string (P := Try.prog) (src := 55) (dst := 9) (e := 5) (c := cap) Try.underlying55 Try.underlying5 Try.underlying9 hC
    have HT := Aside0.mk (fun W => accountingref03_trim.calls k1 _ r W H)
    clear hC H
    go_wp2_with fail
    refine (HT.out _).mono ?_
    rintro e w2 ⟨rfl, hd⟩
    go_wp2_with fail
    go_ret
    exact ⟨rfl, HB.out.trans (hd.below.mono HB.out.size)⟩

/-! ### accountingref03_divide: function 46 -/
mutual
def accountingref03_divide.l0 : Nat → ByteArray → ByteArray → List Int → ByteArray → Int → Option (ByteArray × ByteArray)
 | 0, _, _, _, _, _ => none
 | k + 1, x0, x1, x6, x7, x8 => if x8 < (x0.size : Int) then (if 0 ≤ x8 then (if x8 ≤ (wrap64 (x8 + 1)) then (if (wrap64 (x8 + 1)) ≤ (x0.size : Int) then (if x7.size + (x0.extract (x8 : Int).toNat ((wrap64 (x8 + 1)) : Int).toNat).size ≤ 9223372036854775807 then ((accountingref03_trim.f k (x7 ++ (x0.extract (x8 : Int).toNat ((wrap64 (x8 + 1)) : Int).toNat))).bind fun t249 => (accountingref03_divide.l1 k x0 x1 x6 t249 x8 0)) else (none)) else (none)) else (none)) else (none)) else ((accountingref03_trim.f k (strOfNums x6)).bind fun t248 => (some (t248, x7)))
def accountingref03_divide.l1 : Nat → ByteArray → ByteArray → List Int → ByteArray → Int → Int → Option (ByteArray × ByteArray)
 | 0, _, _, _, _, _, _ => none
 | k + 1, x0, x1, x6, x7, x8, x9 => (accountingref03_less.f x7 x1).bind fun t250 => (if t250 = true then (if x6.length < 140737488355328 then (accountingref03_divide.l0 k x0 x1 (x6 ++ [(wrap64 (48 + x9)) % 256]) x7 (wrap64 (x8 + 1))) else (none)) else ((accountingref03_minus.f k x7 x1).bind fun t254 => (accountingref03_divide.l1 k x0 x1 x6 t254 x8 (wrap64 (x9 + 1)))))
end
def accountingref03_divide.f (k : Nat) (a0 : ByteArray) (a1 : ByteArray) : Option (ByteArray × ByteArray) := accountingref03_divide.l0 k a0 a1 ([] : List Int) (⟨#[]⟩ : ByteArray) 0
theorem accountingref03_divide.mono_l : ∀ k, (∀ y0 y1 y2 y3 y4, LeO (accountingref03_divide.l0 k y0 y1 y2 y3 y4) (accountingref03_divide.l0 (k + 1) y0 y1 y2 y3 y4)) ∧ (∀ y0 y1 y2 y3 y4 y5, LeO (accountingref03_divide.l1 k y0 y1 y2 y3 y4 y5) (accountingref03_divide.l1 (k + 1) y0 y1 y2 y3 y4 y5))
 | 0 => ⟨fun _ _ _ _ _ r h => by simp [accountingref03_divide.l0] at h, fun _ _ _ _ _ _ r h => by simp [accountingref03_divide.l1] at h⟩
 | k + 1 => by
  obtain ⟨ih0, ih1⟩ := accountingref03_divide.mono_l k
  refine ⟨?_, ?_⟩
  ·intro y0 y1 y2 y3 y4
   unfold accountingref03_divide.l0
   repeat' first
   | (with_reducible exact ih0 _ _ _ _ _)
   | (with_reducible exact ih1 _ _ _ _ _ _)
   | (with_reducible exact accountingref03_minus.mono _ _ _)
   | (with_reducible exact accountingref03_trim.mono _ _)
   | (with_reducible exact LeO.refl _)
   | (with_reducible exact LeO.none _)
   | (with_reducible refine LeO.ite ?_ ?_)
   | (with_reducible refine LeO.bind ?_ (fun _ => ?_))
   | exact ih0 _ _ _ _ _
   | exact ih1 _ _ _ _ _ _
   | exact accountingref03_minus.mono _ _ _
   | exact accountingref03_trim.mono _ _
   | exact LeO.none _
   | refine LeO.ite ?_ ?_
   | refine LeO.bind ?_ (fun _ => ?_)
  ·intro y0 y1 y2 y3 y4 y5
   unfold accountingref03_divide.l1
   repeat' first
   | (with_reducible exact ih0 _ _ _ _ _)
   | (with_reducible exact ih1 _ _ _ _ _ _)
   | (with_reducible exact accountingref03_minus.mono _ _ _)
   | (with_reducible exact accountingref03_trim.mono _ _)
   | (with_reducible exact LeO.refl _)
   | (with_reducible exact LeO.none _)
   | (with_reducible refine LeO.ite ?_ ?_)
   | (with_reducible refine LeO.bind ?_ (fun _ => ?_))
   | exact ih0 _ _ _ _ _
   | exact ih1 _ _ _ _ _ _
   | exact accountingref03_minus.mono _ _ _
   | exact accountingref03_trim.mono _ _
   | exact LeO.none _
   | refine LeO.ite ?_ ?_
   | refine LeO.bind ?_ (fun _ => ?_)
theorem accountingref03_divide.mono : ∀ a0 a1 k, LeO (accountingref03_divide.f k a0 a1) (accountingref03_divide.f (k + 1) a0 a1) := by
 intro a0 a1 k
 obtain ⟨ih0, ih1⟩ := accountingref03_divide.mono_l k
 unfold accountingref03_divide.f
 repeat' first
   | (with_reducible exact ih0 _ _ _ _ _)
   | (with_reducible exact ih1 _ _ _ _ _ _)
   | (with_reducible exact accountingref03_minus.mono _ _ _)
   | (with_reducible exact accountingref03_trim.mono _ _)
   | (with_reducible exact LeO.refl _)
   | (with_reducible exact LeO.none _)
   | (with_reducible refine LeO.ite ?_ ?_)
   | (with_reducible refine LeO.bind ?_ (fun _ => ?_))
   | exact ih0 _ _ _ _ _
   | exact ih1 _ _ _ _ _ _
   | exact accountingref03_minus.mono _ _ _
   | exact accountingref03_trim.mono _ _
   | exact LeO.none _
   | refine LeO.ite ?_ ?_
   | refine LeO.bind ?_ (fun _ => ?_)
set_option maxHeartbeats 8000000 in
set_option maxRecDepth 100000 in
theorem accountingref03_divide.calls (k : Nat) (a0 : ByteArray) (a1 : ByteArray) (r1 : ByteArray) (r2 : ByteArray) (w : World) (h : accountingref03_divide.f k a0 a1 = some (r1, r2)) :
  Calls Try.prog 46 #[.string a0, .string a1] w fun e w' => e = .returned (.tuple #[.string r1, .string r2]) ∧ Below w.heap.size w w' := by
 have HB := Aside0.mk (Below.refl w.heap.size w)
 have H : (accountingref03_divide.l0 k a0 a1 ([] : List Int) (⟨#[]⟩ : ByteArray) 0) = some (r1, r2) := h
 clear h
 have H' := Aside0.mk H
 clear H
 go_enter Try.func46, Try.ntmps46
 go_wp2
 go_loopg [6, 7, 8] k (fun kq v6 v7 v8 w' => ∃ (x6_1 : List Int) (x7_1 : ByteArray) (x8_1 : Int), v7 = .string x7_1 ∧ v8 = .int .i64 x8_1 ∧ Aside0 (accountingref03_divide.l0 kq a0 a1 x6_1 x7_1 x8_1 = some (r1, r2)) ∧ Aside0 (kq ≤ k) ∧ Aside0 (Kd.R (Kd.int .u8) 5 w' w.heap.size (fun _ => True) v6 x6_1) ∧ Aside0 (Below w.heap.size w w'))
 case atStart => exact ⟨(([] : List Int)), ((⟨#[]⟩ : ByteArray)), (0), q9, q9, H', ⟨Nat.le_refl _⟩, ⟨q80⟩, ⟨q11⟩⟩
 case round =>
  clear H'
  try clear p2
  obtain ⟨x6_1, x7_1, x8_1, rfl, rfl, HA, HK1, HO_6, HB⟩ := hrel
  cases gk with
  | zero => exact absurd HA.out (by simp [accountingref03_divide.l0])
  | succ k1 =>
   have H := HA.out
   clear HA
   simp only [accountingref03_divide.l0] at H
   by_cases c3 : x8_1 < (a0.size : Int)
   ·rw [if_pos c3] at H
    have c3b0 : decide (x8_1 < (a0.size : Int)) = true := decide_eq_true c3
    clear c3
    by_cases c4 : 0 ≤ x8_1
    ·rw [if_pos c4] at H
     have c4b0 := eq_true c4
     have c4b1 : decide (0 ≤ x8_1) = true := decide_eq_true c4
     clear c4
     by_cases c5 : x8_1 ≤ (wrap64 (x8_1 + 1))
     ·rw [if_pos c5] at H
      have c5b0 := eq_true c5
      have c5b1 : decide (x8_1 ≤ (wrap64 (x8_1 + 1))) = true := decide_eq_true c5
      by_cases c6 : (wrap64 (x8_1 + 1)) ≤ (a0.size : Int)
      ·rw [if_pos c6] at H
       have c6b0 := eq_true c6
       have c6b1 : decide ((wrap64 (x8_1 + 1)) ≤ (a0.size : Int)) = true := decide_eq_true c6
       by_cases c7 : x7_1.size + (a0.extract (x8_1 : Int).toNat ((wrap64 (x8_1 + 1)) : Int).toNat).size ≤ 9223372036854775807
       ·rw [if_pos c7] at H
        have c7b0 := eq_true c7
        have c7b1 : decide (x7_1.size + (a0.extract (x8_1 : Int).toNat ((wrap64 (x8_1 + 1)) : Int).toNat).size ≤ 9223372036854775807) = true := decide_eq_true c7
        try have c7b2 : (9223372036854775807 < x7_1.size + (a0.extract (x8_1 : Int).toNat ((wrap64 (x8_1 + 1)) : Int).toNat).size) = False := eq_false (Nat.not_lt.2 c7)
        replace H := Option.bind_eq_some_iff.mp H
        obtain ⟨t249, A80, H⟩ := H
        replace H : (accountingref03_divide.l1 k1 a0 a1 x6_1 t249 x8_1 0) = some (r1, r2) := H
        have A8 := Aside0.mk A80
        clear A80
        have H' := Aside0.mk H
        clear H
        go_wp2_with (first | ((with_reducible refine gate_callee (f := 68) rfl ?_); refine goesL_ (some 23) rfl rfl Try.func68 (by kernel_rfl) rfl #[.string (x7_1 ++ (a0.extract (x8_1 : Int).toNat ((wrap64 (x8_1 + 1)) : Int).toNat))] rfl q20 ?_; (with_reducible refine (accountingref03_trim.calls k1 (x7_1 ++ (a0.extract (x8_1 : Int).toNat ((wrap64 (x8_1 + 1)) : Int).toNat)) t249 _ A8.out).mono ?_); rintro e w' ⟨rfl, ⟨nd, rfl⟩⟩; refine ⟨_, rfl, ?_⟩))
        go_loopg [7, 9] k1 (fun kq v7 v9 w' => ∃ (x7_2 : ByteArray) (x9_2 : Int), v7 = .string x7_2 ∧ v9 = .int .i64 x9_2 ∧ Aside0 (accountingref03_divide.l1 kq a0 a1 x6_1 x7_2 x8_1 x9_2 = some (r1, r2)) ∧ Aside0 (kq ≤ k1) ∧ Aside0 (Kd.R (Kd.int .u8) 5 w' w.heap.size (fun _ => True) u6 x6_1) ∧ Aside0 (Below w.heap.size w w'))
        case atStart => exact ⟨(t249), (0), q9, q9, H', ⟨Nat.le_refl _⟩, ⟨q81⟩, ⟨q11⟩⟩
        case round =>
         clear H'
         try clear p2
         try clear c3
         try clear c3b0
         try clear c4
         try clear c4b0
         try clear c4b1
         try clear c5
         try clear c5b0
         try clear c5b1
         try clear c6
         try clear c6b0
         try clear c6b1
         try clear p6
         try clear c7
         try clear c7b0
         try clear c7b1
         try clear c7b2
         try clear p2
         obtain ⟨x7_2, x9_2, rfl, rfl, HA, HK2, HO_6, HB⟩ := hrel
         cases gk with
         | zero => exact absurd HA.out (by simp [accountingref03_divide.l1])
         | succ k2 =>
          have H := HA.out
          clear HA
          simp only [accountingref03_divide.l1] at H
          replace H := Option.bind_eq_some_iff.mp H
          obtain ⟨t250, A90, H⟩ := H
          replace H : (if t250 = true then (if x6_1.length < 140737488355328 then (accountingref03_divide.l0 k2 a0 a1 (x6_1 ++ [(wrap64 (48 + x9_2)) % 256]) x7_2 (wrap64 (x8_1 + 1))) else (none)) else ((accountingref03_minus.f k2 x7_2 a1).bind fun t254 => (accountingref03_divide.l1 k2 a0 a1 x6_1 t254 x8_1 (wrap64 (x9_2 + 1))))) = some (r1, r2) := H
          have A9 := Aside0.mk A90
          clear A90
          by_cases c10 : t250 = true
          ·subst c10
           have H1 : (if x6_1.length < 140737488355328 then (accountingref03_divide.l0 k2 a0 a1 (x6_1 ++ [(wrap64 (48 + x9_2)) % 256]) x7_2 (wrap64 (x8_1 + 1))) else (none)) = some (r1, r2) := by rw [if_pos rfl] at H; exact H
           clear H
           have H := H1
           clear H1
           by_cases c11 : x6_1.length < 140737488355328
           ·rw [if_pos c11] at H
            have LMc11 := Aside0.mk c11
            clear c11
            obtain ⟨y251, hy251⟩ : ∃ y_ : List Int, y_ = (x6_1 ++ [(wrap64 (48 + x9_2)) % 256]) := ⟨_, rfl⟩
            replace H : (accountingref03_divide.l0 k2 a0 a1 y251 x7_2 (wrap64 (x8_1 + 1))) = some (r1, r2) := by first | (rw [hy251]; with_reducible exact H) | (have H2_ := (Option.bind_some _ _).symm.trans H; rw [hy251]; with_reducible exact H2_) | (have H2_ := (Option.bind_some _ _).symm.trans H; with_reducible exact H2_) | with_reducible exact H | (rw [hy251]; exact H) | exact H
            have Ny251 := Aside0.mk hy251
            clear hy251
            have H' := Aside0.mk H
            clear H
            go_wp2_with (first | ((with_reducible refine gate_callee (f := 69) rfl ?_); refine goesL_ (some 26) rfl rfl Try.func69 (by kernel_rfl) rfl #[.string x7_2, .string a1] rfl q20 ?_; (with_reducible refine (accountingref03_less.calls x7_2 a1 true _ A9.out).mono ?_); rintro e w' ⟨rfl, ⟨nd, rfl⟩⟩; refine ⟨_, rfl, ?_⟩) | ((with_reducible refine gate_builtin (b := .append) (xs := #[.tmp 33, .tmp 37]) rfl ?_); at_builtin; refine Kd.R_append (Kd.int .u8) (w0 := w) w.heap.size rfl (.tmp 33) (.tmp 37) 55 5 (.int .u8 0) 1 rfl Try.underlying55 info5 rfl (by decide) (by omega) u6 x6_1 ((wrap64 (48 + x9_2)) % 256) [.int .u8 ((wrap64 (48 + x9_2)) % 256)] (fun _ => True) (fun _ => False) rfl rfl ?aP (fun _ hk => hk.elim) ?aF ?aO ?aB ?aS ?aL ?_; (case aP => exact rfl); (case aB => exact q11); (case aF => exact (fun _ _ => trivial)); (case aO => exact q81); (case aS => exact (below_size q11)); (case aL => have := LMc11.out; omega); intro v252 w12 ho hb hg hat; rw [← Ny251.out] at ho; have n0_ := Aside0.mk (hb); have n1_ := Aside0.mk (ho); clear HB; clear HO_6; have HB := n0_; have HO253 := n1_; clear n0_ n1_; clear ho hb hg hat))
            go_roundg k2
            case measure => have := HK1.out; have := HK2.out; omega
            case rel => exact ⟨(y251), (x7_2), (wrap64 (x8_1 + 1)), q9, q9, H', ⟨q82⟩, ⟨by (with_reducible repeat (first | apply Kd.R_alloc | apply Kd.R_drewN | apply Kd.R_drew)); exact HO253.out⟩, ⟨q11⟩⟩
           ·rw [if_neg c11] at H
            exact absurd H (by simp)
          ·replace c10 := Bool.eq_false_iff.mpr c10
           subst c10
           have H1 : ((accountingref03_minus.f k2 x7_2 a1).bind fun t254 => (accountingref03_divide.l1 k2 a0 a1 x6_1 t254 x8_1 (wrap64 (x9_2 + 1)))) = some (r1, r2) := by rw [if_neg (show ¬ (false = true) by decide)] at H; exact H
           clear H
           have H := H1
           clear H1
           replace H := Option.bind_eq_some_iff.mp H
           obtain ⟨t254, A130, H⟩ := H
           replace H : (accountingref03_divide.l1 k2 a0 a1 x6_1 t254 x8_1 (wrap64 (x9_2 + 1))) = some (r1, r2) := H
           have A13 := Aside0.mk A130
           clear A130
           have H' := Aside0.mk H
           clear H
           go_wp2_with (first | ((with_reducible refine gate_callee (f := 69) rfl ?_); refine goesL_ (some 26) rfl rfl Try.func69 (by kernel_rfl) rfl #[.string x7_2, .string a1] rfl q20 ?_; (with_reducible refine (accountingref03_less.calls x7_2 a1 false _ A9.out).mono ?_); rintro e w' ⟨rfl, ⟨nd, rfl⟩⟩; refine ⟨_, rfl, ?_⟩) | ((with_reducible refine gate_callee (f := 70) rfl ?_); refine goesL_ (some 30) rfl rfl Try.func70 (by kernel_rfl) rfl #[.string x7_2, .string a1] rfl q20 ?_; (with_reducible refine (accountingref03_minus.calls k2 x7_2 a1 t254 _ A13.out).mono ?_); rintro e w14 ⟨rfl, hb⟩; refine ⟨_, rfl, ?_⟩; have n0_ := Aside0.mk (Kd.R_below q81 hb); have n1_ := Aside0.mk (below_step q11 hb); clear HO_6; clear HB; have HO_6 := n0_; have HB := n1_; clear n0_ n1_; (try clear hb); (try clear hb2); (try clear hk); (try clear hi)))
           go_roundg k2
           case measure => have := HK1.out; have := HK2.out; omega
           case rel => exact ⟨(t254), (wrap64 (x9_2 + 1)), q9, q9, H', ⟨q82⟩, ⟨q81⟩, ⟨q11⟩⟩
       ·rw [if_neg c7] at H
        exact absurd H (by simp)
      ·rw [if_neg c6] at H
       exact absurd H (by simp)
     ·rw [if_neg c5] at H
      exact absurd H (by simp)
    ·rw [if_neg c4] at H
     exact absurd H (by simp)
   ·rw [if_neg c3] at H
    have c3b0 : decide (x8_1 < (a0.size : Int)) = false := decide_eq_false c3
    clear c3
    replace H := Option.bind_eq_some_iff.mp H
    obtain ⟨t248, A150, H⟩ := H
    replace H : (some (t248, x7_1)) = some (r1, r2) := H
    have A15 := Aside0.mk A150
    clear A150
    simp only [Option.some.injEq, Prod.mk.injEq] at H
    obtain ⟨rfl, rfl⟩ := H
    have hcv16 := own_string (P := Try.prog) Try.underlying55 Try.underlying5 Try.underlying9 (Kd.own_of_R HO_6.out)
    go_wp2_with (first | ((with_reducible refine gate_callee (f := 68) rfl ?_); refine goesL_ (some 41) rfl rfl Try.func68 (by kernel_rfl) rfl #[.string (strOfNums x6_1)] rfl q20 ?_; (with_reducible refine (accountingref03_trim.calls k1 (strOfNums x6_1) t248 _ A15.out).mono ?_); rintro e w' ⟨rfl, ⟨nd, rfl⟩⟩; refine ⟨_, rfl, ?_⟩))
    go_ret2
    exact ⟨q13, q11⟩

/-! ### accountingref03_common: function 45 -/
def accountingref03_common.l0 : Nat → ByteArray → ByteArray → Option (ByteArray)
 | 0, _, _ => none
 | k + 1, x0, x1 => if x1.toList = ([] : List UInt8) then (some x0) else ((accountingref03_divide.f k x0 x1).bind fun bt255 => (accountingref03_common.l0 k x1 bt255.2))
def accountingref03_common.f (k : Nat) (a0 : ByteArray) (a1 : ByteArray) : Option (ByteArray) := accountingref03_common.l0 k a0 a1
theorem accountingref03_common.mono_l : ∀ k, (∀ y0 y1, LeO (accountingref03_common.l0 k y0 y1) (accountingref03_common.l0 (k + 1) y0 y1))
 | 0 => fun _ _ r h => by simp [accountingref03_common.l0] at h
 | k + 1 => by
  have ih0 := accountingref03_common.mono_l k
  ·intro y0 y1
   unfold accountingref03_common.l0
   repeat' first
   | (with_reducible exact ih0 _ _)
   | (with_reducible exact accountingref03_divide.mono _ _ _)
   | (with_reducible exact LeO.refl _)
   | (with_reducible exact LeO.none _)
   | (with_reducible refine LeO.ite ?_ ?_)
   | (with_reducible refine LeO.bind ?_ (fun _ => ?_))
   | exact ih0 _ _
   | exact accountingref03_divide.mono _ _ _
   | exact LeO.none _
   | refine LeO.ite ?_ ?_
   | refine LeO.bind ?_ (fun _ => ?_)
theorem accountingref03_common.mono : ∀ a0 a1 k, LeO (accountingref03_common.f k a0 a1) (accountingref03_common.f (k + 1) a0 a1) := by
 intro a0 a1 k
 have ih0 := accountingref03_common.mono_l k
 unfold accountingref03_common.f
 repeat' first
   | (with_reducible exact ih0 _ _)
   | (with_reducible exact accountingref03_divide.mono _ _ _)
   | (with_reducible exact LeO.refl _)
   | (with_reducible exact LeO.none _)
   | (with_reducible refine LeO.ite ?_ ?_)
   | (with_reducible refine LeO.bind ?_ (fun _ => ?_))
   | exact ih0 _ _
   | exact accountingref03_divide.mono _ _ _
   | exact LeO.none _
   | refine LeO.ite ?_ ?_
   | refine LeO.bind ?_ (fun _ => ?_)
set_option maxHeartbeats 8000000 in
set_option maxRecDepth 100000 in
theorem accountingref03_common.calls (k : Nat) (a0 : ByteArray) (a1 : ByteArray) (r : ByteArray) (w : World) (h : accountingref03_common.f k a0 a1 = some r) :
  Calls Try.prog 45 #[.string a0, .string a1] w fun e w' => e = .returned (.string r) ∧ Below w.heap.size w w' := by
 have HB := Aside0.mk (Below.refl w.heap.size w)
 have H : (accountingref03_common.l0 k a0 a1) = some r := h
 clear h
 have H' := Aside0.mk H
 clear H
 go_enter Try.func45, Try.ntmps45
 go_wp2
 go_loopg [0, 1] k (fun kq v0 v1 w' => ∃ (x0_1 : ByteArray) (x1_1 : ByteArray), v0 = .string x0_1 ∧ v1 = .string x1_1 ∧ Aside0 (accountingref03_common.l0 kq x0_1 x1_1 = some r) ∧ Aside0 (kq ≤ k) ∧ Aside0 (Below w.heap.size w w'))
 case atStart => exact ⟨(a0), (a1), q9, q9, H', ⟨Nat.le_refl _⟩, ⟨q11⟩⟩
 case round =>
  clear H'
  try clear p2
  obtain ⟨x0_1, x1_1, rfl, rfl, HA, HK1, HB⟩ := hrel
  cases gk with
  | zero => exact absurd HA.out (by simp [accountingref03_common.l0])
  | succ k1 =>
   have H := HA.out
   clear HA
   simp only [accountingref03_common.l0] at H
   by_cases c3 : x1_1.toList = ([] : List UInt8)
   ·rw [if_pos c3] at H
    have c3b0 : (x1_1.toList == ([] : List UInt8)) = true := beq_iff_eq.mpr c3
    have c3b1 : (x1_1.toList != ([] : List UInt8)) = false := bne_eq_false_iff_eq.mpr c3
    clear c3
    obtain rfl := Option.some.inj H
    go_wp2
    go_ret
    exact ⟨q13, q11⟩
   ·rw [if_neg c3] at H
    have c3b0 : (x1_1.toList == ([] : List UInt8)) = false := beq_eq_false_iff_ne.mpr c3
    have c3b1 : (x1_1.toList != ([] : List UInt8)) = true := bne_iff_ne.mpr c3
    replace H := Option.bind_eq_some_iff.mp H
    obtain ⟨⟨t255, t256⟩, A40, H⟩ := H
    replace H : (accountingref03_common.l0 k1 x1_1 t256) = some r := H
    have A4 := Aside0.mk A40
    clear A40
    have H' := Aside0.mk H
    clear H
    go_wp2_with (first | ((with_reducible refine gate_callee (f := 46) rfl ?_); refine goesL_ (some 12) rfl rfl Try.func46 (by kernel_rfl) rfl #[.string x0_1, .string x1_1] rfl q20 ?_; (with_reducible refine (accountingref03_divide.calls k1 x0_1 x1_1 t255 t256 _ A4.out).mono ?_); rintro e w5 ⟨rfl, hb⟩; refine ⟨_, rfl, ?_⟩; have n0_ := Aside0.mk (below_step q11 hb); clear HB; have HB := n0_; clear n0_; (try clear hb); (try clear hb2); (try clear hk); (try clear hi)))
    go_roundg k1
    case measure => have := HK1.out; omega
    case rel => exact ⟨(x1_1), (t256), q9, q9, H', ⟨by have := HK1.out; omega⟩, ⟨q11⟩⟩

/-! ### accountingref03_number: function 47 -/
def accountingref03_number.l0 : Nat → ByteArray → Int → Int → Option (Int)
 | 0, _, _, _ => none
 | k + 1, x0, x3, x4 => if x4 < (x0.size : Int) then (if 0 ≤ x4 then (accountingref03_number.l0 k x0 (wrap64 ((wrap64 ((wrap64 (x3 * 10)) + (wrap64 (bt x0 x4)))) - 48)) (wrap64 (x4 + 1))) else (none)) else (some x3)
def accountingref03_number.f (k : Nat) (a0 : ByteArray) : Option (Int) := accountingref03_number.l0 k a0 0 0
theorem accountingref03_number.mono_l : ∀ k, (∀ y0 y1 y2, LeO (accountingref03_number.l0 k y0 y1 y2) (accountingref03_number.l0 (k + 1) y0 y1 y2))
 | 0 => fun _ _ _ r h => by simp [accountingref03_number.l0] at h
 | k + 1 => by
  have ih0 := accountingref03_number.mono_l k
  ·intro y0 y1 y2
   unfold accountingref03_number.l0
   repeat' first
   | (with_reducible exact ih0 _ _ _)
   | (with_reducible exact LeO.refl _)
   | (with_reducible exact LeO.none _)
   | (with_reducible refine LeO.ite ?_ ?_)
   | (with_reducible refine LeO.bind ?_ (fun _ => ?_))
   | exact ih0 _ _ _
   | exact LeO.none _
   | refine LeO.ite ?_ ?_
   | refine LeO.bind ?_ (fun _ => ?_)
theorem accountingref03_number.mono : ∀ a0 k, LeO (accountingref03_number.f k a0) (accountingref03_number.f (k + 1) a0) := by
 intro a0 k
 have ih0 := accountingref03_number.mono_l k
 unfold accountingref03_number.f
 repeat' first
   | (with_reducible exact ih0 _ _ _)
   | (with_reducible exact LeO.refl _)
   | (with_reducible exact LeO.none _)
   | (with_reducible refine LeO.ite ?_ ?_)
   | (with_reducible refine LeO.bind ?_ (fun _ => ?_))
   | exact ih0 _ _ _
   | exact LeO.none _
   | refine LeO.ite ?_ ?_
   | refine LeO.bind ?_ (fun _ => ?_)
set_option maxHeartbeats 8000000 in
set_option maxRecDepth 100000 in
theorem accountingref03_number.calls (k : Nat) (a0 : ByteArray) (r : Int) (w : World) (h : accountingref03_number.f k a0 = some r) :
  Calls Try.prog 47 #[.string a0] w fun e w' => e = .returned (.int .i64 r) ∧ Drawn0 w w' := by
 have H : (accountingref03_number.l0 k a0 0 0) = some r := h
 clear h
 have H' := Aside0.mk H
 clear H
 go_enter Try.func47, Try.ntmps47
 go_wp2
 go_loopg [3, 4] k (fun kq v3 v4 w' => ∃ (x3_1 : Int) (x4_1 : Int), v3 = .int .i64 x3_1 ∧ v4 = .int .i64 x4_1 ∧ Aside0 (accountingref03_number.l0 kq a0 x3_1 x4_1 = some r) ∧ Aside0 (kq ≤ k) ∧ Drawn0 w w')
 case atStart => exact ⟨(0), (0), q9, q9, H', ⟨Nat.le_refl _⟩, q10⟩
 case round =>
  clear H'
  obtain ⟨x3_1, x4_1, rfl, rfl, HA, HK1, ⟨m1, rfl⟩⟩ := hrel
  cases gk with
  | zero => exact absurd HA.out (by simp [accountingref03_number.l0])
  | succ k1 =>
   have H := HA.out
   clear HA
   simp only [accountingref03_number.l0] at H
   by_cases c2 : x4_1 < (a0.size : Int)
   ·rw [if_pos c2] at H
    have c2b0 : decide (x4_1 < (a0.size : Int)) = true := decide_eq_true c2
    clear c2
    by_cases c3 : 0 ≤ x4_1
    ·rw [if_pos c3] at H
     have c3b0 : decide (0 ≤ x4_1) = true := decide_eq_true c3
     clear c3
     have H' := Aside0.mk H
     clear H
     have p4 : 0 ≤ (x4_1 : Int) := of_decide_eq_true q78
     have q4 : x4_1 < (a0.size : Int) := of_decide_eq_true q78
     have hx4 := bt_at a0 x4_1
     replace p4 := eq_true p4
     replace q4 := eq_true q4
     go_wp2
     go_roundg k1
     case measure => have := HK1.out; omega
     case rel => exact ⟨(wrap64 ((wrap64 ((wrap64 (x3_1 * 10)) + (wrap64 (bt a0 x4_1)))) - 48)), (wrap64 (x4_1 + 1)), q9, q9, H', ⟨by have := HK1.out; omega⟩, q10⟩
    ·rw [if_neg c3] at H
     exact absurd H (by simp)
   ·rw [if_neg c2] at H
    have c2b0 : decide (x4_1 < (a0.size : Int)) = false := decide_eq_false c2
    clear c2
    obtain rfl := Option.some.inj H
    go_wp2
    go_ret
    exact ⟨q9, q10⟩

end Go.Proofs.Ytoenhagbgfkihaa.A
