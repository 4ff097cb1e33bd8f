-- By gen.py, a program of this session's, over the print's forms: not the print's own text.
import Derived.Test.YtoenhagbgfkihaaAx0
import Derived.Test.YtoenhagbgfkihaaQ
namespace Go.Proofs.Ytoenhagbgfkihaa.A
open Go.RowKit Go.Proofs.Ytoenhagbgfkihaa.B Go.Proofs.YtoenhagbgfkihaaW.PrintWords Go.Proofs.YtoenhagbgfkihaaW.PrintLast Go.Proofs.YtoenhagbgfkihaaW.PrintMore
attribute [local go_sem] max2_int min2_int max_two min_two max_three min_three max_four min_four   -- for this text's walks alone
set_option linter.unusedVariables false
set_option linter.unusedSimpArgs false

/-! ### frac_digits_trim: function 42 -/
def frac_digits_trim.l0 : Nat → List Int → Option (List Int)
 | 0, _ => none
 | k + 1, x0 => if (x0.length : Int) > 0 then (if 0 < (x0.length : Int) then (if (rd x0 0) = 0 then (if 1 ≤ (x0.length : Int) then (frac_digits_trim.l0 k (x0.drop 1)) else (none)) else (some x0)) else (none)) else (some x0)
def frac_digits_trim.f (k : Nat) (l0 : List Int) : Option (List Int) := frac_digits_trim.l0 k l0
theorem frac_digits_trim.mono_l : ∀ k, (∀ y0, LeO (frac_digits_trim.l0 k y0) (frac_digits_trim.l0 (k + 1) y0))
 | 0 => fun _ r h => by simp [frac_digits_trim.l0] at h
 | k + 1 => by
  have ih0 := frac_digits_trim.mono_l k
  ·intro y0
   unfold frac_digits_trim.l0
   repeat' first
   | (with_reducible exact ih0 _)
   | (with_reducible exact LeO.refl _)
   | (with_reducible exact LeO.none _)
   | (with_reducible refine LeO.ite ?_ ?_)
   | (with_reducible refine LeO.bind ?_ (fun _ => ?_))
   | exact ih0 _
   | exact LeO.none _
   | refine LeO.ite ?_ ?_
   | refine LeO.bind ?_ (fun _ => ?_)
theorem frac_digits_trim.mono : ∀ a0 k, LeO (frac_digits_trim.f k a0) (frac_digits_trim.f (k + 1) a0) := by
 intro a0 k
 have ih0 := frac_digits_trim.mono_l k
 unfold frac_digits_trim.f
 repeat' first
   | (with_reducible exact ih0 _)
   | (with_reducible exact LeO.refl _)
   | (with_reducible exact LeO.none _)
   | (with_reducible refine LeO.ite ?_ ?_)
   | (with_reducible refine LeO.bind ?_ (fun _ => ?_))
   | exact ih0 _
   | exact LeO.none _
   | refine LeO.ite ?_ ?_
   | refine LeO.bind ?_ (fun _ => ?_)
set_option maxHeartbeats 8000000 in
set_option maxRecDepth 100000 in
theorem frac_digits_trim.calls (k : Nat) (P0_ : Nat → Prop) (A0 : Option Addr) (c0 : Nat) (l0 : List Int) (r : List Int) (w : World) (hs0 : Kd.V (Kd.int .u8) 5 w w.heap.size (fun k_ => P0_ k_) (.slice A0 l0.length c0) l0) (h : frac_digits_trim.f k l0 = some r) :
  Calls Try.prog 42 #[.slice A0 l0.length c0] w fun e w' => ∃ v0_ : Value, e = .returned (v0_) ∧ Kd.V (Kd.int .u8) 5 w' w.heap.size (fun k_ => (P0_ k_ ∨ w.heap.size ≤ k_)) v0_ r ∧ Below w.heap.size w w' := by
 have HO0 := Aside0.mk (show Kd.V (Kd.int .u8) 5 w w.heap.size (fun k_ => (P0_ k_ ∨ w.heap.size ≤ k_)) (.slice A0 l0.length c0) l0 from Kd.V_mono hs0 (fun k_ hk => .inl hk))
 have HB := Aside0.mk (Below.refl w.heap.size w)
 have H : (frac_digits_trim.l0 k l0) = some r := h
 clear h
 have H' := Aside0.mk H
 clear H
 go_enter Try.func42, Try.ntmps42
 go_wp2
 go_loopg [0] k (fun kq v0 w' => ∃ (x0_1 : List Int), Aside0 (frac_digits_trim.l0 kq x0_1 = some r) ∧ Aside0 (kq ≤ k) ∧ Aside0 (Kd.V (Kd.int .u8) 5 w' w.heap.size (fun k_ => (P0_ k_ ∨ w.heap.size ≤ k_)) v0 x0_1) ∧ Aside0 (Below w.heap.size w w'))
 case atStart => exact ⟨(l0), H', ⟨Nat.le_refl _⟩, ⟨by (with_reducible repeat (first | apply Kd.V_alloc | apply Kd.V_drewN | apply Kd.V_drew)); exact HO0.out⟩, ⟨q11⟩⟩
 case round =>
  clear H'
  obtain ⟨x0_1, HA, HK1, HO_0, HB⟩ := hrel
  cases gk with
  | zero => exact absurd HA.out (by simp [frac_digits_trim.l0])
  | succ k1 =>
   have H := HA.out
   clear HA
   simp only [frac_digits_trim.l0] at H
   by_cases c2 : (x0_1.length : Int) > 0
   ·rw [if_pos c2] at H
    have c2b0 : decide (0 < (x0_1.length : Int)) = true := decide_eq_true c2
    have c2b1 : decide (0 < x0_1.length) = true := decide_eq_true (by omega)
    clear c2
    by_cases c3 : 0 < (x0_1.length : Int)
    ·rw [if_pos c3] at H
     have c3b0 : decide (0 < (x0_1.length : Int)) = true := decide_eq_true c3
     have c3b1 : decide (0 < x0_1.length) = true := decide_eq_true (by omega)
     clear c3
     by_cases c4 : (rd x0_1 0) = 0
     ·rw [if_pos c4] at H
      have c4b0 : ((rd x0_1 0) == 0) = true := beq_iff_eq.mpr c4
      have c4b1 : ((rd x0_1 0) != 0) = false := bne_eq_false_iff_eq.mpr c4
      clear c4
      by_cases c5 : 1 ≤ (x0_1.length : Int)
      ·rw [if_pos c5] at H
       have c5b0 := eq_true c5
       have c5b1 : decide (1 ≤ (x0_1.length : Int)) = true := decide_eq_true c5
       clear c5
       obtain ⟨y148, hy148⟩ : ∃ y_ : List Int, y_ = (x0_1.drop 1) := ⟨_, rfl⟩
       replace H : (frac_digits_trim.l0 k1 y148) = some r := by first | (rw [hy148]; with_reducible exact H) | (have H2_ := (Option.bind_some _ _).symm.trans H; rw [hy148]; with_reducible exact H2_) | (have H2_ := (Option.bind_some _ _).symm.trans H; with_reducible exact H2_) | with_reducible exact H | (rw [hy148]; exact H) | exact H
       have Ny148 := Aside0.mk hy148
       clear hy148
       have H' := Aside0.mk H
       clear H
       obtain ⟨Ao6, co6, eo6⟩ := Kd.V_slice HO_0.out
       subst eo6
       have p147 : 0 ≤ (0 : Int) := (by omega)
       have q147 : 0 < (x0_1.length : Int) := of_decide_eq_true q78
       obtain ⟨ad147, e147, hx147_0⟩ := Kd.at_int (Kd.V_reads' HO_0.out).2.2 0 p147 q147
       cases e147
       have qi147 : (0 < x0_1.length) = True := eq_true (by omega)
       (try rw [show ((0 : Int)).toNat = 0 from rfl] at hx147_0)
       (try rw [Addr.add_zero'] at hx147_0)
       replace p147 := eq_true p147
       replace q147 := eq_true q147
       have q7 : (1 : Int) ≤ ((x0_1.length : Int) : Int) := of_decide_eq_true q78
       obtain ⟨i07, hi07, _, hsz7, _⟩ := info_parts info5
       have hroom7 : x0_1.length ≤ co6 := (Kd.V_reads' HO_0.out).2.1
       have hC7 : Kd.F (Kd.int .u8) _ _ (some ad147) x0_1.length x0_1 := (Kd.V_at (base := w.heap.size) HO_0.out).2.2
       have hcut7 := cut_from (P := Try.prog) 56 5 .i64 Try.underlying56 hi07 1 hsz7 (some ad147) x0_1.length co6 1 (by omega) q7
       have hr7 := Kd.F_cut (m := (1 : Int).toNat) (c := co6) hC7 (by omega) hroom7
       obtain ⟨A7, hA7⟩ : ∃ A1, A1 = (if co6 = (1 : Int).toNat then (some ad147) else ((some ad147) : Option Addr).map (·.add ((1 : Int).toNat * 1))) := ⟨_, rfl⟩
       obtain ⟨c7, hc7⟩ : ∃ c1, c1 = co6 - (1 : Int).toNat := ⟨_, rfl⟩
       have hy7 : y148.length = x0_1.length - (1 : Int).toNat := (by rw [Ny148.out, List.length_drop] <;> omega)
       rw [show (x0_1).drop (1 : Int).toNat = y148 from Ny148.out.symm] at hr7
       replace hr7 : Kd.F (Kd.int .u8) _ _ A7 y148.length y148 := (by rw [hA7]; exact hr7)
       rw [← hy7, ← hA7, ← hc7] at hcut7
       have HO152 := Aside0.mk (show Kd.V (Kd.int .u8) 5 _ w.heap.size _ (.slice A7 y148.length c7) y148 from Kd.V_mk (by rw [hy7, hc7]; exact Nat.sub_le_sub_right hroom7 _) hr7)
       have HC152 := Aside0.mk (show y148.length ≤ c7 from by rw [hy7, hc7]; exact Nat.sub_le_sub_right hroom7 _)
       clear hr7 hC7 hroom7 hi07 hsz7 hc7
       have KY7 := Aside0.mk hy7
       have KA7 := Aside0.mk hA7
       clear hy7 hA7
       replace q7 := eq_true q7
       go_wp2
       go_roundg k1
       case measure => have := HK1.out; omega
       case rel => exact ⟨(y148), H', ⟨by have := HK1.out; omega⟩, ⟨by (with_reducible repeat (first | apply Kd.V_alloc | apply Kd.V_drewN | apply Kd.V_drew)); exact HO152.out⟩, ⟨q11⟩⟩
      ·rw [if_neg c5] at H
       exact absurd H (by simp)
     ·rw [if_neg c4] at H
      have c4b0 : ((rd x0_1 0) == 0) = false := beq_eq_false_iff_ne.mpr c4
      have c4b1 : ((rd x0_1 0) != 0) = true := bne_iff_ne.mpr c4
      obtain rfl := Option.some.inj H
      obtain ⟨Ao8, co8, eo8⟩ := Kd.V_slice HO_0.out
      subst eo8
      have p147 : 0 ≤ (0 : Int) := (by omega)
      have q147 : 0 < (x0_1.length : Int) := of_decide_eq_true q78
      obtain ⟨ad147, e147, hx147_0⟩ := Kd.at_int (Kd.V_reads' HO_0.out).2.2 0 p147 q147
      cases e147
      have qi147 : (0 < x0_1.length) = True := eq_true (by omega)
      (try rw [show ((0 : Int)).toNat = 0 from rfl] at hx147_0)
      (try rw [Addr.add_zero'] at hx147_0)
      replace p147 := eq_true p147
      replace q147 := eq_true q147
      go_wp2
      go_ret
      exact ⟨_, q13, by (with_reducible repeat (first | apply Kd.V_alloc | apply Kd.V_drewN | apply Kd.V_drew)); exact HO_0.out, q11⟩
    ·rw [if_neg c3] at H
     exact absurd H (by simp)
   ·rw [if_neg c2] at H
    have c2b0 : decide (0 < (x0_1.length : Int)) = false := decide_eq_false c2
    have c2b1 : decide (0 < x0_1.length) = false := decide_eq_false (by omega)
    clear c2
    obtain rfl := Option.some.inj H
    obtain ⟨Ao9, co9, eo9⟩ := Kd.V_slice HO_0.out
    subst eo9
    go_wp2
    go_ret
    exact ⟨_, q13, by (with_reducible repeat (first | apply Kd.V_alloc | apply Kd.V_drewN | apply Kd.V_drew)); exact HO_0.out, q11⟩

/-! ### frac_digits_less: function 73 -/
def frac_digits_less.f (l0 : List Int) (l1 : List Int) : Option (Bool) := if (l0.length : Int) = (l1.length : Int) then (some (Op.bytesLess ((strOfNums l0).toList) ((strOfNums l1).toList))) else (some (decide ((l0.length : Int) < (l1.length : Int))))
set_option maxHeartbeats 8000000 in
set_option maxRecDepth 100000 in
theorem frac_digits_less.calls (A0 : Option Addr) (c0 : Nat) (l0 : List Int) (A1 : Option Addr) (c1 : Nat) (l1 : List Int) (r : Bool) (w : World) (hr0 : Kd.C (Kd.int .u8) w A0 l0.length l0) (hc0 : l0.length ≤ c0) (hr1 : Kd.C (Kd.int .u8) w A1 l1.length l1) (hc1 : l1.length ≤ c1) (h : frac_digits_less.f l0 l1 = some r) :
  Calls Try.prog 73 #[.slice A0 l0.length c0, .slice A1 l1.length c1] w fun e w' => e = .returned (.bool r) ∧ Drawn0 w w' := by
 have HR0 := Aside0.mk hr0
 have HC0 := Aside0.mk hc0
 clear hr0 hc0
 have HR1 := Aside0.mk hr1
 have HC1 := Aside0.mk hc1
 clear hr1 hc1
 have H : (if (l0.length : Int) = (l1.length : Int) then (some (Op.bytesLess ((strOfNums l0).toList) ((strOfNums l1).toList))) else (some (decide ((l0.length : Int) < (l1.length : Int))))) = some r := h
 clear h
 by_cases c3 : (l0.length : Int) = (l1.length : Int)
 ·rw [if_pos c3] at H
  have c3b0 : ((l0.length : Int) == (l1.length : Int)) = true := beq_iff_eq.mpr c3
  have c3b1 : ((l0.length : Int) != (l1.length : Int)) = false := bne_eq_false_iff_eq.mpr c3
  have c3b2 : (l0.length == l1.length) = true := by first | simpa using c3 | (simp at c3 ⊢; omega)
  clear c3
  obtain rfl := Option.some.inj H
  have hcv4 := Kd.C_string (P := Try.prog) (A := A0) (c := c0) Try.underlying56 Try.underlying5 Try.underlying9 HR0.out
  have hcv5 := Kd.C_string (P := Try.prog) (A := A1) (c := c1) Try.underlying56 Try.underlying5 Try.underlying9 HR1.out
  go_enter Try.func73, Try.ntmps73
  go_wp2
  go_ret
  exact ⟨q9, q10⟩
 ·rw [if_neg c3] at H
  have c3b0 : ((l0.length : Int) == (l1.length : Int)) = false := beq_eq_false_iff_ne.mpr c3
  have c3b1 : ((l0.length : Int) != (l1.length : Int)) = true := bne_iff_ne.mpr c3
  have c3b2 : (l0.length == l1.length) = false := by first | simpa using c3 | (simp at c3 ⊢; omega)
  obtain rfl := Option.some.inj H
  go_enter Try.func73, Try.ntmps73
  go_wp2
  go_ret
  exact ⟨q9, q10⟩

/-! ### frac_digits_minus: function 74 -/
def frac_digits_minus.l0 : Nat → List Int → List Int → List Int → Int → Int → Int → Option (List Int)
 | 0, _, _, _, _, _, _ => none
 | k + 1, x0, x1, x5, x6, x14, x15 => if x15 < x14 then (if 0 ≤ (wrap64 ((wrap64 ((x0.length : Int) - 1)) - x15)) then (if (wrap64 ((wrap64 ((x0.length : Int) - 1)) - x15)) < (x0.length : Int) then (if x15 < (x1.length : Int) then (if 0 ≤ (wrap64 ((wrap64 ((x1.length : Int) - 1)) - x15)) then (if (wrap64 ((wrap64 ((x1.length : Int) - 1)) - x15)) < (x1.length : Int) then (if (wrap64 ((wrap64 ((wrap64 (rd x0 (wrap64 ((wrap64 ((x0.length : Int) - 1)) - x15)))) - x6)) - (wrap64 (rd x1 (wrap64 ((wrap64 ((x1.length : Int) - 1)) - x15)))))) < 0 then (if (wrap64 ((wrap64 ((x0.length : Int) - 1)) - x15)) < (x5.length : Int) then (frac_digits_minus.l0 k x0 x1 (x5.set ((wrap64 ((wrap64 ((x0.length : Int) - 1)) - x15)) : Int).toNat ((wrap64 ((wrap64 ((wrap64 ((wrap64 (rd x0 (wrap64 ((wrap64 ((x0.length : Int) - 1)) - x15)))) - x6)) - (wrap64 (rd x1 (wrap64 ((wrap64 ((x1.length : Int) - 1)) - x15)))))) + 10)) % 256)) 1 x14 (wrap64 (x15 + 1))) else (none)) else (if (wrap64 ((wrap64 ((x0.length : Int) - 1)) - x15)) < (x5.length : Int) then (frac_digits_minus.l0 k x0 x1 (x5.set ((wrap64 ((wrap64 ((x0.length : Int) - 1)) - x15)) : Int).toNat ((wrap64 ((wrap64 ((wrap64 (rd x0 (wrap64 ((wrap64 ((x0.length : Int) - 1)) - x15)))) - x6)) - (wrap64 (rd x1 (wrap64 ((wrap64 ((x1.length : Int) - 1)) - x15)))))) % 256)) 0 x14 (wrap64 (x15 + 1))) else (none))) else (none)) else (none)) else (if (wrap64 ((wrap64 (rd x0 (wrap64 ((wrap64 ((x0.length : Int) - 1)) - x15)))) - x6)) < 0 then (if (wrap64 ((wrap64 ((x0.length : Int) - 1)) - x15)) < (x5.length : Int) then (frac_digits_minus.l0 k x0 x1 (x5.set ((wrap64 ((wrap64 ((x0.length : Int) - 1)) - x15)) : Int).toNat ((wrap64 ((wrap64 ((wrap64 (rd x0 (wrap64 ((wrap64 ((x0.length : Int) - 1)) - x15)))) - x6)) + 10)) % 256)) 1 x14 (wrap64 (x15 + 1))) else (none)) else (if (wrap64 ((wrap64 ((x0.length : Int) - 1)) - x15)) < (x5.length : Int) then (frac_digits_minus.l0 k x0 x1 (x5.set ((wrap64 ((wrap64 ((x0.length : Int) - 1)) - x15)) : Int).toNat ((wrap64 ((wrap64 (rd x0 (wrap64 ((wrap64 ((x0.length : Int) - 1)) - x15)))) - x6)) % 256)) 0 x14 (wrap64 (x15 + 1))) else (none)))) else (none)) else (none)) else ((frac_digits_trim.f k x5).bind fun t156 => (some t156))
def frac_digits_minus.f (k : Nat) (l0 : List Int) (l1 : List Int) : Option (List Int) := if 0 ≤ (l0.length : Int) then (if ((l0.length : Int) : Int).toNat ≤ 281474976710656 then (frac_digits_minus.l0 k l0 l1 (List.replicate ((l0.length : Int) : Int).toNat 0) 0 (l0.length : Int) 0) else (none)) else (none)
theorem frac_digits_minus.mono_l : ∀ k, (∀ y0 y1 y2 y3 y4 y5, LeO (frac_digits_minus.l0 k y0 y1 y2 y3 y4 y5) (frac_digits_minus.l0 (k + 1) y0 y1 y2 y3 y4 y5))
 | 0 => fun _ _ _ _ _ _ r h => by simp [frac_digits_minus.l0] at h
 | k + 1 => by
  have ih0 := frac_digits_minus.mono_l k
  ·intro y0 y1 y2 y3 y4 y5
   unfold frac_digits_minus.l0
   repeat' first
   | (with_reducible exact ih0 _ _ _ _ _ _)
   | (with_reducible exact frac_digits_trim.mono _ _)
   | (with_reducible exact LeO.refl _)
   | (with_reducible exact LeO.none _)
   | (with_reducible refine LeO.ite ?_ ?_)
   | (with_reducible refine LeO.bind ?_ (fun _ => ?_))
   | exact ih0 _ _ _ _ _ _
   | exact frac_digits_trim.mono _ _
   | exact LeO.none _
   | refine LeO.ite ?_ ?_
   | refine LeO.bind ?_ (fun _ => ?_)
theorem frac_digits_minus.mono : ∀ a0 a1 k, LeO (frac_digits_minus.f k a0 a1) (frac_digits_minus.f (k + 1) a0 a1) := by
 intro a0 a1 k
 have ih0 := frac_digits_minus.mono_l k
 unfold frac_digits_minus.f
 repeat' first
   | (with_reducible exact ih0 _ _ _ _ _ _)
   | (with_reducible exact frac_digits_trim.mono _ _)
   | (with_reducible exact LeO.refl _)
   | (with_reducible exact LeO.none _)
   | (with_reducible refine LeO.ite ?_ ?_)
   | (with_reducible refine LeO.bind ?_ (fun _ => ?_))
   | exact ih0 _ _ _ _ _ _
   | exact frac_digits_trim.mono _ _
   | exact LeO.none _
   | refine LeO.ite ?_ ?_
   | refine LeO.bind ?_ (fun _ => ?_)
set_option maxHeartbeats 8000000 in
set_option maxRecDepth 100000 in
theorem frac_digits_minus.calls (k : Nat) (A0 : Option Addr) (c0 : Nat) (l0 : List Int) (A1 : Option Addr) (c1 : Nat) (l1 : List Int) (r : List Int) (w : World) (hr0 : Kd.C (Kd.int .u8) w A0 l0.length l0) (hc0 : l0.length ≤ c0) (hr1 : Kd.C (Kd.int .u8) w A1 l1.length l1) (hc1 : l1.length ≤ c1) (h : frac_digits_minus.f k l0 l1 = some r) :
  Calls Try.prog 74 #[.slice A0 l0.length c0, .slice A1 l1.length c1] w fun e w' => ∃ v0_ : Value, e = .returned (v0_) ∧ Kd.V (Kd.int .u8) 5 w' w.heap.size (fun k_ => (w.heap.size ≤ k_)) v0_ r ∧ Below w.heap.size w w' := by
 have HR0 := Aside0.mk hr0
 have HC0 := Aside0.mk hc0
 clear hr0 hc0
 have HR1 := Aside0.mk hr1
 have HC1 := Aside0.mk hc1
 clear hr1 hc1
 have HB := Aside0.mk (Below.refl w.heap.size w)
 have H : (if 0 ≤ (l0.length : Int) then (if ((l0.length : Int) : Int).toNat ≤ 281474976710656 then (frac_digits_minus.l0 k l0 l1 (List.replicate ((l0.length : Int) : Int).toNat 0) 0 (l0.length : Int) 0) else (none)) else (none)) = some r := h
 clear h
 by_cases c3 : 0 ≤ (l0.length : Int)
 ·rw [if_pos c3] at H
  have c3b0 := eq_true c3
  have c3b1 : decide (0 ≤ (l0.length : Int)) = true := decide_eq_true c3
  clear c3
  by_cases c4 : ((l0.length : Int) : Int).toNat ≤ 281474976710656
  ·rw [if_pos c4] at H
   have c4b0 := eq_true c4
   have c4b1 : decide (((l0.length : Int) : Int).toNat ≤ 281474976710656) = true := decide_eq_true c4
   clear c4
   obtain ⟨y153, hy153⟩ : ∃ y_ : List Int, y_ = (List.replicate ((l0.length : Int) : Int).toNat 0) := ⟨_, rfl⟩
   replace H : (frac_digits_minus.l0 k l0 l1 y153 0 (l0.length : Int) 0) = some r := by first | (rw [hy153]; with_reducible exact H) | (have H2_ := (Option.bind_some _ _).symm.trans H; rw [hy153]; with_reducible exact H2_) | (have H2_ := (Option.bind_some _ _).symm.trans H; with_reducible exact H2_) | with_reducible exact H | (rw [hy153]; exact H) | exact H
   have Ny153 := Aside0.mk hy153
   clear hy153
   have H' := Aside0.mk H
   clear H
   go_enter Try.func74, Try.ntmps74
   go_wp2_with (first | ((with_reducible refine gate_dst (N := 12) rfl ?_); refine Kd.R_make (Kd.int .u8) _ 5 rfl (N := 12) rfl 56 _ _ rfl (l0.length : Int) rfl rfl Try.underlying56 (.int .u8 0) 1 info5 rfl (by decide) (by omega) 0 (ok := fun _ => True) (okp := fun _ => True) rfl (fun _ hk => hk) trivial (of_decide_eq_true q78) (Nat.le_trans (Nat.mul_le_mul_right _ (of_decide_eq_true q78 : (l0.length : Int).toNat ≤ 281474976710656)) (by omega)) (Below.refl _ _) (Nat.le_refl _) ?_; intro v154 w5 ho6 hb hg_ hnew_; clear hg_ hnew_; (first | rw [← Ny153.out] at ho6 | (simp only [Int.reduceToNat] at ho6; rw [← Ny153.out] at ho6)); have n0_ := Aside0.mk (Kd.R_lower (Kd.R_newM (M := fun k_ => (w.heap.size ≤ k_)) ho6 (below_size q11) (fun k_ h_ => h_)) (below_size q11)); have n1_ := Aside0.mk (below_step q11 hb); clear HB; have HO155 := n0_; have HB := n1_; clear n0_ n1_; clear hb ho6))
   go_loopg [6, 15] k (fun kq v6 v15 w' => ∃ (x5_1 : List Int) (x6_1 : Int) (x15_1 : Int), v6 = .int .i64 x6_1 ∧ v15 = .int .i64 x15_1 ∧ Aside0 (frac_digits_minus.l0 kq l0 l1 x5_1 x6_1 (l0.length : Int) x15_1 = some r) ∧ Aside0 (kq ≤ k) ∧ Aside0 (Kd.R (Kd.int .u8) 5 w' w.heap.size (fun k_ => (w.heap.size ≤ k_)) v154 x5_1) ∧ Aside0 (Below w.heap.size w w'))
   case atStart => exact ⟨(y153), (0), (0), q9, q9, H', ⟨Nat.le_refl _⟩, ⟨by (with_reducible repeat (first | apply Kd.R_alloc | apply Kd.R_drewN | apply Kd.R_drew)); exact Kd.R_mono HO155.out (fun _ hk => hk.1)⟩, ⟨q11⟩⟩
   case round =>
    clear H'
    try clear c1
    try clear p2
    try clear c3
    try clear c3b0
    try clear c3b1
    try clear c4
    try clear c4b0
    try clear c4b1
    obtain ⟨x5_1, x6_1, x15_1, rfl, rfl, HA, HK1, HO_5, HB⟩ := hrel
    cases gk with
    | zero => exact absurd HA.out (by simp [frac_digits_minus.l0])
    | succ k1 =>
     have H := HA.out
     clear HA
     simp only [frac_digits_minus.l0] at H
     by_cases c7 : x15_1 < (l0.length : Int)
     ·rw [if_pos c7] at H
      have c7b0 : decide (x15_1 < (l0.length : Int)) = true := decide_eq_true c7
      clear c7
      obtain ⟨ji8, hji8⟩ : ∃ j_ : Int, (wrap64 ((wrap64 ((l0.length : Int) - 1)) - x15_1)) = j_ := ⟨_, rfl⟩
      replace H : (if 0 ≤ (ji8) then (if (ji8) < (l0.length : Int) then (if x15_1 < (l1.length : Int) then (if 0 ≤ (wrap64 ((wrap64 ((l1.length : Int) - 1)) - x15_1)) then (if (wrap64 ((wrap64 ((l1.length : Int) - 1)) - x15_1)) < (l1.length : Int) then (if (wrap64 ((wrap64 ((wrap64 (rd l0 (ji8))) - x6_1)) - (wrap64 (rd l1 (wrap64 ((wrap64 ((l1.length : Int) - 1)) - x15_1)))))) < 0 then (if (ji8) < (x5_1.length : Int) then (frac_digits_minus.l0 k1 l0 l1 (x5_1.set ((ji8) : Int).toNat ((wrap64 ((wrap64 ((wrap64 ((wrap64 (rd l0 (ji8))) - x6_1)) - (wrap64 (rd l1 (wrap64 ((wrap64 ((l1.length : Int) - 1)) - x15_1)))))) + 10)) % 256)) 1 (l0.length : Int) (wrap64 (x15_1 + 1))) else (none)) else (if (ji8) < (x5_1.length : Int) then (frac_digits_minus.l0 k1 l0 l1 (x5_1.set ((ji8) : Int).toNat ((wrap64 ((wrap64 ((wrap64 (rd l0 (ji8))) - x6_1)) - (wrap64 (rd l1 (wrap64 ((wrap64 ((l1.length : Int) - 1)) - x15_1)))))) % 256)) 0 (l0.length : Int) (wrap64 (x15_1 + 1))) else (none))) else (none)) else (none)) else (if (wrap64 ((wrap64 (rd l0 (ji8))) - x6_1)) < 0 then (if (ji8) < (x5_1.length : Int) then (frac_digits_minus.l0 k1 l0 l1 (x5_1.set ((ji8) : Int).toNat ((wrap64 ((wrap64 ((wrap64 (rd l0 (ji8))) - x6_1)) + 10)) % 256)) 1 (l0.length : Int) (wrap64 (x15_1 + 1))) else (none)) else (if (ji8) < (x5_1.length : Int) then (frac_digits_minus.l0 k1 l0 l1 (x5_1.set ((ji8) : Int).toNat ((wrap64 ((wrap64 (rd l0 (ji8))) - x6_1)) % 256)) 0 (l0.length : Int) (wrap64 (x15_1 + 1))) else (none)))) else (none)) else (none)) = some r := by first | (rw [hji8] at H; exact H) | (simp only [hji8] at H ⊢; exact H)
      have hji8w : (IntKind.i64.wrap ((wrap64 ((l0.length : Int) - 1)) - x15_1)) = ji8 := (i64_w _).trans hji8
      by_cases c9 : 0 ≤ (ji8)
      ·rw [if_pos c9] at H
       have c9b0 : decide (0 ≤ (ji8)) = true := decide_eq_true c9
       clear c9
       by_cases c10 : (ji8) < (l0.length : Int)
       ·rw [if_pos c10] at H
        have c10b0 : decide ((ji8) < (l0.length : Int)) = true := decide_eq_true c10
        clear c10
        by_cases c11 : x15_1 < (l1.length : Int)
        ·rw [if_pos c11] at H
         have c11b0 : decide (x15_1 < (l1.length : Int)) = true := decide_eq_true c11
         clear c11
         obtain ⟨ji12, hji12⟩ : ∃ j_ : Int, (wrap64 ((wrap64 ((l1.length : Int) - 1)) - x15_1)) = j_ := ⟨_, rfl⟩
         replace H : (if 0 ≤ (ji12) then (if (ji12) < (l1.length : Int) then (if (wrap64 ((wrap64 ((wrap64 (rd l0 (ji8))) - x6_1)) - (wrap64 (rd l1 (ji12))))) < 0 then (if (ji8) < (x5_1.length : Int) then (frac_digits_minus.l0 k1 l0 l1 (x5_1.set ((ji8) : Int).toNat ((wrap64 ((wrap64 ((wrap64 ((wrap64 (rd l0 (ji8))) - x6_1)) - (wrap64 (rd l1 (ji12))))) + 10)) % 256)) 1 (l0.length : Int) (wrap64 (x15_1 + 1))) else (none)) else (if (ji8) < (x5_1.length : Int) then (frac_digits_minus.l0 k1 l0 l1 (x5_1.set ((ji8) : Int).toNat ((wrap64 ((wrap64 ((wrap64 (rd l0 (ji8))) - x6_1)) - (wrap64 (rd l1 (ji12))))) % 256)) 0 (l0.length : Int) (wrap64 (x15_1 + 1))) else (none))) else (none)) else (none)) = some r := by first | (rw [hji12] at H; exact H) | (simp only [hji12] at H ⊢; exact H)
         have hji12w : (IntKind.i64.wrap ((wrap64 ((l1.length : Int) - 1)) - x15_1)) = ji12 := (i64_w _).trans hji12
         by_cases c13 : 0 ≤ (ji12)
         ·rw [if_pos c13] at H
          have c13b0 : decide (0 ≤ (ji12)) = true := decide_eq_true c13
          clear c13
          by_cases c14 : (ji12) < (l1.length : Int)
          ·rw [if_pos c14] at H
           have c14b0 : decide ((ji12) < (l1.length : Int)) = true := decide_eq_true c14
           clear c14
           by_cases c15 : (wrap64 ((wrap64 ((wrap64 (rd l0 (ji8))) - x6_1)) - (wrap64 (rd l1 (ji12))))) < 0
           ·rw [if_pos c15] at H
            have c15b0 : decide ((wrap64 ((wrap64 ((wrap64 (rd l0 (ji8))) - x6_1)) - (wrap64 (rd l1 (ji12))))) < 0) = true := decide_eq_true c15
            clear c15
            by_cases c16 : (ji8) < (x5_1.length : Int)
            ·rw [if_pos c16] at H
             have c16b0 : decide ((ji8) < (x5_1.length : Int)) = true := decide_eq_true c16
             clear c16
             obtain ⟨y161, hy161⟩ : ∃ y_ : List Int, y_ = (x5_1.set ((ji8) : Int).toNat ((wrap64 ((wrap64 ((wrap64 ((wrap64 (rd l0 (ji8))) - x6_1)) - (wrap64 (rd l1 (ji12))))) + 10)) % 256)) := ⟨_, rfl⟩
             replace H : (frac_digits_minus.l0 k1 l0 l1 y161 1 (l0.length : Int) (wrap64 (x15_1 + 1))) = some r := by first | (rw [hy161]; with_reducible exact H) | (have H2_ := (Option.bind_some _ _).symm.trans H; rw [hy161]; with_reducible exact H2_) | (have H2_ := (Option.bind_some _ _).symm.trans H; with_reducible exact H2_) | with_reducible exact H | (rw [hy161]; exact H) | exact H
             have Ny161 := Aside0.mk hy161
             clear hy161
             have H' := Aside0.mk H
             clear H
             have p159 : 0 ≤ ((ji8) : Int) := of_decide_eq_true q78
             have q159 : (ji8) < (l0.length : Int) := of_decide_eq_true q78
             obtain ⟨ad159, e159, hx159_0⟩ := Kd.at_int HR0.out (ji8) p159 q159
             cases e159
             replace hx159_0 := (HB.out.cell (World.block_lt_of_cell? w _ hx159_0)).trans hx159_0
             replace p159 := eq_true p159
             replace q159 := eq_true q159
             have p160 : 0 ≤ ((ji12) : Int) := of_decide_eq_true q78
             have q160 : (ji12) < (l1.length : Int) := of_decide_eq_true q78
             obtain ⟨ad160, e160, hx160_0⟩ := Kd.at_int HR1.out (ji12) p160 q160
             cases e160
             replace hx160_0 := (HB.out.cell (World.block_lt_of_cell? w _ hx160_0)).trans hx160_0
             replace p160 := eq_true p160
             replace q160 := eq_true q160
             have p17 : 0 ≤ ((ji8) : Int) := of_decide_eq_true q78
             have q17 : ((ji8) : Int) < ((x5_1.length : Int) : Int) := of_decide_eq_true q78
             obtain ⟨go17, co17, eo17, gb17, gl17, cl17, HG17⟩ := Kd.R_form HO_5.out (by omega)
             (first | cases eo17 | (injection eo17 with ea_ en_ ec_; (first | subst ea_ | (injection ea_ with ea_; subst ea_)); subst ec_; clear en_))
             have GB17 := Aside0.mk gb17
             have GG17 := Aside0.mk HG17
             clear gb17 gl17 HG17
             obtain ⟨hx17_0, hf17_0⟩ := Kd.R_celln 0 HO_5.out ((ji8) : Int) p17 q17
             replace p17 := eq_true p17
             replace q17 := eq_true q17
             have HP18 := Kd.R_putg HO_5.out ((ji8) : Int) ((wrap64 ((wrap64 ((wrap64 ((wrap64 (rd l0 (ji8))) - x6_1)) - (wrap64 (rd l1 (ji12))))) + 10)) % 256)
             go_wp2_with (first | ((with_reducible refine gate_store (t := 5) (p := 53) rfl ?_); refine store_event (t := 5) (p := 53) (v := ?vo_w19) (w1 := (wr.setCell ⟨go17, ((ji8) : Int).toNat, none⟩ (.int .u8 ((wrap64 ((wrap64 ((wrap64 ((wrap64 (rd l0 (ji8))) - x6_1)) - (wrap64 (rd l1 (ji12))))) + 10)) % 256)))) ?hg ?ho ?hn ?hr ?_; (case ho => rfl); (case hg => rfl); (case hn => rfl); (case hr => first | (go_simp; done) | (go_simp; rfl)); intro w19 hw; have hg : wr.grownBy w19 (some go17) := (by rw [hw]; exact HP18.2); have hp_ : Kd.R (Kd.int .u8) 5 w19 w.heap.size (fun k_ => (w.heap.size ≤ k_)) (.slice (some ⟨go17, 0, none⟩) x5_1.length co17) y161 := (by rw [hw, Ny161.out]; exact HP18.1); clear HP18; have n0_ := Aside0.mk (hp_); have n1_ := Aside0.mk ((by rw [hw]; exact below_set (HB.out) GB17.out : Below w.heap.size w w19)); clear HO_5; clear HB; have HO_5 := n0_; have HB := n1_; clear n0_ n1_; clear hg hw hp_))
             go_roundg k1
             case measure => have := HK1.out; omega
             case rel => exact ⟨(y161), (1), (wrap64 (x15_1 + 1)), q9, q9, H', ⟨by have := HK1.out; omega⟩, ⟨q198⟩, ⟨q11⟩⟩
            ·rw [if_neg c16] at H
             exact absurd H (by simp)
           ·rw [if_neg c15] at H
            have c15b0 : decide ((wrap64 ((wrap64 ((wrap64 (rd l0 (ji8))) - x6_1)) - (wrap64 (rd l1 (ji12))))) < 0) = false := decide_eq_false c15
            clear c15
            by_cases c20 : (ji8) < (x5_1.length : Int)
            ·rw [if_pos c20] at H
             have c20b0 : decide ((ji8) < (x5_1.length : Int)) = true := decide_eq_true c20
             clear c20
             obtain ⟨y162, hy162⟩ : ∃ y_ : List Int, y_ = (x5_1.set ((ji8) : Int).toNat ((wrap64 ((wrap64 ((wrap64 (rd l0 (ji8))) - x6_1)) - (wrap64 (rd l1 (ji12))))) % 256)) := ⟨_, rfl⟩
             replace H : (frac_digits_minus.l0 k1 l0 l1 y162 0 (l0.length : Int) (wrap64 (x15_1 + 1))) = some r := by first | (rw [hy162]; with_reducible exact H) | (have H2_ := (Option.bind_some _ _).symm.trans H; rw [hy162]; with_reducible exact H2_) | (have H2_ := (Option.bind_some _ _).symm.trans H; with_reducible exact H2_) | with_reducible exact H | (rw [hy162]; exact H) | exact H
             have Ny162 := Aside0.mk hy162
             clear hy162
             have H' := Aside0.mk H
             clear H
             have p159 : 0 ≤ ((ji8) : Int) := of_decide_eq_true q78
             have q159 : (ji8) < (l0.length : Int) := of_decide_eq_true q78
             obtain ⟨ad159, e159, hx159_0⟩ := Kd.at_int HR0.out (ji8) p159 q159
             cases e159
             replace hx159_0 := (HB.out.cell (World.block_lt_of_cell? w _ hx159_0)).trans hx159_0
             replace p159 := eq_true p159
             replace q159 := eq_true q159
             have p160 : 0 ≤ ((ji12) : Int) := of_decide_eq_true q78
             have q160 : (ji12) < (l1.length : Int) := of_decide_eq_true q78
             obtain ⟨ad160, e160, hx160_0⟩ := Kd.at_int HR1.out (ji12) p160 q160
             cases e160
             replace hx160_0 := (HB.out.cell (World.block_lt_of_cell? w _ hx160_0)).trans hx160_0
             replace p160 := eq_true p160
             replace q160 := eq_true q160
             have p21 : 0 ≤ ((ji8) : Int) := of_decide_eq_true q78
             have q21 : ((ji8) : Int) < ((x5_1.length : Int) : Int) := of_decide_eq_true q78
             obtain ⟨go21, co21, eo21, gb21, gl21, cl21, HG21⟩ := Kd.R_form HO_5.out (by omega)
             (first | cases eo21 | (injection eo21 with ea_ en_ ec_; (first | subst ea_ | (injection ea_ with ea_; subst ea_)); subst ec_; clear en_))
             have GB21 := Aside0.mk gb21
             have GG21 := Aside0.mk HG21
             clear gb21 gl21 HG21
             obtain ⟨hx21_0, hf21_0⟩ := Kd.R_celln 0 HO_5.out ((ji8) : Int) p21 q21
             replace p21 := eq_true p21
             replace q21 := eq_true q21
             have HP22 := Kd.R_putg HO_5.out ((ji8) : Int) ((wrap64 ((wrap64 ((wrap64 (rd l0 (ji8))) - x6_1)) - (wrap64 (rd l1 (ji12))))) % 256)
             go_wp2_with (first | ((with_reducible refine gate_store (t := 5) (p := 53) rfl ?_); refine store_event (t := 5) (p := 53) (v := ?vo_w23) (w1 := (wr.setCell ⟨go21, ((ji8) : Int).toNat, none⟩ (.int .u8 ((wrap64 ((wrap64 ((wrap64 (rd l0 (ji8))) - x6_1)) - (wrap64 (rd l1 (ji12))))) % 256)))) ?hg ?ho ?hn ?hr ?_; (case ho => rfl); (case hg => rfl); (case hn => rfl); (case hr => first | (go_simp; done) | (go_simp; rfl)); intro w23 hw; have hg : wr.grownBy w23 (some go21) := (by rw [hw]; exact HP22.2); have hp_ : Kd.R (Kd.int .u8) 5 w23 w.heap.size (fun k_ => (w.heap.size ≤ k_)) (.slice (some ⟨go21, 0, none⟩) x5_1.length co21) y162 := (by rw [hw, Ny162.out]; exact HP22.1); clear HP22; have n0_ := Aside0.mk (hp_); have n1_ := Aside0.mk ((by rw [hw]; exact below_set (HB.out) GB21.out : Below w.heap.size w w23)); clear HO_5; clear HB; have HO_5 := n0_; have HB := n1_; clear n0_ n1_; clear hg hw hp_))
             go_roundg k1
             case measure => have := HK1.out; omega
             case rel => exact ⟨(y162), (0), (wrap64 (x15_1 + 1)), q9, q9, H', ⟨by have := HK1.out; omega⟩, ⟨q198⟩, ⟨q11⟩⟩
            ·rw [if_neg c20] at H
             exact absurd H (by simp)
          ·rw [if_neg c14] at H
           exact absurd H (by simp)
         ·rw [if_neg c13] at H
          exact absurd H (by simp)
        ·rw [if_neg c11] at H
         have c11b0 : decide (x15_1 < (l1.length : Int)) = false := decide_eq_false c11
         clear c11
         by_cases c24 : (wrap64 ((wrap64 (rd l0 (ji8))) - x6_1)) < 0
         ·rw [if_pos c24] at H
          have c24b0 : decide ((wrap64 ((wrap64 (rd l0 (ji8))) - x6_1)) < 0) = true := decide_eq_true c24
          clear c24
          by_cases c25 : (ji8) < (x5_1.length : Int)
          ·rw [if_pos c25] at H
           have c25b0 : decide ((ji8) < (x5_1.length : Int)) = true := decide_eq_true c25
           clear c25
           obtain ⟨y163, hy163⟩ : ∃ y_ : List Int, y_ = (x5_1.set ((ji8) : Int).toNat ((wrap64 ((wrap64 ((wrap64 (rd l0 (ji8))) - x6_1)) + 10)) % 256)) := ⟨_, rfl⟩
           replace H : (frac_digits_minus.l0 k1 l0 l1 y163 1 (l0.length : Int) (wrap64 (x15_1 + 1))) = some r := by first | (rw [hy163]; with_reducible exact H) | (have H2_ := (Option.bind_some _ _).symm.trans H; rw [hy163]; with_reducible exact H2_) | (have H2_ := (Option.bind_some _ _).symm.trans H; with_reducible exact H2_) | with_reducible exact H | (rw [hy163]; exact H) | exact H
           have Ny163 := Aside0.mk hy163
           clear hy163
           have H' := Aside0.mk H
           clear H
           have p159 : 0 ≤ ((ji8) : Int) := of_decide_eq_true q78
           have q159 : (ji8) < (l0.length : Int) := of_decide_eq_true q78
           obtain ⟨ad159, e159, hx159_0⟩ := Kd.at_int HR0.out (ji8) p159 q159
           cases e159
           replace hx159_0 := (HB.out.cell (World.block_lt_of_cell? w _ hx159_0)).trans hx159_0
           replace p159 := eq_true p159
           replace q159 := eq_true q159
           have p26 : 0 ≤ ((ji8) : Int) := of_decide_eq_true q78
           have q26 : ((ji8) : Int) < ((x5_1.length : Int) : Int) := of_decide_eq_true q78
           obtain ⟨go26, co26, eo26, gb26, gl26, cl26, HG26⟩ := Kd.R_form HO_5.out (by omega)
           (first | cases eo26 | (injection eo26 with ea_ en_ ec_; (first | subst ea_ | (injection ea_ with ea_; subst ea_)); subst ec_; clear en_))
           have GB26 := Aside0.mk gb26
           have GG26 := Aside0.mk HG26
           clear gb26 gl26 HG26
           obtain ⟨hx26_0, hf26_0⟩ := Kd.R_celln 0 HO_5.out ((ji8) : Int) p26 q26
           replace p26 := eq_true p26
           replace q26 := eq_true q26
           have HP27 := Kd.R_putg HO_5.out ((ji8) : Int) ((wrap64 ((wrap64 ((wrap64 (rd l0 (ji8))) - x6_1)) + 10)) % 256)
           go_wp2_with (first | ((with_reducible refine gate_store (t := 5) (p := 53) rfl ?_); refine store_event (t := 5) (p := 53) (v := ?vo_w28) (w1 := (wr.setCell ⟨go26, ((ji8) : Int).toNat, none⟩ (.int .u8 ((wrap64 ((wrap64 ((wrap64 (rd l0 (ji8))) - x6_1)) + 10)) % 256)))) ?hg ?ho ?hn ?hr ?_; (case ho => rfl); (case hg => rfl); (case hn => rfl); (case hr => first | (go_simp; done) | (go_simp; rfl)); intro w28 hw; have hg : wr.grownBy w28 (some go26) := (by rw [hw]; exact HP27.2); have hp_ : Kd.R (Kd.int .u8) 5 w28 w.heap.size (fun k_ => (w.heap.size ≤ k_)) (.slice (some ⟨go26, 0, none⟩) x5_1.length co26) y163 := (by rw [hw, Ny163.out]; exact HP27.1); clear HP27; have n0_ := Aside0.mk (hp_); have n1_ := Aside0.mk ((by rw [hw]; exact below_set (HB.out) GB26.out : Below w.heap.size w w28)); clear HO_5; clear HB; have HO_5 := n0_; have HB := n1_; clear n0_ n1_; clear hg hw hp_))
           go_roundg k1
           case measure => have := HK1.out; omega
           case rel => exact ⟨(y163), (1), (wrap64 (x15_1 + 1)), q9, q9, H', ⟨by have := HK1.out; omega⟩, ⟨q198⟩, ⟨q11⟩⟩
          ·rw [if_neg c25] at H
           exact absurd H (by simp)
         ·rw [if_neg c24] at H
          have c24b0 : decide ((wrap64 ((wrap64 (rd l0 (ji8))) - x6_1)) < 0) = false := decide_eq_false c24
          clear c24
          by_cases c29 : (ji8) < (x5_1.length : Int)
          ·rw [if_pos c29] at H
           have c29b0 : decide ((ji8) < (x5_1.length : Int)) = true := decide_eq_true c29
           clear c29
           obtain ⟨y164, hy164⟩ : ∃ y_ : List Int, y_ = (x5_1.set ((ji8) : Int).toNat ((wrap64 ((wrap64 (rd l0 (ji8))) - x6_1)) % 256)) := ⟨_, rfl⟩
           replace H : (frac_digits_minus.l0 k1 l0 l1 y164 0 (l0.length : Int) (wrap64 (x15_1 + 1))) = some r := by first | (rw [hy164]; with_reducible exact H) | (have H2_ := (Option.bind_some _ _).symm.trans H; rw [hy164]; with_reducible exact H2_) | (have H2_ := (Option.bind_some _ _).symm.trans H; with_reducible exact H2_) | with_reducible exact H | (rw [hy164]; exact H) | exact H
           have Ny164 := Aside0.mk hy164
           clear hy164
           have H' := Aside0.mk H
           clear H
           have p159 : 0 ≤ ((ji8) : Int) := of_decide_eq_true q78
           have q159 : (ji8) < (l0.length : Int) := of_decide_eq_true q78
           obtain ⟨ad159, e159, hx159_0⟩ := Kd.at_int HR0.out (ji8) p159 q159
           cases e159
           replace hx159_0 := (HB.out.cell (World.block_lt_of_cell? w _ hx159_0)).trans hx159_0
           replace p159 := eq_true p159
           replace q159 := eq_true q159
           have p30 : 0 ≤ ((ji8) : Int) := of_decide_eq_true q78
           have q30 : ((ji8) : Int) < ((x5_1.length : Int) : Int) := of_decide_eq_true q78
           obtain ⟨go30, co30, eo30, gb30, gl30, cl30, HG30⟩ := Kd.R_form HO_5.out (by omega)
           (first | cases eo30 | (injection eo30 with ea_ en_ ec_; (first | subst ea_ | (injection ea_ with ea_; subst ea_)); subst ec_; clear en_))
           have GB30 := Aside0.mk gb30
           have GG30 := Aside0.mk HG30
           clear gb30 gl30 HG30
           obtain ⟨hx30_0, hf30_0⟩ := Kd.R_celln 0 HO_5.out ((ji8) : Int) p30 q30
           replace p30 := eq_true p30
           replace q30 := eq_true q30
           have HP31 := Kd.R_putg HO_5.out ((ji8) : Int) ((wrap64 ((wrap64 (rd l0 (ji8))) - x6_1)) % 256)
           go_wp2_with (first | ((with_reducible refine gate_store (t := 5) (p := 53) rfl ?_); refine store_event (t := 5) (p := 53) (v := ?vo_w32) (w1 := (wr.setCell ⟨go30, ((ji8) : Int).toNat, none⟩ (.int .u8 ((wrap64 ((wrap64 (rd l0 (ji8))) - x6_1)) % 256)))) ?hg ?ho ?hn ?hr ?_; (case ho => rfl); (case hg => rfl); (case hn => rfl); (case hr => first | (go_simp; done) | (go_simp; rfl)); intro w32 hw; have hg : wr.grownBy w32 (some go30) := (by rw [hw]; exact HP31.2); have hp_ : Kd.R (Kd.int .u8) 5 w32 w.heap.size (fun k_ => (w.heap.size ≤ k_)) (.slice (some ⟨go30, 0, none⟩) x5_1.length co30) y164 := (by rw [hw, Ny164.out]; exact HP31.1); clear HP31; have n0_ := Aside0.mk (hp_); have n1_ := Aside0.mk ((by rw [hw]; exact below_set (HB.out) GB30.out : Below w.heap.size w w32)); clear HO_5; clear HB; have HO_5 := n0_; have HB := n1_; clear n0_ n1_; clear hg hw hp_))
           go_roundg k1
           case measure => have := HK1.out; omega
           case rel => exact ⟨(y164), (0), (wrap64 (x15_1 + 1)), q9, q9, H', ⟨by have := HK1.out; omega⟩, ⟨q198⟩, ⟨q11⟩⟩
          ·rw [if_neg c29] at H
           exact absurd H (by simp)
       ·rw [if_neg c10] at H
        exact absurd H (by simp)
      ·rw [if_neg c9] at H
       exact absurd H (by simp)
     ·rw [if_neg c7] at H
      have c7b0 : decide (x15_1 < (l0.length : Int)) = false := decide_eq_false c7
      clear c7
      replace H := Option.bind_eq_some_iff.mp H
      obtain ⟨t156, A330, H⟩ := H
      replace H : (some t156) = some r := H
      have A33 := Aside0.mk A330
      clear A330
      obtain rfl := Option.some.inj H
      obtain ⟨Ao34, co34, eo34⟩ := Kd.R_slice HO_5.out
      subst eo34
      go_wp2_with (first | ((with_reducible refine gate_callee (f := 42) rfl ?_); refine goesL_ (some 56) rfl rfl Try.func42 (by kernel_rfl) rfl #[.slice Ao34 x5_1.length co34] rfl q20 ?_; (with_reducible refine (frac_digits_trim.calls k1 (fun k_ => some k_ = (.slice Ao34 x5_1.length co34 : Value).ownBlock) _ _ x5_1 t156 _ ?side1 A33.out).mono ?_); (case side1 => exact Kd.R_V (Kd.R_tight rfl (HO_5.out))); rintro e w35 ⟨v157, rfl, ho0, hb⟩; refine ⟨_, rfl, ?_⟩; have n0_ := Aside0.mk (Kd.R_below q198 hb); have n1_ := Aside0.mk (Kd.V_lower (Kd.V_mono (ok' := fun k_ => (w.heap.size ≤ k_)) ho0 (fun k_ hk_ => Or.elim hk_ (fun hs_ => ((HO_5.out).1 k_ hs_.symm)) (fun hn_ => (Nat.le_trans (below_size q11) hn_)))) (below_size q11)); have n2_ := Aside0.mk (below_step q11 hb); clear HO_5; clear HB; have HO_5 := n0_; have HO158 := n1_; have HB := n2_; clear n0_ n1_ n2_; (try clear hb); (try clear hb2); (try clear hk); (try clear hi); (try clear ho0)))
      go_ret
      exact ⟨_, q13, by (with_reducible repeat (first | apply Kd.V_alloc | apply Kd.V_drewN | apply Kd.V_drew)); exact HO158.out, q11⟩
  ·rw [if_neg c4] at H
   exact absurd H (by simp)
 ·rw [if_neg c3] at H
  exact absurd H (by simp)

end Go.Proofs.Ytoenhagbgfkihaa.A
