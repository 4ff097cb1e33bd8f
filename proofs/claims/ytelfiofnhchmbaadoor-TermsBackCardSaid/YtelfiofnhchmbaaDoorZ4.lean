-- By pack.py, a program of this session's: declarations of this seat's texts, put together for a claim.
import Derived.Test.YtelfiofnhchmbaaDoorZ3
namespace Go.Proofs.YtelfiofnhchmbaaDoor.A
open Go.RowKit Go.Proofs.YtelfiofnhchmbaaDoor.B Go.Proofs.YtelfiofnhchmbaaDoorW.PrintWords Go.Proofs.YtelfiofnhchmbaaDoorW.PrintLast Go.Proofs.YtelfiofnhchmbaaDoorW.PrintMore
attribute [local go_sem] max2_int min2_int max_two min_two max_three min_three max_four min_four
set_option linter.unusedVariables false
set_option linter.unusedSimpArgs false
set_option maxHeartbeats 8000000
set_option maxRecDepth 100000
theorem frac_digits_trim.calls (k : Nat) (P0_ : Nat → Prop) (A0 : Option Addr) (c0 : Nat) (l0 : List Int) (r : List Int) (w : World) (hs0 : Kd.V (Kd.int .u8) 5 w w.heap.size (fun k_ => P0_ k_) (.slice A0 l0.length c0) l0) (h : frac_digits_trim.f k l0 = some r) :
  Calls Tryd.prog 85 #[.slice A0 l0.length c0] w fun e w' => ∃ v0_ : Value, e = .returned (v0_) ∧ Kd.V (Kd.int .u8) 5 w' w.heap.size (fun k_ => (P0_ k_ ∨ w.heap.size ≤ k_)) v0_ r ∧ Below w.heap.size w w' := by
 have HO0 := sd (show Kd.V (Kd.int .u8) 5 w w.heap.size (fun k_ => (P0_ k_ ∨ w.heap.size ≤ k_)) (.slice A0 l0.length c0) l0 from Kd.V_mono hs0 (fun k_ hk => .inl hk))
 have HB := sd (Below.refl w.heap.size w)
 have H := h
 clear h
 unfold frac_digits_trim.f at H
 have H' := sd H
 clear H
 go_enter Tryd.func85, Tryd.ntmps85
 go_wp2
 go_loopg [0] k (fun kq v0 w' => ∃ (x0_1 : List Int), Aside0 (frac_digits_trim.l0 kq x0_1 = some r) ∧ Aside0 (kq ≤ k) ∧ Aside0 (Kd.V (Kd.int .u8) 5 w' w.heap.size (fun k_ => (P0_ k_ ∨ w.heap.size ≤ k_)) v0 x0_1) ∧ Aside0 (Below w.heap.size w w'))
 case atStart => exact ⟨(l0), H', ⟨Nat.le_refl _⟩, ⟨by (with_reducible repeat (first | apply Kd.V_alloc | apply Kd.V_drewN | apply Kd.V_drew)); exact HO0.out⟩, ⟨zq34⟩⟩
 case round =>
  clear H'
  obtain ⟨x0_1, HA, HK1, HO_0, HB⟩ := hrel
  cases gk with
  | zero => exact absurd HA.out (by simp [frac_digits_trim.l0])
  | succ k1 =>
   have H := HA.out
   clear HA
   simp only [frac_digits_trim.l0] at H
   replace H := ifI H
   rcases H with ⟨c2, H⟩ | ⟨c2, H⟩
   ·have c2b0 : decide (0 < (x0_1.length : Int)) = true := decide_eq_true c2
    have c2b1 : decide (0 < x0_1.length) = true := decide_eq_true (by omega)
    clear c2
    replace H := ifI H
    rcases H with ⟨c3, H⟩ | ⟨c3, H⟩
    ·have c3b0 : decide (0 < (x0_1.length : Int)) = true := decide_eq_true c3
     have c3b1 : decide (0 < x0_1.length) = true := decide_eq_true (by omega)
     clear c3
     replace H := ifI H
     rcases H with ⟨c4, H⟩ | ⟨c4, H⟩
     ·obtain ⟨c4b0, c4b1⟩ := eqI c4
      clear c4
      replace H := ifI H
      rcases H with ⟨c5, H⟩ | ⟨c5, H⟩
      ·have c5b0 := eq_true c5
       have c5b1 : decide (1 ≤ (x0_1.length : Int)) = true := decide_eq_true c5
       clear c5
       obtain ⟨y219, hy219⟩ : ∃ y_ : List Int, y_ = (x0_1.drop 1) := ⟨_, rfl⟩
       replace H : (frac_digits_trim.l0 k1 y219) = some r := by first | (rw [hy219]; with_reducible exact H) | (have H2_ := (Option.bind_some _ _).symm.trans H; rw [hy219]; with_reducible exact H2_) | (have H2_ := (Option.bind_some _ _).symm.trans H; with_reducible exact H2_) | with_reducible exact H | (rw [hy219]; exact H) | exact H
       have Ny219 := sd hy219
       clear hy219
       have H' := sd H
       clear H
       obtain ⟨Ao6, co6, eo6⟩ := Kd.V_slice HO_0.out
       subst eo6
       have p218 : 0 ≤ (0 : Int) := (by omega)
       have q218 : 0 < (x0_1.length : Int) := od
       obtain ⟨ad218, e218, hx218_0⟩ := Kd.at_int (Kd.V_reads' HO_0.out).2.2 0 p218 q218
       cases e218
       have qi218 : (0 < x0_1.length) = True := eq_true (by omega)
       (try rw [show ((0 : Int)).toNat = 0 from rfl] at hx218_0)
       (try rw [Addr.add_zero'] at hx218_0)
       replace p218 := eq_true p218
       replace q218 := eq_true q218
       have q7 : (1 : Int) ≤ ((x0_1.length : Int) : Int) := od
       obtain ⟨i07, hi07, _, hsz7, _⟩ := info_parts info5
       have hroom7 : x0_1.length ≤ co6 := (Kd.V_reads' HO_0.out).2.1
       have hC7 : Kd.F (Kd.int .u8) _ _ (some ad218) x0_1.length x0_1 := (Kd.V_at (base := w.heap.size) HO_0.out).2.2
       have hcut7 := cut_from (P := Tryd.prog) 123 5 .i64 Tryd.underlying123 hi07 1 hsz7 (some ad218) x0_1.length co6 1 (by omega) q7
       have hr7 := Kd.F_cut (m := (1 : Int).toNat) (c := co6) hC7 (by omega) hroom7
       obtain ⟨A7, hA7⟩ : ∃ A1, A1 = (if co6 = (1 : Int).toNat then (some ad218) else ((some ad218) : Option Addr).map (·.add ((1 : Int).toNat * 1))) := ⟨_, rfl⟩
       obtain ⟨c7, hc7⟩ : ∃ c1, c1 = co6 - (1 : Int).toNat := ⟨_, rfl⟩
       have hy7 : y219.length = x0_1.length - (1 : Int).toNat := (by rw [Ny219.out, List.length_drop] <;> omega)
       rw [show (x0_1).drop (1 : Int).toNat = y219 from Ny219.out.symm] at hr7
       replace hr7 : Kd.F (Kd.int .u8) _ _ A7 y219.length y219 := (by rw [hA7]; exact hr7)
       rw [← hy7, ← hA7, ← hc7] at hcut7
       have HO223 := sd (show Kd.V (Kd.int .u8) 5 _ w.heap.size _ (.slice A7 y219.length c7) y219 from Kd.V_mk (by rw [hy7, hc7]; exact Nat.sub_le_sub_right hroom7 _) hr7)
       have HC223 := sd (show y219.length ≤ c7 from by rw [hy7, hc7]; exact Nat.sub_le_sub_right hroom7 _)
       clear hr7 hC7 hroom7 hi07 hsz7 hc7
       have KY7 := sd hy7
       have KA7 := sd hA7
       clear hy7 hA7
       replace q7 := eq_true q7
       go_wp2
       go_roundg k1
       case measure => have := HK1.out; omega
       case rel => exact ⟨(y219), H', ⟨by have := HK1.out; omega⟩, ⟨by (with_reducible repeat (first | apply Kd.V_alloc | apply Kd.V_drewN | apply Kd.V_drew)); exact HO223.out⟩, ⟨zq34⟩⟩
      exact absurd H (by simp)
     obtain ⟨c4b0, c4b1⟩ := neI c4
     obtain rfl := Option.some.inj H
     obtain ⟨Ao8, co8, eo8⟩ := Kd.V_slice HO_0.out
     subst eo8
     have p218 : 0 ≤ (0 : Int) := (by omega)
     have q218 : 0 < (x0_1.length : Int) := od
     obtain ⟨ad218, e218, hx218_0⟩ := Kd.at_int (Kd.V_reads' HO_0.out).2.2 0 p218 q218
     cases e218
     have qi218 : (0 < x0_1.length) = True := eq_true (by omega)
     (try rw [show ((0 : Int)).toNat = 0 from rfl] at hx218_0)
     (try rw [Addr.add_zero'] at hx218_0)
     replace p218 := eq_true p218
     replace q218 := eq_true q218
     go_wp2
     go_ret
     exact ⟨_, zq8, by (with_reducible repeat (first | apply Kd.V_alloc | apply Kd.V_drewN | apply Kd.V_drew)); exact HO_0.out, zq34⟩
    exact absurd H (by simp)
   have c2b0 : decide (0 < (x0_1.length : Int)) = false := decide_eq_false c2
   have c2b1 : decide (0 < x0_1.length) = false := decide_eq_false (by omega)
   clear c2
   obtain rfl := Option.some.inj H
   obtain ⟨Ao9, co9, eo9⟩ := Kd.V_slice HO_0.out
   subst eo9
   go_wp2
   go_ret
   exact ⟨_, zq8, by (with_reducible repeat (first | apply Kd.V_alloc | apply Kd.V_drewN | apply Kd.V_drew)); exact HO_0.out, zq34⟩
def frac_digits_less.f (l0 : List Int) (l1 : List Int) : Option (Bool) := if (l0.length : Int) = (l1.length : Int) then (some (Op.bytesLess ((strOfNums l0).toList) ((strOfNums l1).toList))) else (some (decide ((l0.length : Int) < (l1.length : Int))))
theorem frac_digits_less.calls (A0 : Option Addr) (c0 : Nat) (l0 : List Int) (A1 : Option Addr) (c1 : Nat) (l1 : List Int) (r : Bool) (w : World) (hr0 : Kd.C (Kd.int .u8) w A0 l0.length l0) (hc0 : l0.length ≤ c0) (hr1 : Kd.C (Kd.int .u8) w A1 l1.length l1) (hc1 : l1.length ≤ c1) (h : frac_digits_less.f l0 l1 = some r) :
  Calls Tryd.prog 100 #[.slice A0 l0.length c0, .slice A1 l1.length c1] w fun e w' => e = .returned (.bool r) ∧ Drawn0 w w' := by
 have HR0 := sd hr0
 have HC0 := sd hc0
 clear hr0 hc0
 have HR1 := sd hr1
 have HC1 := sd hc1
 clear hr1 hc1
 have H := h
 clear h
 unfold frac_digits_less.f at H
 replace H := ifI H
 rcases H with ⟨c3, H⟩ | ⟨c3, H⟩
 ·obtain ⟨c3b0, c3b1⟩ := eqI c3
  have c3b2 : (l0.length == l1.length) = true := by first | simpa using c3 | (simp at c3 ⊢; omega)
  clear c3
  obtain rfl := Option.some.inj H
  have hcv4 := Kd.C_string (P := Tryd.prog) (A := A0) (c := c0) Tryd.underlying123 Tryd.underlying5 Tryd.underlying9 HR0.out
  have hcv5 := Kd.C_string (P := Tryd.prog) (A := A1) (c := c1) Tryd.underlying123 Tryd.underlying5 Tryd.underlying9 HR1.out
  go_enter Tryd.func100, Tryd.ntmps100
  go_wp2
  go_ret
  exact ⟨zq1, zq23⟩
 obtain ⟨c3b0, c3b1⟩ := neI c3
 have c3b2 : (l0.length == l1.length) = false := by first | simpa using c3 | (simp at c3 ⊢; omega)
 obtain rfl := Option.some.inj H
 go_enter Tryd.func100, Tryd.ntmps100
 go_wp2
 go_ret
 exact ⟨zq1, zq23⟩
def frac_digits_minus.l0 : Nat → List Int → List Int → List Int → Int → Int → Int → Option (List Int)
 | 0, _, _, _, _, _, _ => none
 | k + 1, x0, x1, x5, x6, x14, x15 => if x15 < x14 then (if 0 ≤ (wrap64 ((wrap64 ((x0.length : Int) - 1)) - x15)) then (if (wrap64 ((wrap64 ((x0.length : Int) - 1)) - x15)) < (x0.length : Int) then (if x15 < (x1.length : Int) then (if 0 ≤ (wrap64 ((wrap64 ((x1.length : Int) - 1)) - x15)) then (if (wrap64 ((wrap64 ((x1.length : Int) - 1)) - x15)) < (x1.length : Int) then (if (wrap64 ((wrap64 ((wrap64 (rd x0 (wrap64 ((wrap64 ((x0.length : Int) - 1)) - x15)))) - x6)) - (wrap64 (rd x1 (wrap64 ((wrap64 ((x1.length : Int) - 1)) - x15)))))) < 0 then (if (wrap64 ((wrap64 ((x0.length : Int) - 1)) - x15)) < (x5.length : Int) then (frac_digits_minus.l0 k x0 x1 (x5.set ((wrap64 ((wrap64 ((x0.length : Int) - 1)) - x15)) : Int).toNat ((wrap64 ((wrap64 ((wrap64 ((wrap64 (rd x0 (wrap64 ((wrap64 ((x0.length : Int) - 1)) - x15)))) - x6)) - (wrap64 (rd x1 (wrap64 ((wrap64 ((x1.length : Int) - 1)) - x15)))))) + 10)) % 256)) 1 x14 (wrap64 (x15 + 1))) else (none)) else (if (wrap64 ((wrap64 ((x0.length : Int) - 1)) - x15)) < (x5.length : Int) then (frac_digits_minus.l0 k x0 x1 (x5.set ((wrap64 ((wrap64 ((x0.length : Int) - 1)) - x15)) : Int).toNat ((wrap64 ((wrap64 ((wrap64 (rd x0 (wrap64 ((wrap64 ((x0.length : Int) - 1)) - x15)))) - x6)) - (wrap64 (rd x1 (wrap64 ((wrap64 ((x1.length : Int) - 1)) - x15)))))) % 256)) 0 x14 (wrap64 (x15 + 1))) else (none))) else (none)) else (none)) else (if (wrap64 ((wrap64 (rd x0 (wrap64 ((wrap64 ((x0.length : Int) - 1)) - x15)))) - x6)) < 0 then (if (wrap64 ((wrap64 ((x0.length : Int) - 1)) - x15)) < (x5.length : Int) then (frac_digits_minus.l0 k x0 x1 (x5.set ((wrap64 ((wrap64 ((x0.length : Int) - 1)) - x15)) : Int).toNat ((wrap64 ((wrap64 ((wrap64 (rd x0 (wrap64 ((wrap64 ((x0.length : Int) - 1)) - x15)))) - x6)) + 10)) % 256)) 1 x14 (wrap64 (x15 + 1))) else (none)) else (if (wrap64 ((wrap64 ((x0.length : Int) - 1)) - x15)) < (x5.length : Int) then (frac_digits_minus.l0 k x0 x1 (x5.set ((wrap64 ((wrap64 ((x0.length : Int) - 1)) - x15)) : Int).toNat ((wrap64 ((wrap64 (rd x0 (wrap64 ((wrap64 ((x0.length : Int) - 1)) - x15)))) - x6)) % 256)) 0 x14 (wrap64 (x15 + 1))) else (none)))) else (none)) else (none)) else ((frac_digits_trim.f k x5).bind fun t227 => (some t227))
def frac_digits_minus.f (k : Nat) (l0 : List Int) (l1 : List Int) : Option (List Int) := if 0 ≤ (l0.length : Int) then (if ((l0.length : Int) : Int).toNat ≤ 281474976710656 then (frac_digits_minus.l0 k l0 l1 (List.replicate ((l0.length : Int) : Int).toNat 0) 0 (l0.length : Int) 0) else (none)) else (none)
theorem frac_digits_minus.mono_l : ∀ k, (∀ y0 y1 y2 y3 y4 y5, LeO (frac_digits_minus.l0 k y0 y1 y2 y3 y4 y5) (frac_digits_minus.l0 (k + 1) y0 y1 y2 y3 y4 y5))
 | 0 => fun _ _ _ _ _ _ r h => by simp [frac_digits_minus.l0] at h
 | k + 1 => by
  have ih0 := frac_digits_minus.mono_l k
  ·intro y0 y1 y2 y3 y4 y5
   unfold frac_digits_minus.l0
   repeat' (with_reducible first | exact ih0 _ _ _ _ _ _ | exact frac_digits_trim.mono _ _ | exact LeO.refl _ | exact LeO.none _ | refine LeO.ite ?_ ?_ | refine LeO.bind ?_ (fun _ => ?_))
theorem frac_digits_minus.mono : ∀ a0 a1 k, LeO (frac_digits_minus.f k a0 a1) (frac_digits_minus.f (k + 1) a0 a1) := by
 intro a0 a1 k
 have ih0 := frac_digits_minus.mono_l k
 unfold frac_digits_minus.f
 repeat' (with_reducible first | exact ih0 _ _ _ _ _ _ | exact frac_digits_trim.mono _ _ | exact LeO.refl _ | exact LeO.none _ | refine LeO.ite ?_ ?_ | refine LeO.bind ?_ (fun _ => ?_))
theorem frac_digits_minus.calls (k : Nat) (A0 : Option Addr) (c0 : Nat) (l0 : List Int) (A1 : Option Addr) (c1 : Nat) (l1 : List Int) (r : List Int) (w : World) (hr0 : Kd.C (Kd.int .u8) w A0 l0.length l0) (hc0 : l0.length ≤ c0) (hr1 : Kd.C (Kd.int .u8) w A1 l1.length l1) (hc1 : l1.length ≤ c1) (h : frac_digits_minus.f k l0 l1 = some r) :
  Calls Tryd.prog 101 #[.slice A0 l0.length c0, .slice A1 l1.length c1] w fun e w' => ∃ v0_ : Value, e = .returned (v0_) ∧ Kd.V (Kd.int .u8) 5 w' w.heap.size (fun k_ => (w.heap.size ≤ k_)) v0_ r ∧ Below w.heap.size w w' := by
 have HR0 := sd hr0
 have HC0 := sd hc0
 clear hr0 hc0
 have HR1 := sd hr1
 have HC1 := sd hc1
 clear hr1 hc1
 have HB := sd (Below.refl w.heap.size w)
 have H := h
 clear h
 unfold frac_digits_minus.f at H
 replace H := ifI H
 rcases H with ⟨c3, H⟩ | ⟨c3, H⟩
 ·have c3b0 := eq_true c3
  have c3b1 : decide (0 ≤ (l0.length : Int)) = true := decide_eq_true c3
  clear c3
  replace H := ifI H
  rcases H with ⟨c4, H⟩ | ⟨c4, H⟩
  ·have c4b0 := eq_true c4
   have c4b1 : decide (((l0.length : Int) : Int).toNat ≤ 281474976710656) = true := decide_eq_true c4
   clear c4
   obtain ⟨y224, hy224⟩ : ∃ y_ : List Int, y_ = (List.replicate ((l0.length : Int) : Int).toNat 0) := ⟨_, rfl⟩
   replace H : (frac_digits_minus.l0 k l0 l1 y224 0 (l0.length : Int) 0) = some r := by first | (rw [hy224]; with_reducible exact H) | (have H2_ := (Option.bind_some _ _).symm.trans H; rw [hy224]; with_reducible exact H2_) | (have H2_ := (Option.bind_some _ _).symm.trans H; with_reducible exact H2_) | with_reducible exact H | (rw [hy224]; exact H) | exact H
   have Ny224 := sd hy224
   clear hy224
   have H' := sd H
   clear H
   go_enter Tryd.func101, Tryd.ntmps101
   go_wp2_with (first | ((with_reducible refine gate_dst (N := 12) rfl ?_); refine Kd.R_make (Kd.int .u8) _ 5 rfl (N := 12) rfl 123 _ _ rfl (l0.length : Int) rfl rfl Tryd.underlying123 (.int .u8 0) 1 info5 rfl (by decide) (by omega) 0 (ok := fun _ => True) (okp := fun _ => True) rfl (fun _ hk => hk) trivial (od) (Nat.le_trans (Nat.mul_le_mul_right _ (od : (l0.length : Int).toNat ≤ 281474976710656)) (by omega)) (Below.refl _ _) (Nat.le_refl _) ?_; intro v225 w5 ho6 hb hg_ hnew_; clear hg_ hnew_; (first | rw [← Ny224.out] at ho6 | (simp only [Int.reduceToNat] at ho6; rw [← Ny224.out] at ho6)); have HO226 := sd (Kd.R_lower (Kd.R_newM (M := fun k_ => (w.heap.size ≤ k_)) ho6 (below_size zq34) (fun k_ h_ => h_)) (below_size zq34)); replace HB := hbm HB hb; clear hb ho6))
   go_loopg [6, 15] k (fun kq v6 v15 w' => ∃ (x5_1 : List Int) (x6_1 : Int) (x15_1 : Int), v6 = .int .i64 x6_1 ∧ v15 = .int .i64 x15_1 ∧ Aside0 (frac_digits_minus.l0 kq l0 l1 x5_1 x6_1 (l0.length : Int) x15_1 = some r) ∧ Aside0 (kq ≤ k) ∧ Aside0 (Kd.R (Kd.int .u8) 5 w' w.heap.size (fun k_ => (w.heap.size ≤ k_)) v225 x5_1) ∧ Aside0 (Below w.heap.size w w'))
   case atStart => exact ⟨(y224), (0), (0), zq1, zq1, H', ⟨Nat.le_refl _⟩, ⟨by (with_reducible repeat (first | apply Kd.R_alloc | apply Kd.R_drewN | apply Kd.R_drew)); exact Kd.R_mono HO226.out (fun _ hk => hk.1)⟩, ⟨zq34⟩⟩
   case round =>
    clear H'
    try clear c1
    try clear p2
    try clear c3
    try clear c3b0
    try clear c3b1
    try clear c4
    try clear c4b0
    try clear c4b1
    obtain ⟨x5_1, x6_1, x15_1, rfl, rfl, HA, HK1, HO_5, HB⟩ := hrel
    cases gk with
    | zero => exact absurd HA.out (by simp [frac_digits_minus.l0])
    | succ k1 =>
     have H := HA.out
     clear HA
     simp only [frac_digits_minus.l0] at H
     replace H := ifI H
     rcases H with ⟨c7, H⟩ | ⟨c7, H⟩
     ·have c7b0 : decide (x15_1 < (l0.length : Int)) = true := decide_eq_true c7
      clear c7
      obtain ⟨ji8, hji8⟩ : ∃ j_ : Int, (wrap64 ((wrap64 ((l0.length : Int) - 1)) - x15_1)) = j_ := ⟨_, rfl⟩
      replace H : (if 0 ≤ (ji8) then (if (ji8) < (l0.length : Int) then (if x15_1 < (l1.length : Int) then (if 0 ≤ (wrap64 ((wrap64 ((l1.length : Int) - 1)) - x15_1)) then (if (wrap64 ((wrap64 ((l1.length : Int) - 1)) - x15_1)) < (l1.length : Int) then (if (wrap64 ((wrap64 ((wrap64 (rd l0 (ji8))) - x6_1)) - (wrap64 (rd l1 (wrap64 ((wrap64 ((l1.length : Int) - 1)) - x15_1)))))) < 0 then (if (ji8) < (x5_1.length : Int) then (frac_digits_minus.l0 k1 l0 l1 (x5_1.set ((ji8) : Int).toNat ((wrap64 ((wrap64 ((wrap64 ((wrap64 (rd l0 (ji8))) - x6_1)) - (wrap64 (rd l1 (wrap64 ((wrap64 ((l1.length : Int) - 1)) - x15_1)))))) + 10)) % 256)) 1 (l0.length : Int) (wrap64 (x15_1 + 1))) else (none)) else (if (ji8) < (x5_1.length : Int) then (frac_digits_minus.l0 k1 l0 l1 (x5_1.set ((ji8) : Int).toNat ((wrap64 ((wrap64 ((wrap64 (rd l0 (ji8))) - x6_1)) - (wrap64 (rd l1 (wrap64 ((wrap64 ((l1.length : Int) - 1)) - x15_1)))))) % 256)) 0 (l0.length : Int) (wrap64 (x15_1 + 1))) else (none))) else (none)) else (none)) else (if (wrap64 ((wrap64 (rd l0 (ji8))) - x6_1)) < 0 then (if (ji8) < (x5_1.length : Int) then (frac_digits_minus.l0 k1 l0 l1 (x5_1.set ((ji8) : Int).toNat ((wrap64 ((wrap64 ((wrap64 (rd l0 (ji8))) - x6_1)) + 10)) % 256)) 1 (l0.length : Int) (wrap64 (x15_1 + 1))) else (none)) else (if (ji8) < (x5_1.length : Int) then (frac_digits_minus.l0 k1 l0 l1 (x5_1.set ((ji8) : Int).toNat ((wrap64 ((wrap64 (rd l0 (ji8))) - x6_1)) % 256)) 0 (l0.length : Int) (wrap64 (x15_1 + 1))) else (none)))) else (none)) else (none)) = some r := by first | (rw [hji8] at H; exact H) | (simp only [hji8] at H ⊢; exact H)
      have hji8w : (IntKind.i64.wrap ((wrap64 ((l0.length : Int) - 1)) - x15_1)) = ji8 := (i64_w _).trans hji8
      replace H := ifI H
      rcases H with ⟨c9, H⟩ | ⟨c9, H⟩
      ·have c9b0 : decide (0 ≤ (ji8)) = true := decide_eq_true c9
       clear c9
       replace H := ifI H
       rcases H with ⟨c10, H⟩ | ⟨c10, H⟩
       ·have c10b0 : decide ((ji8) < (l0.length : Int)) = true := decide_eq_true c10
        clear c10
        replace H := ifI H
        rcases H with ⟨c11, H⟩ | ⟨c11, H⟩
        ·have c11b0 : decide (x15_1 < (l1.length : Int)) = true := decide_eq_true c11
         clear c11
         obtain ⟨ji12, hji12⟩ : ∃ j_ : Int, (wrap64 ((wrap64 ((l1.length : Int) - 1)) - x15_1)) = j_ := ⟨_, rfl⟩
         replace H : (if 0 ≤ (ji12) then (if (ji12) < (l1.length : Int) then (if (wrap64 ((wrap64 ((wrap64 (rd l0 (ji8))) - x6_1)) - (wrap64 (rd l1 (ji12))))) < 0 then (if (ji8) < (x5_1.length : Int) then (frac_digits_minus.l0 k1 l0 l1 (x5_1.set ((ji8) : Int).toNat ((wrap64 ((wrap64 ((wrap64 ((wrap64 (rd l0 (ji8))) - x6_1)) - (wrap64 (rd l1 (ji12))))) + 10)) % 256)) 1 (l0.length : Int) (wrap64 (x15_1 + 1))) else (none)) else (if (ji8) < (x5_1.length : Int) then (frac_digits_minus.l0 k1 l0 l1 (x5_1.set ((ji8) : Int).toNat ((wrap64 ((wrap64 ((wrap64 (rd l0 (ji8))) - x6_1)) - (wrap64 (rd l1 (ji12))))) % 256)) 0 (l0.length : Int) (wrap64 (x15_1 + 1))) else (none))) else (none)) else (none)) = some r := by first | (rw [hji12] at H; exact H) | (simp only [hji12] at H ⊢; exact H)
         have hji12w : (IntKind.i64.wrap ((wrap64 ((l1.length : Int) - 1)) - x15_1)) = ji12 := (i64_w _).trans hji12
         replace H := ifI H
         rcases H with ⟨c13, H⟩ | ⟨c13, H⟩
         ·have c13b0 : decide (0 ≤ (ji12)) = true := decide_eq_true c13
          clear c13
          replace H := ifI H
          rcases H with ⟨c14, H⟩ | ⟨c14, H⟩
          ·have c14b0 : decide ((ji12) < (l1.length : Int)) = true := decide_eq_true c14
           clear c14
           replace H := ifI H
           rcases H with ⟨c15, H⟩ | ⟨c15, H⟩
           ·have c15b0 : decide ((wrap64 ((wrap64 ((wrap64 (rd l0 (ji8))) - x6_1)) - (wrap64 (rd l1 (ji12))))) < 0) = true := decide_eq_true c15
            clear c15
            replace H := ifI H
            rcases H with ⟨c16, H⟩ | ⟨c16, H⟩
            ·have c16b0 : decide ((ji8) < (x5_1.length : Int)) = true := decide_eq_true c16
             clear c16
             obtain ⟨y232, hy232⟩ : ∃ y_ : List Int, y_ = (x5_1.set ((ji8) : Int).toNat ((wrap64 ((wrap64 ((wrap64 ((wrap64 (rd l0 (ji8))) - x6_1)) - (wrap64 (rd l1 (ji12))))) + 10)) % 256)) := ⟨_, rfl⟩
             replace H : (frac_digits_minus.l0 k1 l0 l1 y232 1 (l0.length : Int) (wrap64 (x15_1 + 1))) = some r := by first | (rw [hy232]; with_reducible exact H) | (have H2_ := (Option.bind_some _ _).symm.trans H; rw [hy232]; with_reducible exact H2_) | (have H2_ := (Option.bind_some _ _).symm.trans H; with_reducible exact H2_) | with_reducible exact H | (rw [hy232]; exact H) | exact H
             have Ny232 := sd hy232
             clear hy232
             have H' := sd H
             clear H
             have p230 : 0 ≤ ((ji8) : Int) := od
             have q230 : (ji8) < (l0.length : Int) := od
             obtain ⟨ad230, e230, hx230_0⟩ := Kd.at_int HR0.out (ji8) p230 q230
             cases e230
             replace hx230_0 := (HB.out.cell (World.block_lt_of_cell? w _ hx230_0)).trans hx230_0
             replace p230 := eq_true p230
             replace q230 := eq_true q230
             have p231 : 0 ≤ ((ji12) : Int) := od
             have q231 : (ji12) < (l1.length : Int) := od
             obtain ⟨ad231, e231, hx231_0⟩ := Kd.at_int HR1.out (ji12) p231 q231
             cases e231
             replace hx231_0 := (HB.out.cell (World.block_lt_of_cell? w _ hx231_0)).trans hx231_0
             replace p231 := eq_true p231
             replace q231 := eq_true q231
             have p17 : 0 ≤ ((ji8) : Int) := od
             have q17 : ((ji8) : Int) < ((x5_1.length : Int) : Int) := od
             obtain ⟨go17, co17, eo17, gb17, gl17, cl17, HG17⟩ := Kd.R_form HO_5.out (by omega)
             (first | cases eo17 | (injection eo17 with ea_ en_ ec_; (first | subst ea_ | (injection ea_ with ea_; subst ea_)); subst ec_; clear en_))
             have GB17 := sd gb17
             have GG17 := sd HG17
             clear gb17 gl17 HG17
             obtain ⟨hx17_0, hf17_0⟩ := Kd.R_celln 0 HO_5.out ((ji8) : Int) p17 q17
             replace p17 := eq_true p17
             replace q17 := eq_true q17
             have HP18 := Kd.R_putg HO_5.out ((ji8) : Int) ((wrap64 ((wrap64 ((wrap64 ((wrap64 (rd l0 (ji8))) - x6_1)) - (wrap64 (rd l1 (ji12))))) + 10)) % 256)
             go_wp2_with (first | ((with_reducible refine gate_store (t := 5) (p := 53) rfl ?_); refine store_event (t := 5) (p := 53) (v := ?vo_w19) (w1 := (wr.setCell ⟨go17, ((ji8) : Int).toNat, none⟩ (.int .u8 ((wrap64 ((wrap64 ((wrap64 ((wrap64 (rd l0 (ji8))) - x6_1)) - (wrap64 (rd l1 (ji12))))) + 10)) % 256)))) ?hg ?ho ?hn ?hr ?_; (case ho => rfl); (case hg => rfl); (case hn => rfl); (case hr => first | (go_simp; done) | (go_simp; rfl)); intro w19 hw; have hg : wr.grownBy w19 (some go17) := (by rw [hw]; exact HP18.2); have hp_ : Kd.R (Kd.int .u8) 5 w19 w.heap.size (fun k_ => (w.heap.size ≤ k_)) (.slice (some ⟨go17, 0, none⟩) x5_1.length co17) y232 := (by rw [hw, Ny232.out]; exact HP18.1); clear HP18; replace HO_5 := sd (hp_); replace HB := sd ((by rw [hw]; exact below_set (HB.out) GB17.out : Below w.heap.size w w19)); clear hg hw hp_))
             go_roundg k1
             case measure => have := HK1.out; omega
             case rel => exact ⟨(y232), (1), (wrap64 (x15_1 + 1)), zq1, zq1, H', ⟨by have := HK1.out; omega⟩, ⟨zq12⟩, ⟨zq34⟩⟩
            exact absurd H (by simp)
           have c15b0 : decide ((wrap64 ((wrap64 ((wrap64 (rd l0 (ji8))) - x6_1)) - (wrap64 (rd l1 (ji12))))) < 0) = false := decide_eq_false c15
           clear c15
           replace H := ifI H
           rcases H with ⟨c20, H⟩ | ⟨c20, H⟩
           ·have c20b0 : decide ((ji8) < (x5_1.length : Int)) = true := decide_eq_true c20
            clear c20
            obtain ⟨y233, hy233⟩ : ∃ y_ : List Int, y_ = (x5_1.set ((ji8) : Int).toNat ((wrap64 ((wrap64 ((wrap64 (rd l0 (ji8))) - x6_1)) - (wrap64 (rd l1 (ji12))))) % 256)) := ⟨_, rfl⟩
            replace H : (frac_digits_minus.l0 k1 l0 l1 y233 0 (l0.length : Int) (wrap64 (x15_1 + 1))) = some r := by first | (rw [hy233]; with_reducible exact H) | (have H2_ := (Option.bind_some _ _).symm.trans H; rw [hy233]; with_reducible exact H2_) | (have H2_ := (Option.bind_some _ _).symm.trans H; with_reducible exact H2_) | with_reducible exact H | (rw [hy233]; exact H) | exact H
            have Ny233 := sd hy233
            clear hy233
            have H' := sd H
            clear H
            have p230 : 0 ≤ ((ji8) : Int) := od
            have q230 : (ji8) < (l0.length : Int) := od
            obtain ⟨ad230, e230, hx230_0⟩ := Kd.at_int HR0.out (ji8) p230 q230
            cases e230
            replace hx230_0 := (HB.out.cell (World.block_lt_of_cell? w _ hx230_0)).trans hx230_0
            replace p230 := eq_true p230
            replace q230 := eq_true q230
            have p231 : 0 ≤ ((ji12) : Int) := od
            have q231 : (ji12) < (l1.length : Int) := od
            obtain ⟨ad231, e231, hx231_0⟩ := Kd.at_int HR1.out (ji12) p231 q231
            cases e231
            replace hx231_0 := (HB.out.cell (World.block_lt_of_cell? w _ hx231_0)).trans hx231_0
            replace p231 := eq_true p231
            replace q231 := eq_true q231
            have p21 : 0 ≤ ((ji8) : Int) := od
            have q21 : ((ji8) : Int) < ((x5_1.length : Int) : Int) := od
            obtain ⟨go21, co21, eo21, gb21, gl21, cl21, HG21⟩ := Kd.R_form HO_5.out (by omega)
            (first | cases eo21 | (injection eo21 with ea_ en_ ec_; (first | subst ea_ | (injection ea_ with ea_; subst ea_)); subst ec_; clear en_))
            have GB21 := sd gb21
            have GG21 := sd HG21
            clear gb21 gl21 HG21
            obtain ⟨hx21_0, hf21_0⟩ := Kd.R_celln 0 HO_5.out ((ji8) : Int) p21 q21
            replace p21 := eq_true p21
            replace q21 := eq_true q21
            have HP22 := Kd.R_putg HO_5.out ((ji8) : Int) ((wrap64 ((wrap64 ((wrap64 (rd l0 (ji8))) - x6_1)) - (wrap64 (rd l1 (ji12))))) % 256)
            go_wp2_with (first | ((with_reducible refine gate_store (t := 5) (p := 53) rfl ?_); refine store_event (t := 5) (p := 53) (v := ?vo_w23) (w1 := (wr.setCell ⟨go21, ((ji8) : Int).toNat, none⟩ (.int .u8 ((wrap64 ((wrap64 ((wrap64 (rd l0 (ji8))) - x6_1)) - (wrap64 (rd l1 (ji12))))) % 256)))) ?hg ?ho ?hn ?hr ?_; (case ho => rfl); (case hg => rfl); (case hn => rfl); (case hr => first | (go_simp; done) | (go_simp; rfl)); intro w23 hw; have hg : wr.grownBy w23 (some go21) := (by rw [hw]; exact HP22.2); have hp_ : Kd.R (Kd.int .u8) 5 w23 w.heap.size (fun k_ => (w.heap.size ≤ k_)) (.slice (some ⟨go21, 0, none⟩) x5_1.length co21) y233 := (by rw [hw, Ny233.out]; exact HP22.1); clear HP22; replace HO_5 := sd (hp_); replace HB := sd ((by rw [hw]; exact below_set (HB.out) GB21.out : Below w.heap.size w w23)); clear hg hw hp_))
            go_roundg k1
            case measure => have := HK1.out; omega
            case rel => exact ⟨(y233), (0), (wrap64 (x15_1 + 1)), zq1, zq1, H', ⟨by have := HK1.out; omega⟩, ⟨zq12⟩, ⟨zq34⟩⟩
           exact absurd H (by simp)
          exact absurd H (by simp)
         exact absurd H (by simp)
        have c11b0 : decide (x15_1 < (l1.length : Int)) = false := decide_eq_false c11
        clear c11
        replace H := ifI H
        rcases H with ⟨c24, H⟩ | ⟨c24, H⟩
        ·have c24b0 : decide ((wrap64 ((wrap64 (rd l0 (ji8))) - x6_1)) < 0) = true := decide_eq_true c24
         clear c24
         replace H := ifI H
         rcases H with ⟨c25, H⟩ | ⟨c25, H⟩
         ·have c25b0 : decide ((ji8) < (x5_1.length : Int)) = true := decide_eq_true c25
          clear c25
          obtain ⟨y234, hy234⟩ : ∃ y_ : List Int, y_ = (x5_1.set ((ji8) : Int).toNat ((wrap64 ((wrap64 ((wrap64 (rd l0 (ji8))) - x6_1)) + 10)) % 256)) := ⟨_, rfl⟩
          replace H : (frac_digits_minus.l0 k1 l0 l1 y234 1 (l0.length : Int) (wrap64 (x15_1 + 1))) = some r := by first | (rw [hy234]; with_reducible exact H) | (have H2_ := (Option.bind_some _ _).symm.trans H; rw [hy234]; with_reducible exact H2_) | (have H2_ := (Option.bind_some _ _).symm.trans H; with_reducible exact H2_) | with_reducible exact H | (rw [hy234]; exact H) | exact H
          have Ny234 := sd hy234
          clear hy234
          have H' := sd H
          clear H
          have p230 : 0 ≤ ((ji8) : Int) := od
          have q230 : (ji8) < (l0.length : Int) := od
          obtain ⟨ad230, e230, hx230_0⟩ := Kd.at_int HR0.out (ji8) p230 q230
          cases e230
          replace hx230_0 := (HB.out.cell (World.block_lt_of_cell? w _ hx230_0)).trans hx230_0
          replace p230 := eq_true p230
          replace q230 := eq_true q230
          have p26 : 0 ≤ ((ji8) : Int) := od
          have q26 : ((ji8) : Int) < ((x5_1.length : Int) : Int) := od
          obtain ⟨go26, co26, eo26, gb26, gl26, cl26, HG26⟩ := Kd.R_form HO_5.out (by omega)
          (first | cases eo26 | (injection eo26 with ea_ en_ ec_; (first | subst ea_ | (injection ea_ with ea_; subst ea_)); subst ec_; clear en_))
          have GB26 := sd gb26
          have GG26 := sd HG26
          clear gb26 gl26 HG26
          obtain ⟨hx26_0, hf26_0⟩ := Kd.R_celln 0 HO_5.out ((ji8) : Int) p26 q26
          replace p26 := eq_true p26
          replace q26 := eq_true q26
          have HP27 := Kd.R_putg HO_5.out ((ji8) : Int) ((wrap64 ((wrap64 ((wrap64 (rd l0 (ji8))) - x6_1)) + 10)) % 256)
          go_wp2_with (first | ((with_reducible refine gate_store (t := 5) (p := 53) rfl ?_); refine store_event (t := 5) (p := 53) (v := ?vo_w28) (w1 := (wr.setCell ⟨go26, ((ji8) : Int).toNat, none⟩ (.int .u8 ((wrap64 ((wrap64 ((wrap64 (rd l0 (ji8))) - x6_1)) + 10)) % 256)))) ?hg ?ho ?hn ?hr ?_; (case ho => rfl); (case hg => rfl); (case hn => rfl); (case hr => first | (go_simp; done) | (go_simp; rfl)); intro w28 hw; have hg : wr.grownBy w28 (some go26) := (by rw [hw]; exact HP27.2); have hp_ : Kd.R (Kd.int .u8) 5 w28 w.heap.size (fun k_ => (w.heap.size ≤ k_)) (.slice (some ⟨go26, 0, none⟩) x5_1.length co26) y234 := (by rw [hw, Ny234.out]; exact HP27.1); clear HP27; replace HO_5 := sd (hp_); replace HB := sd ((by rw [hw]; exact below_set (HB.out) GB26.out : Below w.heap.size w w28)); clear hg hw hp_))
          go_roundg k1
          case measure => have := HK1.out; omega
          case rel => exact ⟨(y234), (1), (wrap64 (x15_1 + 1)), zq1, zq1, H', ⟨by have := HK1.out; omega⟩, ⟨zq12⟩, ⟨zq34⟩⟩
         exact absurd H (by simp)
        have c24b0 : decide ((wrap64 ((wrap64 (rd l0 (ji8))) - x6_1)) < 0) = false := decide_eq_false c24
        clear c24
        replace H := ifI H
        rcases H with ⟨c29, H⟩ | ⟨c29, H⟩
        ·have c29b0 : decide ((ji8) < (x5_1.length : Int)) = true := decide_eq_true c29
         clear c29
         obtain ⟨y235, hy235⟩ : ∃ y_ : List Int, y_ = (x5_1.set ((ji8) : Int).toNat ((wrap64 ((wrap64 (rd l0 (ji8))) - x6_1)) % 256)) := ⟨_, rfl⟩
         replace H : (frac_digits_minus.l0 k1 l0 l1 y235 0 (l0.length : Int) (wrap64 (x15_1 + 1))) = some r := by first | (rw [hy235]; with_reducible exact H) | (have H2_ := (Option.bind_some _ _).symm.trans H; rw [hy235]; with_reducible exact H2_) | (have H2_ := (Option.bind_some _ _).symm.trans H; with_reducible exact H2_) | with_reducible exact H | (rw [hy235]; exact H) | exact H
         have Ny235 := sd hy235
         clear hy235
         have H' := sd H
         clear H
         have p230 : 0 ≤ ((ji8) : Int) := od
         have q230 : (ji8) < (l0.length : Int) := od
         obtain ⟨ad230, e230, hx230_0⟩ := Kd.at_int HR0.out (ji8) p230 q230
         cases e230
         replace hx230_0 := (HB.out.cell (World.block_lt_of_cell? w _ hx230_0)).trans hx230_0
         replace p230 := eq_true p230
         replace q230 := eq_true q230
         have p30 : 0 ≤ ((ji8) : Int) := od
         have q30 : ((ji8) : Int) < ((x5_1.length : Int) : Int) := od
         obtain ⟨go30, co30, eo30, gb30, gl30, cl30, HG30⟩ := Kd.R_form HO_5.out (by omega)
         (first | cases eo30 | (injection eo30 with ea_ en_ ec_; (first | subst ea_ | (injection ea_ with ea_; subst ea_)); subst ec_; clear en_))
         have GB30 := sd gb30
         have GG30 := sd HG30
         clear gb30 gl30 HG30
         obtain ⟨hx30_0, hf30_0⟩ := Kd.R_celln 0 HO_5.out ((ji8) : Int) p30 q30
         replace p30 := eq_true p30
         replace q30 := eq_true q30
         have HP31 := Kd.R_putg HO_5.out ((ji8) : Int) ((wrap64 ((wrap64 (rd l0 (ji8))) - x6_1)) % 256)
         go_wp2_with (first | ((with_reducible refine gate_store (t := 5) (p := 53) rfl ?_); refine store_event (t := 5) (p := 53) (v := ?vo_w32) (w1 := (wr.setCell ⟨go30, ((ji8) : Int).toNat, none⟩ (.int .u8 ((wrap64 ((wrap64 (rd l0 (ji8))) - x6_1)) % 256)))) ?hg ?ho ?hn ?hr ?_; (case ho => rfl); (case hg => rfl); (case hn => rfl); (case hr => first | (go_simp; done) | (go_simp; rfl)); intro w32 hw; have hg : wr.grownBy w32 (some go30) := (by rw [hw]; exact HP31.2); have hp_ : Kd.R (Kd.int .u8) 5 w32 w.heap.size (fun k_ => (w.heap.size ≤ k_)) (.slice (some ⟨go30, 0, none⟩) x5_1.length co30) y235 := (by rw [hw, Ny235.out]; exact HP31.1); clear HP31; replace HO_5 := sd (hp_); replace HB := sd ((by rw [hw]; exact below_set (HB.out) GB30.out : Below w.heap.size w w32)); clear hg hw hp_))
         go_roundg k1
         case measure => have := HK1.out; omega
         case rel => exact ⟨(y235), (0), (wrap64 (x15_1 + 1)), zq1, zq1, H', ⟨by have := HK1.out; omega⟩, ⟨zq12⟩, ⟨zq34⟩⟩
        exact absurd H (by simp)
       exact absurd H (by simp)
      exact absurd H (by simp)
     have c7b0 : decide (x15_1 < (l0.length : Int)) = false := decide_eq_false c7
     clear c7
     replace H := bdI H
     obtain ⟨t227, A33, H⟩ := H
     (try dsimp only at H)
     obtain rfl := Option.some.inj H
     obtain ⟨Ao34, co34, eo34⟩ := Kd.R_slice HO_5.out
     subst eo34
     go_wp2_with (first | ((with_reducible refine gate_callee (f := 85) rfl ?_); refine gL 56 Tryd.func85 #[.slice Ao34 x5_1.length co34] ?_; (with_reducible refine (frac_digits_trim.calls k1 (fun k_ => some k_ = (.slice Ao34 x5_1.length co34 : Value).ownBlock) _ _ x5_1 t227 _ ?side1 A33.out).mono ?_); (case side1 => exact Kd.R_V (Kd.R_tight rfl (HO_5.out))); rintro e w35 ⟨v228, rfl, ho0, hb⟩; refine ⟨_, rfl, ?_⟩; have HO229 := sd (Kd.V_lower (Kd.V_mono (ok' := fun k_ => (w.heap.size ≤ k_)) ho0 (fun k_ hk_ => Or.elim hk_ (fun hs_ => ((HO_5.out).1 k_ hs_.symm)) (fun hn_ => (Nat.le_trans (below_size zq34) hn_)))) (below_size zq34)); replace HO_5 := rbm HO_5 hb; replace HB := hbm HB hb; clear hb; (try clear ho0)))
     go_ret
     exact ⟨_, zq8, by (with_reducible repeat (first | apply Kd.V_alloc | apply Kd.V_drewN | apply Kd.V_drew)); exact HO229.out, zq34⟩
  exact absurd H (by simp)
 exact absurd H (by simp)
mutual
def frac_digits_div.l0 : Nat → List Int → Int → List Int → List Int → Int → Int → Option (Int × List Int × Bool)
 | 0, _, _, _, _, _, _ => none
 | k + 1, x1, x4, x5, x10, x11, x12 => if x12 < x11 then (if 0 ≤ x12 then (if x12 < (x10.length : Int) then (if 0 ≤ (wrap64 ((x5.length : Int) + 1)) then (if (wrap64 ((x5.length : Int) + 1) : Int).toNat ≤ 281474976710656 then ((some (List.replicate 0 0 : List Int)).bind fun y237 => (if y237.length + x5.length < 140737488355328 then ((some (y237 ++ x5 : List Int)).bind fun y240 => (if y240.length < 140737488355328 then ((frac_digits_trim.f k (y240 ++ [rd x10 x12])).bind fun t246 => (frac_digits_div.l1 k x1 (wrap64 (x4 * 10)) t246 x10 x11 x12)) else (none))) else (none))) else (none)) else (none)) else (none)) else (none)) else (some (x4, x5, true))
def frac_digits_div.l1 : Nat → List Int → Int → List Int → List Int → Int → Int → Option (Int × List Int × Bool)
 | 0, _, _, _, _, _, _ => none
 | k + 1, x1, x4, x5, x10, x11, x12 => (frac_digits_less.f x5 x1).bind fun t249 => (if t249 = true then (if x4 > 1000000 then (some (0, ([] : List Int), false)) else (frac_digits_div.l0 k x1 x4 x5 x10 x11 (wrap64 (x12 + 1)))) else ((frac_digits_minus.f k x5 x1).bind fun t250 => (frac_digits_div.l1 k x1 (wrap64 (x4 + 1)) t250 x10 x11 x12)))
end
def frac_digits_div.f (k : Nat) (l0 : List Int) (l1 : List Int) : Option (Int × List Int × Bool) := frac_digits_div.l0 k l1 0 ([] : List Int) l0 (l0.length : Int) 0
theorem frac_digits_div.mono_l : ∀ k, (∀ y0 y1 y2 y3 y4 y5, LeO (frac_digits_div.l0 k y0 y1 y2 y3 y4 y5) (frac_digits_div.l0 (k + 1) y0 y1 y2 y3 y4 y5)) ∧ (∀ y0 y1 y2 y3 y4 y5, LeO (frac_digits_div.l1 k y0 y1 y2 y3 y4 y5) (frac_digits_div.l1 (k + 1) y0 y1 y2 y3 y4 y5))
 | 0 => ⟨fun _ _ _ _ _ _ r h => by simp [frac_digits_div.l0] at h, fun _ _ _ _ _ _ r h => by simp [frac_digits_div.l1] at h⟩
 | k + 1 => by
  obtain ⟨ih0, ih1⟩ := frac_digits_div.mono_l k
  refine ⟨?_, ?_⟩
  ·intro y0 y1 y2 y3 y4 y5
   unfold frac_digits_div.l0
   repeat' (with_reducible first | exact ih0 _ _ _ _ _ _ | exact ih1 _ _ _ _ _ _ | exact frac_digits_minus.mono _ _ _ | exact frac_digits_trim.mono _ _ | exact LeO.refl _ | exact LeO.none _ | refine LeO.ite ?_ ?_ | refine LeO.bind ?_ (fun _ => ?_))
  ·intro y0 y1 y2 y3 y4 y5
   unfold frac_digits_div.l1
   repeat' (with_reducible first | exact ih0 _ _ _ _ _ _ | exact ih1 _ _ _ _ _ _ | exact frac_digits_minus.mono _ _ _ | exact frac_digits_trim.mono _ _ | exact LeO.refl _ | exact LeO.none _ | refine LeO.ite ?_ ?_ | refine LeO.bind ?_ (fun _ => ?_))
theorem frac_digits_div.mono : ∀ a0 a1 k, LeO (frac_digits_div.f k a0 a1) (frac_digits_div.f (k + 1) a0 a1) := by
 intro a0 a1 k
 obtain ⟨ih0, ih1⟩ := frac_digits_div.mono_l k
 unfold frac_digits_div.f
 repeat' (with_reducible first | exact ih0 _ _ _ _ _ _ | exact ih1 _ _ _ _ _ _ | exact frac_digits_minus.mono _ _ _ | exact frac_digits_trim.mono _ _ | exact LeO.refl _ | exact LeO.none _ | refine LeO.ite ?_ ?_ | refine LeO.bind ?_ (fun _ => ?_))
theorem frac_digits_div.calls (k : Nat) (A0 : Option Addr) (c0 : Nat) (l0 : List Int) (A1 : Option Addr) (c1 : Nat) (l1 : List Int) (r1 : Int) (r2 : List Int) (r3 : Bool) (w : World) (hr0 : Kd.C (Kd.int .u8) w A0 l0.length l0) (hc0 : l0.length ≤ c0) (hr1 : Kd.C (Kd.int .u8) w A1 l1.length l1) (hc1 : l1.length ≤ c1) (h : frac_digits_div.f k l0 l1 = some (r1, r2, r3)) :
  Calls Tryd.prog 98 #[.slice A0 l0.length c0, .slice A1 l1.length c1] w fun e w' => ∃ v1_ : Value, e = .returned (.tuple #[.int .i64 r1, v1_, .bool r3]) ∧ Kd.V (Kd.int .u8) 5 w' w.heap.size (fun k_ => (w.heap.size ≤ k_)) v1_ r2 ∧ Below w.heap.size w w' := by
 have HR0 := sd hr0
 have HC0 := sd hc0
 clear hr0 hc0
 have HR1 := sd hr1
 have HC1 := sd hc1
 clear hr1 hc1
 have HB := sd (Below.refl w.heap.size w)
 have H := h
 clear h
 unfold frac_digits_div.f at H
 have H' := sd H
 clear H
 go_enter Tryd.func98, Tryd.ntmps98
 go_wp2
 go_loopg [4, 5, 12] k (fun kq v4 v5 v12 w' => ∃ (x4_1 : Int) (x5_1 : List Int) (x12_1 : Int), v4 = .int .i64 x4_1 ∧ v12 = .int .i64 x12_1 ∧ Aside0 (frac_digits_div.l0 kq l1 x4_1 x5_1 l0 (l0.length : Int) x12_1 = some (r1, r2, r3)) ∧ Aside0 (kq ≤ k) ∧ Aside0 (Kd.V (Kd.int .u8) 5 w' w.heap.size (fun k_ => (w.heap.size ≤ k_)) v5 x5_1) ∧ Aside0 (Below w.heap.size w w'))
 case atStart => exact ⟨(0), (([] : List Int)), (0), zq1, zq1, H', ⟨Nat.le_refl _⟩, ⟨Kd.R_V (base := 0) zq43⟩, ⟨zq34⟩⟩
 case round =>
  clear H'
  try clear c1
  try clear p2
  obtain ⟨x4_1, x5_1, x12_1, rfl, rfl, HA, HK1, HO_5, HB⟩ := hrel
  cases gk with
  | zero => exact absurd HA.out (by simp [frac_digits_div.l0])
  | succ k1 =>
   have H := HA.out
   clear HA
   simp only [frac_digits_div.l0] at H
   replace H := ifI H
   rcases H with ⟨c3, H⟩ | ⟨c3, H⟩
   ·have c3b0 : decide (x12_1 < (l0.length : Int)) = true := decide_eq_true c3
    clear c3
    replace H := ifI H
    rcases H with ⟨c4, H⟩ | ⟨c4, H⟩
    ·have c4b0 : decide (0 ≤ x12_1) = true := decide_eq_true c4
     clear c4
     replace H := ifI H
     rcases H with ⟨c5, H⟩ | ⟨c5, H⟩
     ·have c5b0 : decide (x12_1 < (l0.length : Int)) = true := decide_eq_true c5
      clear c5
      obtain ⟨ji6, hji6⟩ : ∃ j_ : Int, (wrap64 ((x5_1.length : Int) + 1)) = j_ := ⟨_, rfl⟩
      replace H : (if 0 ≤ (ji6) then (if (ji6 : Int).toNat ≤ 281474976710656 then ((some (List.replicate 0 0 : List Int)).bind fun y237 => (if y237.length + x5_1.length < 140737488355328 then ((some (y237 ++ x5_1 : List Int)).bind fun y240 => (if y240.length < 140737488355328 then ((frac_digits_trim.f k1 (y240 ++ [rd l0 x12_1])).bind fun t246 => (frac_digits_div.l1 k1 l1 (wrap64 (x4_1 * 10)) t246 l0 (l0.length : Int) x12_1)) else (none))) else (none))) else (none)) else (none)) = some (r1, r2, r3) := by first | (rw [hji6] at H; exact H) | (simp only [hji6] at H ⊢; exact H)
      have hji6w : (IntKind.i64.wrap ((x5_1.length : Int) + 1)) = ji6 := (i64_w _).trans hji6
      replace H := ifI H
      rcases H with ⟨c7, H⟩ | ⟨c7, H⟩
      ·have c7b0 := eq_true c7
       have c7b1 : decide (0 ≤ (ji6)) = true := decide_eq_true c7
       clear c7
       replace H := ifI H
       rcases H with ⟨c8, H⟩ | ⟨c8, H⟩
       ·have c8b0 := eq_true c8
        have c8b1 : decide ((ji6 : Int).toNat ≤ 281474976710656) = true := decide_eq_true c8
        clear c8
        obtain ⟨y237, hy237⟩ : ∃ y_ : List Int, y_ = (List.replicate 0 0) := ⟨_, rfl⟩
        replace H : (if y237.length + x5_1.length < 140737488355328 then ((some (y237 ++ x5_1 : List Int)).bind fun y240 => (if y240.length < 140737488355328 then ((frac_digits_trim.f k1 (y240 ++ [rd l0 x12_1])).bind fun t246 => (frac_digits_div.l1 k1 l1 (wrap64 (x4_1 * 10)) t246 l0 (l0.length : Int) x12_1)) else (none))) else (none)) = some (r1, r2, r3) := by first | (rw [hy237]; with_reducible exact H) | (have H2_ := (Option.bind_some _ _).symm.trans H; rw [hy237]; with_reducible exact H2_) | (have H2_ := (Option.bind_some _ _).symm.trans H; with_reducible exact H2_) | with_reducible exact H | (rw [hy237]; exact H) | exact H
        have Ny237 := sd hy237
        clear hy237
        replace H := ifI H
        rcases H with ⟨c9, H⟩ | ⟨c9, H⟩
        ·have LMc9 := sd c9
         clear c9
         obtain ⟨y240, hy240⟩ : ∃ y_ : List Int, y_ = (y237 ++ x5_1) := ⟨_, rfl⟩
         replace H : (if y240.length < 140737488355328 then ((frac_digits_trim.f k1 (y240 ++ [rd l0 x12_1])).bind fun t246 => (frac_digits_div.l1 k1 l1 (wrap64 (x4_1 * 10)) t246 l0 (l0.length : Int) x12_1)) else (none)) = some (r1, r2, r3) := by first | (rw [hy240]; with_reducible exact H) | (have H2_ := (Option.bind_some _ _).symm.trans H; rw [hy240]; with_reducible exact H2_) | (have H2_ := (Option.bind_some _ _).symm.trans H; with_reducible exact H2_) | with_reducible exact H | (rw [hy240]; exact H) | exact H
         have Ny240 := sd hy240
         clear hy240
         replace H := ifI H
         rcases H with ⟨c10, H⟩ | ⟨c10, H⟩
         ·have LMc10 := sd c10
          clear c10
          obtain ⟨y243, hy243⟩ : ∃ y_ : List Int, y_ = (y240 ++ [rd l0 x12_1]) := ⟨_, rfl⟩
          replace H : ((frac_digits_trim.f k1 y243).bind fun t246 => (frac_digits_div.l1 k1 l1 (wrap64 (x4_1 * 10)) t246 l0 (l0.length : Int) x12_1)) = some (r1, r2, r3) := by first | (rw [hy243]; with_reducible exact H) | (have H2_ := (Option.bind_some _ _).symm.trans H; rw [hy243]; with_reducible exact H2_) | (have H2_ := (Option.bind_some _ _).symm.trans H; with_reducible exact H2_) | with_reducible exact H | (rw [hy243]; exact H) | exact H
          have Ny243 := sd hy243
          clear hy243
          replace H := bdI H
          obtain ⟨t246, A11, H⟩ := H
          (try dsimp only at H)
          have H' := sd H
          clear H
          have p236 : 0 ≤ (x12_1 : Int) := od
          have q236 : x12_1 < (l0.length : Int) := od
          obtain ⟨ad236, e236, hx236_0⟩ := Kd.at_int HR0.out x12_1 p236 q236
          cases e236
          replace hx236_0 := (HB.out.cell (World.block_lt_of_cell? w _ hx236_0)).trans hx236_0
          replace p236 := eq_true p236
          replace q236 := eq_true q236
          obtain ⟨Ao12, co12, eo12⟩ := Kd.V_slice HO_5.out
          subst eo12
          go_wp2_with (first | ((with_reducible refine gate_dst (N := 19) rfl ?_); refine Kd.R_make0 (Kd.int .u8) _ 5 rfl (N := 19) rfl 123 _ _ rfl ji6 rfl rfl Tryd.underlying123 (.int .u8 0) 1 info5 rfl (by decide) (by omega) 0 (ok := fun _ => True) (okp := fun _ => True) rfl (fun _ hk => hk) trivial (od) (Nat.le_trans (Nat.mul_le_mul_right _ (od : ji6.toNat ≤ 281474976710656)) (by omega)) (Below.refl _ _) (Nat.le_refl _) ?_; intro v238 w13 ho14 hb hg_ hnew_; clear hg_ hnew_; (first | rw [← Ny237.out] at ho14 | (simp only [Int.reduceToNat] at ho14; rw [← Ny237.out] at ho14)); have HO239 := sd (Kd.R_lower (Kd.R_newM (M := fun k_ => (w.heap.size ≤ k_)) ho14 (below_size zq34) (fun k_ h_ => h_)) (below_size zq34)); replace HO_5 := sd (Kd.V_elder' zq139 (Kd.R_base ho14) hb); replace HB := hbm HB hb; clear hb ho14) | ((with_reducible refine gate_builtin (b := .append) (xs := #[.tmp 20, .tmp 21]) rfl ?_); at_builtin; refine Kd.R_append_rows (Kd.int .u8) (w0 := w) w.heap.size rfl (.tmp 20) (.tmp 21) 123 5 (.int .u8 0) 1 rfl Tryd.underlying123 info5 rfl (by decide) (by omega) v238 y237 x5_1 _ _ _ (fun k_ => (w.heap.size ≤ k_)) (fun _ => False) rfl rfl ?aO ?aR (fun _ _ h => h) (fun _ h => h.elim) ?aF ?aB ?aS ?aL ?_; (case aR => repeat (first | exact (Kd.V_reads' HO_5.out).2.2 | (with_reducible refine Kd.C_alloc ?_ _) | (with_reducible refine Kd.C_drewN ?_ _) | (with_reducible refine Kd.C_drew ?_))); (case aB => exact zq34); (case aF => exact (fun k_ hk => (Nat.le_trans (below_size zq34) hk))); (case aO => exact (by (with_reducible repeat (first | apply Kd.R_alloc | apply Kd.R_drewN | apply Kd.R_drew)); exact Kd.R_mono HO239.out (fun _ hk => hk.1))); (case aS => exact (below_size zq34)); (case aL => have := LMc9.out; omega); intro v241 w15 ho hb hg hat; rw [← Ny240.out] at ho; have HO242 := sd (ho); replace HO_5 := sd (Kd.V_afterv (ok := (fun k_ => (w.heap.size ≤ k_))) zq139 hg hat); replace HB := sd (hb); clear HO239; clear ho hb hg hat) | ((with_reducible refine gate_builtin (b := .append) (xs := #[.tmp 22, .tmp 24]) rfl ?_); at_builtin; refine Kd.R_append (Kd.int .u8) (w0 := w) w.heap.size rfl (.tmp 22) (.tmp 24) 123 5 (.int .u8 0) 1 rfl Tryd.underlying123 info5 rfl (by decide) (by omega) v241 y240 (rd l0 x12_1) [.int .u8 (rd l0 x12_1)] (fun k_ => (w.heap.size ≤ k_)) (fun _ => False) rfl rfl ?aP (fun _ hk => hk.elim) ?aF ?aO ?aB ?aS ?aL ?_; (case aP => exact rfl); (case aB => exact zq34); (case aF => exact (fun k_ hk => (Nat.le_trans (below_size zq34) hk))); (case aO => exact (by (with_reducible repeat (first | apply Kd.R_alloc | apply Kd.R_drewN | apply Kd.R_drew)); exact HO242.out)); (case aS => exact (below_size zq34)); (case aL => have := LMc10.out; omega); intro v244 w16 ho hb hg hat; rw [← Ny243.out] at ho; have HO245 := sd (ho); replace HO_5 := sd (Kd.V_afterv (ok := (fun k_ => (w.heap.size ≤ k_))) zq139 hg hat); replace HB := sd (hb); clear HO242; clear ho hb hg hat; obtain ⟨Ao17, co17, eo17⟩ := Kd.R_slice HO245.out; subst eo17) | ((with_reducible refine gate_callee (f := 85) rfl ?_); refine gL 26 Tryd.func85 #[.slice Ao17 y243.length co17] ?_; (with_reducible refine (frac_digits_trim.calls k1 (fun k_ => some k_ = (.slice Ao17 y243.length co17 : Value).ownBlock) _ _ y243 t246 _ ?side1 A11.out).mono ?_); (case side1 => exact (by exact Kd.R_V (Kd.R_tight rfl (HO245.out)))); rintro e w18 ⟨v247, rfl, ho0, hb⟩; refine ⟨_, rfl, ?_⟩; have HO248 := sd (Kd.V_lower (Kd.V_mono (ok' := fun k_ => (w.heap.size ≤ k_)) ho0 (fun k_ hk_ => Or.elim hk_ (fun hs_ => ((HO245.out).1 k_ hs_.symm)) (fun hn_ => (Nat.le_trans (below_size zq34) hn_)))) (below_size zq34)); replace HO_5 := sd (Kd.V_below zq139 hb); replace HO245 := rbm HO245 hb; replace HB := hbm HB hb; clear hb; (try clear ho0)))
          go_loopg [4, 5] k1 (fun kq v4 v5 w' => ∃ (x4_2 : Int) (x5_2 : List Int), v4 = .int .i64 x4_2 ∧ Aside0 (frac_digits_div.l1 kq l1 x4_2 x5_2 l0 (l0.length : Int) x12_1 = some (r1, r2, r3)) ∧ Aside0 (kq ≤ k1) ∧ Aside0 (Kd.V (Kd.int .u8) 5 w' w.heap.size (fun k_ => (w.heap.size ≤ k_)) v5 x5_2) ∧ Aside0 (Below w.heap.size w w'))
          case atStart => exact ⟨(wrap64 (x4_1 * 10)), (t246), zq1, H', ⟨Nat.le_refl _⟩, ⟨by (with_reducible repeat (first | apply Kd.V_alloc | apply Kd.V_drewN | apply Kd.V_drew)); exact HO248.out⟩, ⟨zq34⟩⟩
          case round =>
           clear H'
           try clear c1
           try clear p2
           try clear q2
           try clear hx2
           try clear c3
           try clear c3b0
           try clear c4
           try clear c4b0
           try clear c5
           try clear c5b0
           try clear p6
           try clear c7
           try clear c7b0
           try clear c7b1
           try clear c8
           try clear c8b0
           try clear c8b1
           try clear c9
           try clear c10
           try clear hx236_0
           try clear p2
           try clear p236
           try clear q236
           obtain ⟨x4_2, x5_2, rfl, HA, HK2, HO_5, HB⟩ := hrel
           cases gk with
           | zero => exact absurd HA.out (by simp [frac_digits_div.l1])
           | succ k2 =>
            have H := HA.out
            clear HA
            simp only [frac_digits_div.l1] at H
            replace H := bdI H
            obtain ⟨t249, A19, H⟩ := H
            (try dsimp only at H)
            by_cases c20 : t249 = true
            ·subst c20
             rw [if_pos rfl] at H
             replace H := ifI H
             rcases H with ⟨c21, H⟩ | ⟨c21, H⟩
             ·have c21b0 : decide (1000000 < x4_2) = true := decide_eq_true c21
              clear c21
              simp only [Option.some.injEq, Prod.mk.injEq] at H
              obtain ⟨rfl, rfl, rfl⟩ := H
              obtain ⟨Ao22, co22, eo22⟩ := Kd.V_slice HO_5.out
              subst eo22
              go_wp2_with (first | ((with_reducible refine gate_callee (f := 100) rfl ?_); refine gL 31 Tryd.func100 #[.slice Ao22 x5_2.length co22, .slice A1 l1.length c1] ?_; (with_reducible refine (frac_digits_less.calls _ _ x5_2 _ _ l1 true _ ?side1 ?side2 ?side3 ?side4 A19.out).mono ?_); (case side1 => exact zq140); (case side2 => exact (Kd.V_reads' HO_5.out).2.1); (case side3 => exact zq141); (case side4 => exact HC1.out); rintro e w' ⟨rfl, ⟨nd, rfl⟩⟩; refine ⟨_, rfl, ?_⟩))
              go_ret3
              exact ⟨_, by first | rfl | (simp [errW_none, errW_some] <;> rfl) | (simp only [← hji6]; first | rfl | (simp [errW_none, errW_some] <;> rfl)) | (simp [*, errW_none, errW_some] <;> rfl), Kd.R_V (base := 0) zq43, zq34⟩
             have c21b0 : decide (1000000 < x4_2) = false := decide_eq_false c21
             clear c21
             have H' := sd H
             clear H
             obtain ⟨Ao23, co23, eo23⟩ := Kd.V_slice HO_5.out
             subst eo23
             go_wp2_with (first | ((with_reducible refine gate_callee (f := 100) rfl ?_); refine gL 31 Tryd.func100 #[.slice Ao23 x5_2.length co23, .slice A1 l1.length c1] ?_; (with_reducible refine (frac_digits_less.calls _ _ x5_2 _ _ l1 true _ ?side1 ?side2 ?side3 ?side4 A19.out).mono ?_); (case side1 => exact zq140); (case side2 => exact (Kd.V_reads' HO_5.out).2.1); (case side3 => exact zq141); (case side4 => exact HC1.out); rintro e w' ⟨rfl, ⟨nd, rfl⟩⟩; refine ⟨_, rfl, ?_⟩))
             go_roundg k2
             case measure => have := HK1.out; have := HK2.out; omega
             case rel => exact ⟨(x4_2), (x5_2), (wrap64 (x12_1 + 1)), zq1, zq1, H', ⟨zq62⟩, ⟨zq139⟩, ⟨zq34⟩⟩
            replace c20 := Bool.eq_false_iff.mpr c20
            subst c20
            rw [if_neg Bool.false_ne_true] at H
            replace H := bdI H
            obtain ⟨t250, A24, H⟩ := H
            (try dsimp only at H)
            have H' := sd H
            clear H
            obtain ⟨Ao25, co25, eo25⟩ := Kd.V_slice HO_5.out
            subst eo25
            go_wp2_with (first | ((with_reducible refine gate_callee (f := 100) rfl ?_); refine gL 31 Tryd.func100 #[.slice Ao25 x5_2.length co25, .slice A1 l1.length c1] ?_; (with_reducible refine (frac_digits_less.calls _ _ x5_2 _ _ l1 false _ ?side1 ?side2 ?side3 ?side4 A19.out).mono ?_); (case side1 => exact zq140); (case side2 => exact (Kd.V_reads' HO_5.out).2.1); (case side3 => exact zq141); (case side4 => exact HC1.out); rintro e w' ⟨rfl, ⟨nd, rfl⟩⟩; refine ⟨_, rfl, ?_⟩) | ((with_reducible refine gate_callee (f := 101) rfl ?_); refine gL 35 Tryd.func101 #[.slice Ao25 x5_2.length co25, .slice A1 l1.length c1] ?_; (with_reducible refine (frac_digits_minus.calls k2 _ _ x5_2 _ _ l1 t250 _ ?side1 ?side2 ?side3 ?side4 A24.out).mono ?_); (case side1 => exact zq140); (case side2 => exact (Kd.V_reads' HO_5.out).2.1); (case side3 => exact (by repeat (first | exact (Kd.C_below HR1.out zq34) | (with_reducible refine Kd.C_alloc ?_ _) | (with_reducible refine Kd.C_drewN ?_ _) | (with_reducible refine Kd.C_drew ?_)))); (case side4 => exact HC1.out); rintro e w26 ⟨v251, rfl, ho0, hb⟩; refine ⟨_, rfl, ?_⟩; have HO252 := sd (Kd.V_lower (Kd.V_mono (ok' := fun k_ => (w.heap.size ≤ k_)) ho0 (fun k_ hk_ => (Nat.le_trans (below_size zq34) hk_))) (below_size zq34)); replace HO_5 := sd (Kd.V_below zq139 hb); replace HB := hbm HB hb; clear hb; (try clear ho0)))
            go_roundg k2
            case measure => have := HK1.out; have := HK2.out; omega
            case rel => exact ⟨(wrap64 (x4_2 + 1)), (t250), zq1, H', ⟨zq62⟩, ⟨by (with_reducible repeat (first | apply Kd.V_alloc | apply Kd.V_drewN | apply Kd.V_drew)); exact HO252.out⟩, ⟨zq34⟩⟩
         exact absurd H (by simp)
        exact absurd H (by simp)
       exact absurd H (by simp)
      exact absurd H (by simp)
     exact absurd H (by simp)
    exact absurd H (by simp)
   have c3b0 : decide (x12_1 < (l0.length : Int)) = false := decide_eq_false c3
   clear c3
   simp only [Option.some.injEq, Prod.mk.injEq] at H
   obtain ⟨rfl, rfl, rfl⟩ := H
   go_wp2
   go_ret3
   exact ⟨_, zq8, zq139, zq34⟩
def frac_reduce.l0 : Nat → List Int → List Int → Int → Int → Int → Int → Option (Int × Int × Bool)
 | 0, _, _, _, _, _, _ => none
 | k + 1, a, b, b0, b1, l0, l1 => (frac_digits_div.f k a b).bind fun t => if t.2.2 = true then
   (if 1000000 < wrap64 (wrap64 (t.1 * l0) + b0) then some (0, 0, false) else if 1000000 < wrap64 (wrap64 (t.1 * l1) + b1) then some (0, 0, false) else
    if (t.2.1.length : Int) = 0 then some (wrap64 (wrap64 (t.1 * l0) + b0), wrap64 (wrap64 (t.1 * l1) + b1), true) else
     frac_reduce.l0 k b t.2.1 l0 l1 (wrap64 (wrap64 (t.1 * l0) + b0)) (wrap64 (wrap64 (t.1 * l1) + b1)))
   else some (0, 0, false)
def frac_reduce.f (k : Nat) (a b : List Int) : Option (Int × Int × Bool) := frac_reduce.l0 k a b 0 1 1 0
theorem frac_reduce.mono_l : ∀ k, (∀ a b b0 b1 l0 l1, LeO (frac_reduce.l0 k a b b0 b1 l0 l1) (frac_reduce.l0 (k + 1) a b b0 b1 l0 l1))
 | 0 => fun _ _ _ _ _ _ r h => by simp [frac_reduce.l0] at h
 | k + 1 => by
  have ih := frac_reduce.mono_l k
  intro a b b0 b1 l0 l1
  unfold frac_reduce.l0
  refine LeO.bind (frac_digits_div.mono _ _ _) (fun t => ?_)
  refine LeO.ite (LeO.ite (LeO.refl _) (LeO.ite (LeO.refl _) (LeO.ite (LeO.refl _) (ih _ _ _ _ _ _)))) (LeO.refl _)
theorem frac_reduce.mono : ∀ a0 a1 k, LeO (frac_reduce.f k a0 a1) (frac_reduce.f (k + 1) a0 a1) := fun a0 a1 k => by
 unfold frac_reduce.f; exact frac_reduce.mono_l k _ _ _ _ _ _
theorem frac_reduce.calls (k : Nat) (A0 : Option Addr) (c0 : Nat) (l0 : List Int) (A1 : Option Addr) (c1 : Nat) (l1 : List Int) (r1 r2 : Int) (r3 : Bool) (w : World) (hr0 : Kd.C (Kd.int .u8) w A0 l0.length l0) (hc0 : l0.length ≤ c0) (hr1 : Kd.C (Kd.int .u8) w A1 l1.length l1) (hc1 : l1.length ≤ c1) (h : frac_reduce.f k l0 l1 = some (r1, r2, r3)) :
  Calls Tryd.prog 86 #[.slice A0 l0.length c0, .slice A1 l1.length c1] w fun e w' => e = .returned (.tuple #[.int .i64 r1, .int .i64 r2, .bool r3]) ∧ Below w.heap.size w w' := by
 unfold frac_reduce.f at h
 have HV0 := sd (show Kd.V (Kd.int .u8) 5 w 0 (fun k_ => k_ < w.heap.size) (.slice A0 l0.length c0) l0 from ⟨A0, c0, rfl, hc0, Kd.C_F (Kd.heap_int _) hr0⟩)
 have HV1 := sd (show Kd.V (Kd.int .u8) 5 w 0 (fun k_ => k_ < w.heap.size) (.slice A1 l1.length c1) l1 from ⟨A1, c1, rfl, hc1, Kd.C_F (Kd.heap_int _) hr1⟩)
 have H := sd h
 clear h hr0 hr1 hc0 hc1
 go_enter Tryd.func86, Tryd.ntmps86
 go_wp2_with fail
 go_loopg [0, 1] k (fun kq v0 v1 wr => ∃ (la lb : List Int) (b0 b1 m0 m1 : Int), Aside0 (frac_reduce.l0 kq la lb b0 b1 m0 m1 = some (r1, r2, r3)) ∧ Aside0 (Kd.V (Kd.int .u8) 5 wr 0 (fun k_ => k_ ≠ w.heap.size ∧ k_ ≠ w.heap.size + 1) v0 la) ∧ Aside0 (Kd.V (Kd.int .u8) 5 wr 0 (fun k_ => k_ ≠ w.heap.size ∧ k_ ≠ w.heap.size + 1) v1 lb) ∧ Aside0 (Below w.heap.size w wr) ∧ Aside0 (w.heap.size + 1 < wr.heap.size) ∧
  Aside0 (wr.cell? ⟨w.heap.size, 0, none⟩ = some (.int .i64 b0) ∧ wr.cell? ⟨w.heap.size, 1, none⟩ = some (.int .i64 b1) ∧ wr.cell? ⟨w.heap.size + 1, 0, none⟩ = some (.int .i64 m0) ∧ wr.cell? ⟨w.heap.size + 1, 1, none⟩ = some (.int .i64 m1)) ∧
  Aside0 (wr.frozen? ⟨w.heap.size, 0, none⟩ = false ∧ wr.frozen? ⟨w.heap.size, 1, none⟩ = false ∧ wr.frozen? ⟨w.heap.size + 1, 0, none⟩ = false ∧ wr.frozen? ⟨w.heap.size + 1, 1, none⟩ = false))
 case atStart =>
  refine ⟨l0, l1, 0, 1, 1, 0, H, ⟨Kd.V_mono (Kd.V_below HV0.out (below_alloc (below_alloc (Below.refl _ _) _) _)) (fun k_ hk => ?_)⟩, ⟨Kd.V_mono (Kd.V_below HV1.out (below_alloc (below_alloc (Below.refl _ _) _) _)) (fun k_ hk => ?_)⟩, ⟨below_alloc (below_alloc (Below.refl _ _) _) _⟩, ⟨by simp⟩, ⟨by go_simp, by go_simp, by go_simp, by go_simp⟩, ⟨by go_simp, by go_simp, by go_simp, by go_simp⟩⟩
  ·have : k_ < w.heap.size := hk
   omega
  ·have : k_ < w.heap.size := hk
   omega
 case round =>
  obtain ⟨la, lb, b0, b1, m0, m1, HA, HVa, HVb, HB, HZ, HK, HF⟩ := hrel
  obtain ⟨Aa, ca, ea⟩ := Kd.V_slice HVa.out
  subst ea
  obtain ⟨Ab, cb, eb⟩ := Kd.V_slice HVb.out
  subst eb
  cases gk with
  | zero => exact absurd HA.out (by simp [frac_reduce.l0])
  | succ k1 =>
   have H := HA.out
   clear HA
   rw [frac_reduce.l0] at H
   obtain ⟨⟨q, lr, ok⟩, hdiv, H⟩ := Option.bind_eq_some_iff.mp H
   dsimp only at H
   have HDiv := sd hdiv
   have HDV := sd (frac_digits_div.calls k1 Aa ca la Ab cb lb q lr ok wr (Kd.V_reads' HVa.out).2.2 (Kd.V_reads' HVa.out).2.1 (Kd.V_reads' HVb.out).2.2 (Kd.V_reads' HVb.out).2.1 hdiv)
   have H' := sd H
   clear H hdiv
   go_wp2_with fail
   refine HDV.out.mono ?_
   rintro e w1 ⟨v1, rfl, hV, hb⟩
   obtain ⟨hc1, hf1⟩ := bcell hb
   obtain ⟨k0, k1_, k2, k3⟩ := HK.out
   obtain ⟨f0, f1, f2, f3⟩ := HF.out
   have hz := HZ.out
   have hz1 : w.heap.size + 1 < w1.heap.size := by have := hb.size; omega
   replace k0 := (hc1 _ _ (by omega)).trans k0
   replace k1_ := (hc1 _ _ (by omega)).trans k1_
   replace k2 := (hc1 _ _ (by omega)).trans k2
   replace k3 := (hc1 _ _ (by omega)).trans k3
   replace f0 := (hf1 _ _ (by omega)).trans f0
   replace f1 := (hf1 _ _ (by omega)).trans f1
   replace f2 := (hf1 _ _ (by omega)).trans f2
   replace f3 := (hf1 _ _ (by omega)).trans f3
   have HV1 := sd (show Kd.V (Kd.int .u8) 5 w1 0 (fun k_ => k_ ≠ w.heap.size ∧ k_ ≠ w.heap.size + 1) v1 lr from Kd.V_lower (base := wr.heap.size) (Kd.V_mono hV (fun k_ hk => by have : wr.heap.size ≤ k_ := hk; omega)) (Nat.zero_le _))
   have HVb1 := sd (Kd.V_below HVb.out hb)
   have HB1 := sd (HB.out.trans (hb.mono (by omega)))
   clear hV hb hc1 hf1 HVa HVb HB HK HF HDV HDiv
   obtain ⟨A2, c2, e2⟩ := Kd.V_slice HV1.out
   subst e2
   cases ok
   ·have H2 : some ((0 : Int), (0 : Int), false) = some (r1, r2, r3) := H'.out
    simp only [Option.some.injEq, Prod.mk.injEq] at H2
    obtain ⟨rfl, rfl, rfl⟩ := H2
    clear H'
    go_wp2_with fail
    go_ret3
    exact ⟨rfl, zq142⟩
   ·by_cases g1 : 1000000 < wrap64 (wrap64 (q * m0) + b0)
    ·have H2 := H'.out
     rw [if_pos rfl, if_pos g1] at H2
     simp only [Option.some.injEq, Prod.mk.injEq] at H2
     obtain ⟨rfl, rfl, rfl⟩ := H2
     clear H'
     go_wp2_with fail
     go_ret3
     exact ⟨rfl, zq142⟩
    by_cases g2 : 1000000 < wrap64 (wrap64 (q * m1) + b1)
    ·have H2 := H'.out
     rw [if_pos rfl, if_neg g1, if_pos g2] at H2
     simp only [Option.some.injEq, Prod.mk.injEq] at H2
     obtain ⟨rfl, rfl, rfl⟩ := H2
     clear H'
     go_wp2_with fail
     go_ret3
     exact ⟨rfl, zq142⟩
    by_cases g3 : (lr.length : Int) = 0
    ·have H2 := H'.out
     rw [if_pos rfl, if_neg g1, if_neg g2, if_pos g3] at H2
     simp only [Option.some.injEq, Prod.mk.injEq] at H2
     obtain ⟨rfl, rfl, rfl⟩ := H2
     have g3b : ((lr.length : Int) == 0) = true := beq_iff_eq.mpr g3
     clear H' g3
     go_wp2_with fail
     go_quiet (fail)
     go_wp2_with fail
     go_ret3
     exact ⟨rfl, zq142⟩
    have H2 := H'.out
    rw [if_pos rfl, if_neg g1, if_neg g2, if_neg g3] at H2
    have g3b : ((lr.length : Int) == 0) = false := beq_eq_false_iff_ne.mpr g3
    have HA := sd H2
    clear H' g3 H2
    go_wp2_with fail
    have q0 := fun O : Obj => (World.cell?_alloc_lt w1 O ⟨w.heap.size, 0, none⟩ (show w.heap.size < w1.heap.size by omega)).trans k0
    have q1 := fun O : Obj => (World.cell?_alloc_lt w1 O ⟨w.heap.size, 1, none⟩ (show w.heap.size < w1.heap.size by omega)).trans k1_
    have q2 := fun O : Obj => (World.cell?_alloc_lt w1 O ⟨w.heap.size + 1, 0, none⟩ (show w.heap.size + 1 < w1.heap.size by omega)).trans k2
    have q3 := fun O : Obj => (World.cell?_alloc_lt w1 O ⟨w.heap.size + 1, 1, none⟩ (show w.heap.size + 1 < w1.heap.size by omega)).trans k3
    have p0 := fun O : Obj => (World.frozen?_alloc_old w1 O ⟨w.heap.size, 0, none⟩ (show w.heap.size ≠ w1.heap.size by omega)).trans f0
    have p1 := fun O : Obj => (World.frozen?_alloc_old w1 O ⟨w.heap.size, 1, none⟩ (show w.heap.size ≠ w1.heap.size by omega)).trans f1
    have p2 := fun O : Obj => (World.frozen?_alloc_old w1 O ⟨w.heap.size + 1, 0, none⟩ (show w.heap.size + 1 ≠ w1.heap.size by omega)).trans f2
    have p3 := fun O : Obj => (World.frozen?_alloc_old w1 O ⟨w.heap.size + 1, 1, none⟩ (show w.heap.size + 1 ≠ w1.heap.size by omega)).trans f3
    go_region
    go_wp2_with fail
    go_roundg k1
    case measure => omega
    case rel =>
     refine ⟨lb, lr, m0, m1, _, _, HA, ⟨?_⟩, ⟨?_⟩, ⟨?_⟩, ⟨?_⟩, ⟨(four_cells _ _ _ _ _ _ _ _ _ _ (q0 _) (q1 _) (q2 _) (q3 _))⟩, ⟨(four_marks _ _ _ _ _ _ (p0 _) (p1 _) (p2 _) (p3 _))⟩⟩
     ·exact Kd.V_drew (Kd.V_far (p := ⟨w.heap.size + 1, 1, none⟩) (Kd.V_far (p := ⟨w.heap.size + 1, 0, none⟩) (Kd.V_far (p := ⟨w.heap.size, 1, none⟩) (Kd.V_far (p := ⟨w.heap.size, 0, none⟩) (Kd.V_alloc HVb1.out _) (fun k_ hk => far2 hk (.inl rfl)) _) (fun k_ hk => far2 hk (.inl rfl)) _) (fun k_ hk => far2 hk (.inr rfl)) _) (fun k_ hk => far2 hk (.inr rfl)) _)
     ·exact Kd.V_drew (Kd.V_far (p := ⟨w.heap.size + 1, 1, none⟩) (Kd.V_far (p := ⟨w.heap.size + 1, 0, none⟩) (Kd.V_far (p := ⟨w.heap.size, 1, none⟩) (Kd.V_far (p := ⟨w.heap.size, 0, none⟩) (Kd.V_alloc HV1.out _) (fun k_ hk => far2 hk (.inl rfl)) _) (fun k_ hk => far2 hk (.inl rfl)) _) (fun k_ hk => far2 hk (.inr rfl)) _) (fun k_ hk => far2 hk (.inr rfl)) _)
     ·exact below_drew ((((Below.setCell (below_alloc HB1.out _) (p := ⟨w.heap.size, 0, none⟩) (Nat.le_refl _) _).setCell (p := ⟨w.heap.size, 1, none⟩) (Nat.le_refl _) _).setCell (p := ⟨w.heap.size + 1, 0, none⟩) (Nat.le_succ _) _).setCell (p := ⟨w.heap.size + 1, 1, none⟩) (Nat.le_succ _) _)
     ·simp; omega
mutual
def frac_Parse.j0 : Nat → ByteArray → Bool → Int → Int → Option (Int × Int × Int)
 | 0, _, _, _, _ => none
 | k + 1, x0, x4, x254000, x254001 => if x4 = true then (if 1 ≤ (x0.size : Int) then (frac_Parse.j1 k (x0.extract 1 x0.size) x4 x254000 x254001) else (none)) else (frac_Parse.j1 k x0 x4 x254000 x254001)
def frac_Parse.j1 : Nat → ByteArray → Bool → Int → Int → Option (Int × Int × Int)
 | 0, _, _, _, _ => none
 | k + 1, x0, x4, x254000, x254001 => (frac_split.f k x0).bind fun bt254 => (if bt254.2.2 = true then (if x4 = true then ((frac_digits_trim.f k bt254.1).bind fun t261 => (frac_Parse.j2 k x4 bt254.1 bt254.2.1 ((t261.length : Int) == 0) x254000 x254001)) else (frac_Parse.j2 k x4 bt254.1 bt254.2.1 false x254000 x254001)) else (frac_Parse.j2 k x4 bt254.1 bt254.2.1 true x254000 x254001))
def frac_Parse.j2 : Nat → Bool → List Int → List Int → Bool → Int → Int → Option (Int × Int × Int)
 | 0, _, _, _, _, _, _ => none
 | k + 1, x4, x5, x6, x36, x254000, x254001 => if x36 = true then (some (x254000, x254001, 5)) else ((frac_digits_trim.f k x5).bind fun t264 => ((frac_digits_trim.f k x6).bind fun t267 => ((frac_reduce.f k t264 t267).bind fun bt270 => (if bt270.2.2 = true then (if x4 = true then (some (wrap64 (-bt270.1), bt270.2.1, 0)) else (some (bt270.1, bt270.2.1, 0))) else (some (x254000, x254001, 4))))))
end
def frac_Parse.f (k : Nat) (a0 : ByteArray) : Option (Int × Int × Int) := if a0.toList = ([] : List UInt8) then (frac_Parse.j0 k a0 false 0 0) else (if 0 < (a0.size : Int) then (frac_Parse.j0 k a0 ((bt a0 0) == 45) 0 0) else (none))
theorem frac_Parse.mono_l : ∀ k, (∀ y0 y1 y2 y3, LeO (frac_Parse.j0 k y0 y1 y2 y3) (frac_Parse.j0 (k + 1) y0 y1 y2 y3)) ∧ (∀ y0 y1 y2 y3, LeO (frac_Parse.j1 k y0 y1 y2 y3) (frac_Parse.j1 (k + 1) y0 y1 y2 y3)) ∧ (∀ y0 y1 y2 y3 y4 y5, LeO (frac_Parse.j2 k y0 y1 y2 y3 y4 y5) (frac_Parse.j2 (k + 1) y0 y1 y2 y3 y4 y5))
 | 0 => ⟨fun _ _ _ _ r h => by simp [frac_Parse.j0] at h, fun _ _ _ _ r h => by simp [frac_Parse.j1] at h, fun _ _ _ _ _ _ r h => by simp [frac_Parse.j2] at h⟩
 | k + 1 => by
  obtain ⟨ih0, ih1, ih2⟩ := frac_Parse.mono_l k
  refine ⟨?_, ?_, ?_⟩
  ·intro y0 y1 y2 y3
   unfold frac_Parse.j0
   repeat' (with_reducible first | exact ih0 _ _ _ _ | exact ih1 _ _ _ _ | exact ih2 _ _ _ _ _ _ | exact frac_digits_trim.mono _ _ | exact frac_reduce.mono _ _ _ | exact frac_split.mono _ _ | exact LeO.refl _ | exact LeO.none _ | refine LeO.ite ?_ ?_ | refine LeO.bind ?_ (fun _ => ?_))
  ·intro y0 y1 y2 y3
   unfold frac_Parse.j1
   repeat' (with_reducible first | exact ih0 _ _ _ _ | exact ih1 _ _ _ _ | exact ih2 _ _ _ _ _ _ | exact frac_digits_trim.mono _ _ | exact frac_reduce.mono _ _ _ | exact frac_split.mono _ _ | exact LeO.refl _ | exact LeO.none _ | refine LeO.ite ?_ ?_ | refine LeO.bind ?_ (fun _ => ?_))
  ·intro y0 y1 y2 y3 y4 y5
   unfold frac_Parse.j2
   repeat' (with_reducible first | exact ih0 _ _ _ _ | exact ih1 _ _ _ _ | exact ih2 _ _ _ _ _ _ | exact frac_digits_trim.mono _ _ | exact frac_reduce.mono _ _ _ | exact frac_split.mono _ _ | exact LeO.refl _ | exact LeO.none _ | refine LeO.ite ?_ ?_ | refine LeO.bind ?_ (fun _ => ?_))
theorem frac_Parse.mono : ∀ a0 k, LeO (frac_Parse.f k a0) (frac_Parse.f (k + 1) a0) := by
 intro a0 k
 obtain ⟨ih0, ih1, ih2⟩ := frac_Parse.mono_l k
 unfold frac_Parse.f
 repeat' (with_reducible first | exact ih0 _ _ _ _ | exact ih1 _ _ _ _ | exact ih2 _ _ _ _ _ _ | exact frac_digits_trim.mono _ _ | exact frac_reduce.mono _ _ _ | exact frac_split.mono _ _ | exact LeO.refl _ | exact LeO.none _ | refine LeO.ite ?_ ?_ | refine LeO.bind ?_ (fun _ => ?_))
theorem frac_Parse.calls (k : Nat) (a0 : ByteArray) (r1 r2 r3 : Int) (w : World) (h : frac_Parse.f k a0 = some (r1, r2, r3)) :
  Calls Tryd.prog 53 #[.string a0] w fun e w' => e = .returned (.tuple #[.agg #[.int .i64 r1, .int .i64 r2], .int .i64 r3]) ∧ Below w.heap.size w w' := by
 have hu38 := Tryd.underlying38
 have HB := sd (Below.refl w.heap.size w)
 have H := h
 clear h
 unfold frac_Parse.f at H
 have HC2 := sd H
 clear H
 go_enter Tryd.func53, Tryd.ntmps53
 go_upto_region 1 with (first | ((with_reducible refine gate_dst (N := 2) rfl ?_); (try (refine gate_guard (by rfl) ?_; dsimp only)); refine bxA 2 #[.int .i64 0, .int .i64 0] 38 ?_; intro gb253 hg w3 hbox hb; have BK253 := sd (hbox); have GW253 := gem hg HB; have GE253 := GW253; replace HB := hbm HB hb; clear hb hbox hg))
 (try simp only [Act.put, List.setIfInBounds_toArray, List.set_cons_zero, List.set_cons_succ])
 go_cut [4] (fun v4 wc => ∃ (kq : Nat) (x4_1 : Bool), v4 = .bool x4_1 ∧ Aside0 (frac_Parse.j0 kq a0 x4_1 0 0 = some (r1, r2, r3)) ∧ Aside0 (kq ≤ k) ∧ Aside0 (wc.heap[gb253]? = some (.cells #[.int .i64 0, .int .i64 0] 38 (0, 0))) ∧ Aside0 (Below w.heap.size w wc))
 case first =>
  have H := HC2.out
  clear HC2
  replace H := ifI H
  rcases H with ⟨c4, H⟩ | ⟨c4, H⟩
  ·obtain ⟨c4b0, c4b1⟩ := eqI c4
   clear c4
   (first | rw [c4b0] | (simp only [i64_w, i32_w]; rw [c4b0]) | skip)
   have H' := sd H
   clear H
   go_wp2
   go_meet
   case rel => exact ⟨_, (false), zq1, H', ⟨by first | omega | exact Nat.le_refl _⟩, ⟨zq2⟩, ⟨zq3⟩⟩
  obtain ⟨c4b0, c4b1⟩ := neI c4
  (first | rw [c4b0] | (simp only [i64_w, i32_w]; rw [c4b0]) | skip)
  replace H := ifI H
  rcases H with ⟨c5, H⟩ | ⟨c5, H⟩
  ·have c5b0 : decide (0 < (a0.size : Int)) = true := decide_eq_true c5
   have c5b1 : decide (0 < a0.size) = true := decide_eq_true (by omega)
   clear c5
   have H' := sd H
   clear H
   have p6 : 0 ≤ (0 : Int) := (by omega)
   have q6 : 0 < a0.size := (by have : (0 : Int) < (a0.size : Int) := od; omega)
   have hx6 : ∀ h : 0 < a0.size, ((a0[0]'h).toNat : Int) = bt a0 0 := bt_at a0 0
   clear p6
   have qi6 : (0 < (a0.size : Int)) = True := eq_true (od)
   replace q6 := eq_true q6
   go_wp2
   go_meet
   case rel => exact ⟨_, (((bt a0 0) == 45)), zq1, H', ⟨by first | omega | exact Nat.le_refl _⟩, ⟨zq2⟩, ⟨zq3⟩⟩
  exact absurd H (by simp)
 case rest =>
  clear HC2
  try clear p2
  try clear c4
  try clear c4b0
  try clear c4b1
  try clear c5
  try clear c5b0
  try clear c5b1
  try clear p6
  try clear q6
  try clear hx6
  try clear qi6
  try clear p6
  try clear q6
  obtain ⟨kq, x4_1, rfl, HA, HJ1, BK253, HB⟩ := hcut
  cases kq with
  | zero => exact absurd HA.out (by simp [frac_Parse.j0])
  | succ kj1 =>
   have H := HA.out
   clear HA
   simp only [frac_Parse.j0] at H
   have HC7 := sd H
   clear H
   go_upto_if 17 with (fail)
   go_cut [0] (fun v0 wc => ∃ (kq : Nat) (x0_6 : ByteArray), v0 = .string x0_6 ∧ Aside0 (frac_Parse.j1 kq x0_6 x4_1 0 0 = some (r1, r2, r3)) ∧ Aside0 (kq ≤ kj1) ∧ Aside0 (wc.heap[gb253]? = some (.cells #[.int .i64 0, .int .i64 0] 38 (0, 0))) ∧ Aside0 (Below w.heap.size w wc))
   case first =>
    have H := HC7.out
    clear HC7
    by_cases c8 : x4_1 = true
    ·subst c8
     rw [if_pos rfl] at H
     replace H := ifI H
     rcases H with ⟨c9, H⟩ | ⟨c9, H⟩
     ·have c9b0 := eq_true c9
      have c9b1 : decide (1 ≤ (a0.size : Int)) = true := decide_eq_true c9
      clear c9
      have H' := sd H
      clear H
      go_wp2
      go_meet
      case rel => exact ⟨_, (a0.extract 1 a0.size), zq1, H', ⟨zq4⟩, ⟨zq2⟩, ⟨zq3⟩⟩
     exact absurd H (by simp)
    replace c8 := Bool.eq_false_iff.mpr c8
    subst c8
    rw [if_neg Bool.false_ne_true] at H
    have H' := sd H
    clear H
    go_wp2
    go_meet
    case rel => exact ⟨_, (a0), zq1, H', ⟨zq4⟩, ⟨zq2⟩, ⟨zq3⟩⟩
   case rest =>
    clear HC7
    try clear p2
    try clear c4
    try clear c4b0
    try clear c4b1
    try clear c5
    try clear c5b0
    try clear c5b1
    try clear p6
    try clear q6
    try clear hx6
    try clear qi6
    try clear c8
    try clear c9
    try clear c9b0
    try clear c9b1
    try clear p2
    try clear p6
    try clear q6
    obtain ⟨kq, x0_6, rfl, HA, HJ6, BK253, HB⟩ := hcut
    cases kq with
    | zero => exact absurd HA.out (by simp [frac_Parse.j1])
    | succ kj6 =>
     have H := HA.out
     clear HA
     simp only [frac_Parse.j1] at H
     replace H := bdI H
     obtain ⟨⟨t254, t255, t256⟩, A10, H⟩ := H
     (try dsimp only at H)
     have HC11 := sd H
     clear H
     go_upto_region 5 with (first | ((with_reducible refine gate_callee (f := 84) rfl ?_); refine gL 22 Tryd.func84 #[.string x0_6] ?_; (with_reducible refine (frac_split.calls kj6 x0_6 t254 t255 t256 _ A10.out).mono ?_); rintro e w12 ⟨v257, v259, rfl, ho0, ho1, hb⟩; refine ⟨_, rfl, ?_⟩; have HO258 := sd (Kd.R_lower ho0 (below_size zq3)); have HO260 := sd (Kd.R_lower ho1 (below_size zq3)); replace BK253 := bkm BK253 hb; replace HB := hbm HB hb; clear hb; (try clear ho0); (try clear ho1)))
     (try simp only [Act.put, List.setIfInBounds_toArray, List.set_cons_zero, List.set_cons_succ])
     go_cut [36] (fun v36 wc => ∃ (kq : Nat) (x36_10 : Bool), v36 = .bool x36_10 ∧ Aside0 (frac_Parse.j2 kq x4_1 t254 t255 x36_10 0 0 = some (r1, r2, r3)) ∧ Aside0 (kq ≤ kj6) ∧ Aside0 (Kd.R (Kd.int .u8) 5 wc w.heap.size (fun k_ => some k_ ≠ (v259 : Value).ownBlock) v257 t254) ∧ Aside0 (Kd.R (Kd.int .u8) 5 wc w.heap.size (fun k_ => some k_ ≠ (v257 : Value).ownBlock) v259 t255) ∧ Aside0 (wc.heap[gb253]? = some (.cells #[.int .i64 0, .int .i64 0] 38 (0, 0))) ∧ Aside0 (Below w.heap.size w wc))
     case first =>
      have H := HC11.out
      clear HC11
      by_cases c13 : t256 = true
      ·subst c13
       rw [if_pos rfl] at H
       by_cases c14 : x4_1 = true
       ·subst c14
        rw [if_pos rfl] at H
        replace H := bdI H
        obtain ⟨t261, A15, H⟩ := H
        (try dsimp only at H)
        have H' := sd H
        clear H
        obtain ⟨Ao16, co16, eo16⟩ := Kd.R_slice HO258.out
        subst eo16
        go_wp2_with (first | (go_at_call 85; (with_reducible refine (frac_digits_trim.calls kj6 (fun k_ => some k_ = (.slice Ao16 t254.length co16 : Value).ownBlock) _ _ t254 t261 _ ?side1 A15.out).mono ?_); (case side1 => exact (by exact Kd.R_V (Kd.R_tight rfl (Kd.R_types (HO258.out) BK253.out (by decide))))); rintro e w17 ⟨v262, rfl, ho0, hb⟩; have HO263 := sd (Kd.V_lower (Kd.V_mono (ok' := fun k_ => some k_ ≠ (v259 : Value).ownBlock ∧ k_ ≠ gb253) ho0 (fun k_ hk_ => ⟨Or.elim hk_ (fun hs_ => ((Kd.R_types (HO258.out) BK253.out (by decide)).1 k_ hs_.symm).1) (fun hn_ => (Kd.fresh' (Kd.R_lt zq5) k_ hn_)), Or.elim hk_ (fun hs_ => ((Kd.R_types (HO258.out) BK253.out (by decide)).1 k_ hs_.symm).2) (fun hn_ => (Kd.freshB (g := gb253) (o := .cells #[.int .i64 0, .int .i64 0] 38 (0, 0)) zq2 k_ hn_))⟩)) (below_size zq3)); replace HO258 := rbm HO258 hb; replace HO260 := rbm HO260 hb; replace BK253 := bkm BK253 hb; replace HB := hbm HB hb; clear hb; (try clear ho0); obtain ⟨Ao18, co18, eo18⟩ := Kd.V_slice HO263.out; subst eo18))
        go_meet
        case rel => exact ⟨_, (((t261.length : Int) == 0)), zq1, H', ⟨zq6⟩, ⟨zq7⟩, ⟨zq5⟩, ⟨zq2⟩, ⟨zq3⟩⟩
       replace c14 := Bool.eq_false_iff.mpr c14
       subst c14
       rw [if_neg Bool.false_ne_true] at H
       have H' := sd H
       clear H
       go_wp2
       go_meet
       case rel => exact ⟨_, (false), zq1, H', ⟨zq6⟩, ⟨zq7⟩, ⟨zq5⟩, ⟨zq2⟩, ⟨zq3⟩⟩
      replace c13 := Bool.eq_false_iff.mpr c13
      subst c13
      rw [if_neg Bool.false_ne_true] at H
      have H' := sd H
      clear H
      go_wp2
      go_meet
      case rel => exact ⟨_, (true), zq1, H', ⟨zq6⟩, ⟨zq7⟩, ⟨zq5⟩, ⟨zq2⟩, ⟨zq3⟩⟩
     case rest =>
      clear HC11
      try clear c1
      try clear p2
      try clear c4
      try clear c4b0
      try clear c4b1
      try clear c5
      try clear c5b0
      try clear c5b1
      try clear p6
      try clear q6
      try clear hx6
      try clear qi6
      try clear c8
      try clear c9
      try clear c9b0
      try clear c9b1
      try clear c13
      try clear c14
      try clear p2
      try clear p6
      try clear q6
      obtain ⟨kq, x36_10, rfl, HA, HJ10, HO_5, HO_6, BK253, HB⟩ := hcut
      cases kq with
      | zero => exact absurd HA.out (by simp [frac_Parse.j2])
      | succ kj10 =>
       have H := HA.out
       clear HA
       simp only [frac_Parse.j2] at H
       by_cases c19 : x36_10 = true
       ·subst c19
        rw [if_pos rfl] at H
        simp only [Option.some.injEq, Prod.mk.injEq] at H
        obtain ⟨rfl, rfl, rfl⟩ := H
        obtain ⟨_, _, _, _⟩ := bk2 BK253
        go_wp2
        refine bodyPost_ret (results_ct rfl _ _ gb253 38 #[.int .i64 0, .int .i64 0] (0, 0) _ rfl (by (with_reducible repeat (first | refine blk_drewN ?_ _ | refine blk_drew ?_ | refine blk_alloc ?_ _)); refine blk_put (cs := #[.int .i64 0, .int .i64 0]) ?_ 1 _ rfl; (with_reducible repeat (first | refine blk_drewN ?_ _ | refine blk_drew ?_ | refine blk_alloc ?_ _)); refine blk_put (cs := #[.int .i64 0, .int .i64 0]) ?_ 0 _ rfl; (with_reducible repeat (first | refine blk_drewN ?_ _ | refine blk_drew ?_ | refine blk_alloc ?_ _)); exact BK253.out) Tryd.underlying38 rfl (by kernel_rfl)) rfl ?_
        exact ⟨zq8, zq3⟩
       replace c19 := Bool.eq_false_iff.mpr c19
       subst c19
       rw [if_neg Bool.false_ne_true] at H
       replace H := bdI H
       obtain ⟨t264, A21, H⟩ := H
       (try dsimp only at H)
       replace H := bdI H
       obtain ⟨t267, A22, H⟩ := H
       (try dsimp only at H)
       replace H := bdI H
       obtain ⟨⟨t270, t271, t272⟩, A23, H⟩ := H
       (try dsimp only at H)
       by_cases c24 : t272 = true
       ·subst c24
        rw [if_pos rfl] at H
        by_cases c25 : x4_1 = true
        ·subst c25
         rw [if_pos rfl] at H
         simp only [Option.some.injEq, Prod.mk.injEq] at H
         obtain ⟨rfl, rfl, rfl⟩ := H
         obtain ⟨Ao26, co26, eo26⟩ := Kd.R_slice HO_5.out
         subst eo26
         go_wp2_with (first | ((with_reducible refine gate_callee (f := 85) rfl ?_); refine gL 40 Tryd.func85 #[.slice Ao26 t254.length co26] ?_; (with_reducible refine (frac_digits_trim.calls kj10 (fun k_ => some k_ = (.slice Ao26 t254.length co26 : Value).ownBlock) _ _ t254 t264 _ ?side1 A21.out).mono ?_); (case side1 => exact zq9); rintro e w27 ⟨v265, rfl, ho0, hb⟩; refine ⟨_, rfl, ?_⟩; have HO266 := sd (Kd.V_lower (Kd.V_mono (ok' := fun k_ => some k_ ≠ (v259 : Value).ownBlock ∧ k_ ≠ gb253) ho0 (fun k_ hk_ => ⟨Or.elim hk_ (fun hs_ => ((Kd.R_types (HO_5.out) BK253.out (by decide)).1 k_ hs_.symm).1) (fun hn_ => (Kd.fresh' (Kd.R_lt zq10) k_ hn_)), Or.elim hk_ (fun hs_ => ((Kd.R_types (HO_5.out) BK253.out (by decide)).1 k_ hs_.symm).2) (fun hn_ => (Kd.freshB (g := gb253) (o := .cells #[.int .i64 0, .int .i64 0] 38 (0, 0)) zq2 k_ hn_))⟩)) (below_size zq3)); replace HO_5 := rbm HO_5 hb; replace HO_6 := rbm HO_6 hb; replace BK253 := bkm BK253 hb; replace HB := hbm HB hb; clear hb; (try clear ho0); obtain ⟨Ao28, co28, eo28⟩ := Kd.R_slice HO_6.out; subst eo28) | ((with_reducible refine gate_callee (f := 85) rfl ?_); refine gL 42 Tryd.func85 #[.slice Ao28 t255.length co28] ?_; (with_reducible refine (frac_digits_trim.calls kj10 (fun k_ => some k_ = (.slice Ao28 t255.length co28 : Value).ownBlock) _ _ t255 t267 _ ?side1 A22.out).mono ?_); (case side1 => exact zq11); rintro e w29 ⟨v268, rfl, ho0, hb⟩; refine ⟨_, rfl, ?_⟩; have HO269 := sd (Kd.V_lower (Kd.V_mono (ok' := fun k_ => some k_ ≠ (.slice Ao26 t254.length co26 : Value).ownBlock ∧ k_ ≠ gb253) ho0 (fun k_ hk_ => ⟨Or.elim hk_ (fun hs_ => ((Kd.R_types (HO_6.out) BK253.out (by decide)).1 k_ hs_.symm).1) (fun hn_ => (Kd.fresh' (Kd.R_lt zq12) k_ hn_)), Or.elim hk_ (fun hs_ => ((Kd.R_types (HO_6.out) BK253.out (by decide)).1 k_ hs_.symm).2) (fun hn_ => (Kd.freshB (g := gb253) (o := .cells #[.int .i64 0, .int .i64 0] 38 (0, 0)) zq2 k_ hn_))⟩)) (below_size zq3)); replace HO_5 := rbm HO_5 hb; replace HO_6 := rbm HO_6 hb; replace HO266 := sd (Kd.V_below zq13 hb); replace BK253 := bkm BK253 hb; replace HB := hbm HB hb; clear hb; (try clear ho0); obtain ⟨Ao30, co30, eo30⟩ := Kd.V_slice HO266.out; subst eo30; obtain ⟨Ao31, co31, eo31⟩ := Kd.V_slice HO269.out; subst eo31) | ((with_reducible refine gate_callee (f := 86) rfl ?_); refine gL 43 Tryd.func86 #[.slice Ao30 t264.length co30, .slice Ao31 t267.length co31] ?_; (with_reducible refine (frac_reduce.calls kj10 _ _ t264 _ _ t267 t270 t271 true _ ?side1 ?side2 ?side3 ?side4 A23.out).mono ?_); (case side1 => exact zq14); (case side2 => exact (Kd.V_reads' HO266.out).2.1); (case side3 => exact zq15); (case side4 => exact (Kd.V_reads' HO269.out).2.1); rintro e w32 ⟨rfl, hb⟩; refine ⟨_, rfl, ?_⟩; replace HO_5 := rbm HO_5 hb; replace HO_6 := rbm HO_6 hb; replace HO266 := sd (Kd.V_below zq13 hb); replace HO269 := sd (Kd.V_below zq16 hb); replace BK253 := bkm BK253 hb; replace HB := hbm HB hb; clear hb; obtain ⟨_, _, _, _⟩ := bk2 BK253))
         refine bodyPost_ret (results_ct rfl _ _ gb253 38 #[.int .i64 (wrap64 (-t270)), .int .i64 t271] (0, 0) _ rfl (by (with_reducible repeat (first | refine blk_drewN ?_ _ | refine blk_drew ?_ | refine blk_alloc ?_ _)); refine blk_put (cs := #[.int .i64 (wrap64 (-t270)), .int .i64 0]) ?_ 1 _ rfl; (with_reducible repeat (first | refine blk_drewN ?_ _ | refine blk_drew ?_ | refine blk_alloc ?_ _)); refine blk_put (cs := #[.int .i64 0, .int .i64 0]) ?_ 0 _ rfl; (with_reducible repeat (first | refine blk_drewN ?_ _ | refine blk_drew ?_ | refine blk_alloc ?_ _)); exact BK253.out) Tryd.underlying38 rfl (by kernel_rfl)) rfl ?_
         exact ⟨zq8, zq3⟩
        replace c25 := Bool.eq_false_iff.mpr c25
        subst c25
        rw [if_neg Bool.false_ne_true] at H
        simp only [Option.some.injEq, Prod.mk.injEq] at H
        obtain ⟨rfl, rfl, rfl⟩ := H
        obtain ⟨Ao34, co34, eo34⟩ := Kd.R_slice HO_5.out
        subst eo34
        go_wp2_with (first | ((with_reducible refine gate_callee (f := 85) rfl ?_); refine gL 40 Tryd.func85 #[.slice Ao34 t254.length co34] ?_; (with_reducible refine (frac_digits_trim.calls kj10 (fun k_ => some k_ = (.slice Ao34 t254.length co34 : Value).ownBlock) _ _ t254 t264 _ ?side1 A21.out).mono ?_); (case side1 => exact zq9); rintro e w35 ⟨v265, rfl, ho0, hb⟩; refine ⟨_, rfl, ?_⟩; have HO266 := sd (Kd.V_lower (Kd.V_mono (ok' := fun k_ => some k_ ≠ (v259 : Value).ownBlock ∧ k_ ≠ gb253) ho0 (fun k_ hk_ => ⟨Or.elim hk_ (fun hs_ => ((Kd.R_types (HO_5.out) BK253.out (by decide)).1 k_ hs_.symm).1) (fun hn_ => (Kd.fresh' (Kd.R_lt zq10) k_ hn_)), Or.elim hk_ (fun hs_ => ((Kd.R_types (HO_5.out) BK253.out (by decide)).1 k_ hs_.symm).2) (fun hn_ => (Kd.freshB (g := gb253) (o := .cells #[.int .i64 0, .int .i64 0] 38 (0, 0)) zq2 k_ hn_))⟩)) (below_size zq3)); replace HO_5 := rbm HO_5 hb; replace HO_6 := rbm HO_6 hb; replace BK253 := bkm BK253 hb; replace HB := hbm HB hb; clear hb; (try clear ho0); obtain ⟨Ao36, co36, eo36⟩ := Kd.R_slice HO_6.out; subst eo36) | ((with_reducible refine gate_callee (f := 85) rfl ?_); refine gL 42 Tryd.func85 #[.slice Ao36 t255.length co36] ?_; (with_reducible refine (frac_digits_trim.calls kj10 (fun k_ => some k_ = (.slice Ao36 t255.length co36 : Value).ownBlock) _ _ t255 t267 _ ?side1 A22.out).mono ?_); (case side1 => exact zq11); rintro e w37 ⟨v268, rfl, ho0, hb⟩; refine ⟨_, rfl, ?_⟩; have HO269 := sd (Kd.V_lower (Kd.V_mono (ok' := fun k_ => some k_ ≠ (.slice Ao34 t254.length co34 : Value).ownBlock ∧ k_ ≠ gb253) ho0 (fun k_ hk_ => ⟨Or.elim hk_ (fun hs_ => ((Kd.R_types (HO_6.out) BK253.out (by decide)).1 k_ hs_.symm).1) (fun hn_ => (Kd.fresh' (Kd.R_lt zq12) k_ hn_)), Or.elim hk_ (fun hs_ => ((Kd.R_types (HO_6.out) BK253.out (by decide)).1 k_ hs_.symm).2) (fun hn_ => (Kd.freshB (g := gb253) (o := .cells #[.int .i64 0, .int .i64 0] 38 (0, 0)) zq2 k_ hn_))⟩)) (below_size zq3)); replace HO_5 := rbm HO_5 hb; replace HO_6 := rbm HO_6 hb; replace HO266 := sd (Kd.V_below zq13 hb); replace BK253 := bkm BK253 hb; replace HB := hbm HB hb; clear hb; (try clear ho0); obtain ⟨Ao38, co38, eo38⟩ := Kd.V_slice HO266.out; subst eo38; obtain ⟨Ao39, co39, eo39⟩ := Kd.V_slice HO269.out; subst eo39) | ((with_reducible refine gate_callee (f := 86) rfl ?_); refine gL 43 Tryd.func86 #[.slice Ao38 t264.length co38, .slice Ao39 t267.length co39] ?_; (with_reducible refine (frac_reduce.calls kj10 _ _ t264 _ _ t267 t270 t271 true _ ?side1 ?side2 ?side3 ?side4 A23.out).mono ?_); (case side1 => exact zq14); (case side2 => exact (Kd.V_reads' HO266.out).2.1); (case side3 => exact zq15); (case side4 => exact (Kd.V_reads' HO269.out).2.1); rintro e w40 ⟨rfl, hb⟩; refine ⟨_, rfl, ?_⟩; replace HO_5 := rbm HO_5 hb; replace HO_6 := rbm HO_6 hb; replace HO266 := sd (Kd.V_below zq13 hb); replace HO269 := sd (Kd.V_below zq16 hb); replace BK253 := bkm BK253 hb; replace HB := hbm HB hb; clear hb; obtain ⟨_, _, _, _⟩ := bk2 BK253))
        refine bodyPost_ret (results_ct rfl _ _ gb253 38 #[.int .i64 t270, .int .i64 t271] (0, 0) _ rfl (by (with_reducible repeat (first | refine blk_drewN ?_ _ | refine blk_drew ?_ | refine blk_alloc ?_ _)); refine blk_put (cs := #[.int .i64 t270, .int .i64 0]) ?_ 1 _ rfl; (with_reducible repeat (first | refine blk_drewN ?_ _ | refine blk_drew ?_ | refine blk_alloc ?_ _)); refine blk_put (cs := #[.int .i64 0, .int .i64 0]) ?_ 0 _ rfl; (with_reducible repeat (first | refine blk_drewN ?_ _ | refine blk_drew ?_ | refine blk_alloc ?_ _)); exact BK253.out) Tryd.underlying38 rfl (by kernel_rfl)) rfl ?_
        exact ⟨zq8, zq3⟩
       replace c24 := Bool.eq_false_iff.mpr c24
       subst c24
       rw [if_neg Bool.false_ne_true] at H
       simp only [Option.some.injEq, Prod.mk.injEq] at H
       obtain ⟨rfl, rfl, rfl⟩ := H
       obtain ⟨Ao42, co42, eo42⟩ := Kd.R_slice HO_5.out
       subst eo42
       go_wp2_with (first | ((with_reducible refine gate_callee (f := 85) rfl ?_); refine gL 40 Tryd.func85 #[.slice Ao42 t254.length co42] ?_; (with_reducible refine (frac_digits_trim.calls kj10 (fun k_ => some k_ = (.slice Ao42 t254.length co42 : Value).ownBlock) _ _ t254 t264 _ ?side1 A21.out).mono ?_); (case side1 => exact zq9); rintro e w43 ⟨v265, rfl, ho0, hb⟩; refine ⟨_, rfl, ?_⟩; have HO266 := sd (Kd.V_lower (Kd.V_mono (ok' := fun k_ => some k_ ≠ (v259 : Value).ownBlock ∧ k_ ≠ gb253) ho0 (fun k_ hk_ => ⟨Or.elim hk_ (fun hs_ => ((Kd.R_types (HO_5.out) BK253.out (by decide)).1 k_ hs_.symm).1) (fun hn_ => (Kd.fresh' (Kd.R_lt zq10) k_ hn_)), Or.elim hk_ (fun hs_ => ((Kd.R_types (HO_5.out) BK253.out (by decide)).1 k_ hs_.symm).2) (fun hn_ => (Kd.freshB (g := gb253) (o := .cells #[.int .i64 0, .int .i64 0] 38 (0, 0)) zq2 k_ hn_))⟩)) (below_size zq3)); replace HO_5 := rbm HO_5 hb; replace HO_6 := rbm HO_6 hb; replace BK253 := bkm BK253 hb; replace HB := hbm HB hb; clear hb; (try clear ho0); obtain ⟨Ao44, co44, eo44⟩ := Kd.R_slice HO_6.out; subst eo44) | ((with_reducible refine gate_callee (f := 85) rfl ?_); refine gL 42 Tryd.func85 #[.slice Ao44 t255.length co44] ?_; (with_reducible refine (frac_digits_trim.calls kj10 (fun k_ => some k_ = (.slice Ao44 t255.length co44 : Value).ownBlock) _ _ t255 t267 _ ?side1 A22.out).mono ?_); (case side1 => exact zq11); rintro e w45 ⟨v268, rfl, ho0, hb⟩; refine ⟨_, rfl, ?_⟩; have HO269 := sd (Kd.V_lower (Kd.V_mono (ok' := fun k_ => some k_ ≠ (.slice Ao42 t254.length co42 : Value).ownBlock ∧ k_ ≠ gb253) ho0 (fun k_ hk_ => ⟨Or.elim hk_ (fun hs_ => ((Kd.R_types (HO_6.out) BK253.out (by decide)).1 k_ hs_.symm).1) (fun hn_ => (Kd.fresh' (Kd.R_lt zq12) k_ hn_)), Or.elim hk_ (fun hs_ => ((Kd.R_types (HO_6.out) BK253.out (by decide)).1 k_ hs_.symm).2) (fun hn_ => (Kd.freshB (g := gb253) (o := .cells #[.int .i64 0, .int .i64 0] 38 (0, 0)) zq2 k_ hn_))⟩)) (below_size zq3)); replace HO_5 := rbm HO_5 hb; replace HO_6 := rbm HO_6 hb; replace HO266 := sd (Kd.V_below zq13 hb); replace BK253 := bkm BK253 hb; replace HB := hbm HB hb; clear hb; (try clear ho0); obtain ⟨Ao46, co46, eo46⟩ := Kd.V_slice HO266.out; subst eo46; obtain ⟨Ao47, co47, eo47⟩ := Kd.V_slice HO269.out; subst eo47) | ((with_reducible refine gate_callee (f := 86) rfl ?_); refine gL 43 Tryd.func86 #[.slice Ao46 t264.length co46, .slice Ao47 t267.length co47] ?_; (with_reducible refine (frac_reduce.calls kj10 _ _ t264 _ _ t267 t270 t271 false _ ?side1 ?side2 ?side3 ?side4 A23.out).mono ?_); (case side1 => exact zq14); (case side2 => exact (Kd.V_reads' HO266.out).2.1); (case side3 => exact zq15); (case side4 => exact (Kd.V_reads' HO269.out).2.1); rintro e w48 ⟨rfl, hb⟩; refine ⟨_, rfl, ?_⟩; replace HO_5 := rbm HO_5 hb; replace HO_6 := rbm HO_6 hb; replace HO266 := sd (Kd.V_below zq13 hb); replace HO269 := sd (Kd.V_below zq16 hb); replace BK253 := bkm BK253 hb; replace HB := hbm HB hb; clear hb; obtain ⟨_, _, _, _⟩ := bk2 BK253))
       refine bodyPost_ret (results_ct rfl _ _ gb253 38 #[.int .i64 0, .int .i64 0] (0, 0) _ rfl (by (with_reducible repeat (first | refine blk_drewN ?_ _ | refine blk_drew ?_ | refine blk_alloc ?_ _)); refine blk_put (cs := #[.int .i64 0, .int .i64 0]) ?_ 1 _ rfl; (with_reducible repeat (first | refine blk_drewN ?_ _ | refine blk_drew ?_ | refine blk_alloc ?_ _)); refine blk_put (cs := #[.int .i64 0, .int .i64 0]) ?_ 0 _ rfl; (with_reducible repeat (first | refine blk_drewN ?_ _ | refine blk_drew ?_ | refine blk_alloc ?_ _)); exact BK253.out) Tryd.underlying38 rfl (by kernel_rfl)) rfl ?_
       exact ⟨zq8, zq3⟩
def badEnd : Ending := .panicked [{ v := .iface 66 (.agg #[]), recovered := false }]
structure KB (w w' : World) (g : Nat) : Prop where
 size : w.heap.size ≤ w'.heap.size
 keep : KeepBut w w' g none
 os : w'.os = w.os
 tape : w'.tape = w.tape
 output : w'.output = w.output
theorem KB.refl (w : World) (g : Nat) : KB w w g := ⟨Nat.le_refl _, KeepBut.refl _ _ _, rfl, rfl, rfl⟩
theorem KB.trans {w w1 w2 : World} {g : Nat} (h : KB w w1 g) (k : KB w1 w2 g) : KB w w2 g := ⟨Nat.le_trans h.size k.size, h.keep.trans k.keep (.inl rfl), k.os.trans h.os, k.tape.trans h.tape, k.output.trans h.output⟩
theorem kb_alloc {w W : World} {g : Nat} (h : KB w W g) (o : Obj) : KB w (W.alloc o) g := ⟨by have := h.size; rw [World.size_alloc]; omega, keep_alloc h.keep o, h.os, h.tape, h.output⟩
theorem kb_drewN {w W : World} {g : Nat} (h : KB w W g) (n : Nat) : KB w (W.drewN n) g := ⟨h.size, keep_drewN h.keep n, h.os, h.tape, h.output⟩
theorem kb_drew {w W : World} {g : Nat} (h : KB w W g) : KB w W.drew g := ⟨h.size, h.keep, h.os, h.tape, h.output⟩
theorem KB.set_ {w W : World} {g : Nat} (h : KB w W g) (j : Nat) (u : Value) : KB w (W.setCell ⟨g, j, none⟩ u) g := ⟨by have := h.size; simpa [World.setCell] using this, h.keep.set_ j u, h.os, h.tape, h.output⟩
theorem kb_far {w W : World} {g : Nat} (h : KB w W g) {p : Addr} (hp : w.heap.size ≤ p.block) (u : Value) : KB w (W.setCell p u) g := ⟨by have := h.size; simpa [World.setCell] using this, keep_far h.keep hp u, h.os, h.tape, h.output⟩
theorem KB.of_below {w w1 : World} (h : Below w.heap.size w w1) (g : Nat) : KB w w1 g := ⟨h.size, KeepBut.of_below h g none, h.os, h.tape, h.output⟩
theorem KB.of_grown {w w1 : World} {row : Option Nat} {w0 : World} (h : w.grownBy w1 row) (g : Nat) (h0 : KB w0 w g) (hr : row = none ∨ ∃ b, row = some b ∧ w0.heap.size ≤ b) : KB w0 w1 g := ⟨Nat.le_trans h0.size h.size, h0.keep.trans (KeepBut.of_grown h g) hr, h.os.trans h0.os, h.tape.trans h0.tape, h.output.trans h0.output⟩
theorem KB.blk {w w1 : World} {g g' : Nat} {o : Obj} (h : KB w w1 g) (hb : w.heap[g']? = some o) (hg : g' ≠ g) (_hr : some g' ≠ (none : Option Nat)) : w1.heap[g']? = some o := h.keep.blk hb hg (by simp)
theorem KB.below {w0 w w1 : World} {g : Nat} (h : KB w w1 g) (hb : Below w0.heap.size w0 w) (hg : w0.heap.size ≤ g) : Below w0.heap.size w0 w1 := ⟨h.os.trans hb.os, h.tape.trans hb.tape, h.output.trans hb.output, Nat.le_trans hb.size h.size, fun i hi => (h.keep.2 i (Nat.lt_of_lt_of_le hi hb.size) (by omega) (by simp)).trans (hb.block i hi)⟩
structure Par (bd : Nat) (w : World) (g : Nat) (l : List S91) : Prop where
 ex : ∃ A c, w.cell? ⟨g, 0, none⟩ = some (.slice A l.length c) ∧ l.length ≤ c ∧ Kd.C k91 w A l.length l ∧ (∀ ad, A = some ad → 0 < l.length → ad.block ≠ g ∧ ad.block < bd) ∧ w.frozen? ⟨g, 0, none⟩ = false ∧ l.length ≤ 9223372036854775807 ∧ g < bd
theorem c91_keep {w w' : World} {g n : Nat} {A : Option Addr} {xs : List S91} (h : Kd.C k91 w A n xs) (hk : KeepBut w w' g none) (hA : ∀ ad, A = some ad → 0 < n → ad.block ≠ g) : Kd.C k91 w' A n xs := by
 refine ⟨h.1, h.2.1, fun hn => ?_⟩
 obtain ⟨ad, rfl, hc⟩ := h.2.2 hn
 refine ⟨ad, rfl, fun j p hj => ?_⟩
 obtain ⟨cs, h1, h2, h3⟩ := hc j p hj
 obtain rfl := k91_open h2
 refine ⟨_, rfl, k91_mk w' p, fun i u hu => ?_⟩
 exact keep_cell hk (h3 i u hu) (by rw [add_block]; exact hA ad rfl hn)
theorem Par.below {bd : Nat} {w w' : World} {g : Nat} {l : List S91} (h : Par bd w g l) (hb : Below w.heap.size w w') : Par bd w' g l := by
 obtain ⟨A, c, h1, h2, h3, h4, h5, h6⟩ := h.ex
 exact ⟨A, c, pw_cell_below hb h1, h2, Kd.C_below h3 hb, h4, by rw [← h5]; exact hb.frozen (p := ⟨g, 0, none⟩) (lt_of_cell h1), h6⟩
theorem cell_grown {w w' : World} {row : Option Nat} (hg : w.grownBy w' row) {a : Addr} {v : Value} (h : w.cell? a = some v) (hr : some a.block ≠ row) : w'.cell? a = some v := by
 have := hg.block a.block (lt_of_cell h) hr
 unfold World.cell? at h ⊢
 rw [this]; exact h
theorem Par.grown {bd : Nat} {w w' : World} {g : Nat} {l : List S91} (h : Par bd w g l) {row : Option Nat} (hg : w.grownBy w' row) (hr : ∀ k, row = some k → bd ≤ k) : Par bd w' g l := by
 obtain ⟨A, c, h1, h2, h3, h4, h5, h6, h7⟩ := h.ex
 refine ⟨A, c, cell_grown hg h1 (fun e => ?_), h2, ⟨h3.1, h3.2.1, fun hn => ?_⟩, h4, ?_, h6, h7⟩
 ·have := hr _ e.symm; dsimp only at this; omega
 ·obtain ⟨ad, rfl, hc⟩ := h3.2.2 hn
  refine ⟨ad, rfl, fun j p hj => ?_⟩
  obtain ⟨cs, k1, k2, k3⟩ := hc j p hj
  obtain rfl := k91_open k2
  refine ⟨_, rfl, k91_mk w' p, fun i u hu => cell_grown hg (k3 i u hu) (fun e => ?_)⟩
  have := hr _ e.symm; rw [add_block] at this; have := (h4 ad rfl hn).2; omega
 ·rw [← h5]
  have := hg.block g (lt_of_cell h1) (fun e => by have := hr _ e.symm; omega)
  unfold World.frozen?
  dsimp only
  rw [this]
theorem next_some {bd : Nat} (g : Nat) (x : S91) (l : List S91) (ks : List Int) (B : Option Addr) (kc : Nat) (w : World) (hP : Par bd w g (x :: l)) (hK : ReadsInt w .i64 B ks.length ks) (hx : x.f0 ∈ ks) :
  Calls Tryd.prog 51 #[.pointer (some ⟨g, 0, none⟩), .slice B ks.length kc] w fun e w' => e = .returned (.agg #[.int .i64 x.f0, .string x.f1, .int .i64 x.f2]) ∧ KB w w' g ∧ Par bd w' g l := by
 have HPost : ∀ W, KB w W g ∧ Par bd W g l → (fun (e : Ending) (w' : World) => e = .returned (.agg #[.int .i64 x.f0, .string x.f1, .int .i64 x.f2]) ∧ KB w w' g ∧ Par bd w' g l) (.returned (.agg #[.int .i64 x.f0, .string x.f1, .int .i64 x.f2])) W := fun W hW => ⟨rfl, hW⟩
 generalize (fun (e : Ending) (w' : World) => e = .returned (.agg #[.int .i64 x.f0, .string x.f1, .int .i64 x.f2]) ∧ KB w w' g ∧ Par bd w' g l) = Post at HPost ⊢
 have HP := sd HPost
 clear HPost
 obtain ⟨A, c, hc, hcap, hC, hA, hz, hmx, hgb⟩ := hP.ex
 have hlt := lt_of_cell hc
 obtain ⟨ad, rfl, h0, h1, h2⟩ := at_T91 hC 0 (by decide) (by simp)
 have hlen : (0 : Int) < ((x :: l).length : Int) := by simp
 have hrd : rd_T91 (x :: l) 0 = x := rfl
 rw [hrd] at h0 h1 h2
 rw [show (0 : Int).toNat * 3 = 0 from rfl, Addr.add_zero'] at h0 h1 h2
 have HC := sd hC
 have HA := sd (hA ad rfl (by simp))
 have HGB := sd hgb
 obtain ⟨ab, ao, asp⟩ := ad
 dsimp only at h1 h2
 have hal := lt_of_cell h0
 obtain ⟨i0, hi0, _, hsz0, _⟩ := info_parts info91
 have hcut := cut_from (P := Tryd.prog) 62 91 .i64 Tryd.underlying62 hi0 3 hsz0 (some ⟨ab, ao, asp⟩) (x :: l).length c 1 (by decide) (by simp; omega)
 have hd0 := Kd.C_drop (m := 1) hC (by simp) hcap
 simp only [Int.toNat_one, List.length_cons, Nat.add_sub_cancel] at hcut
 have hd1 : ∀ ad, (if c = 1 then some (⟨ab, ao, asp⟩ : Addr) else (some (⟨ab, ao, asp⟩ : Addr)).map (·.add (1 * k91.sz))) = some ad → ad.block ≠ g ∧ ad.block < bd := by
  intro ad h
  split at h
  ·obtain rfl := Option.some.inj h; exact HA.out
  ·obtain rfl := Option.some.inj h; rw [add_block]; exact HA.out
 change ∀ W : World, (Instr.slice 62 (.slice (some ⟨ab, ao, asp⟩) (l.length + 1) c) (some (.int .i64 1)) none none).run Tryd.prog W = .ok (.slice (if c = 1 then some (⟨ab, ao, asp⟩ : Addr) else (some (⟨ab, ao, asp⟩ : Addr)).map (·.add (1 * k91.sz))) l.length (c - 1)) W at hcut
 change Kd.C k91 w (if c = 1 then some (⟨ab, ao, asp⟩ : Addr) else (some (⟨ab, ao, asp⟩ : Addr)).map (·.add (1 * k91.sz))) l.length l at hd0
 generalize (if c = 1 then some (⟨ab, ao, asp⟩ : Addr) else (some (⟨ab, ao, asp⟩ : Addr)).map (·.add (1 * k91.sz))) = A' at hcut hd0 hd1
 have HD := sd hd0
 have HD1 := sd hd1
 have HCP := sd hcap
 have HM := sd hmx
 have HK := sd hK
 have HX := sd hx
 have hks : (ks.length : Int) ≤ 9223372036854775807 := by have := hK.2.1; omega
 rw [show (x :: l).length = l.length + 1 from rfl] at hc hlen
 clear hC hA hP hK hx hmx HC hd0 hd1 hcap hgb
 go_enter Tryd.func51, Tryd.ntmps51
 go_wp2_with fail
 go_loop [22] (fun v => ∃ i : Nat, v = .int .i64 i ∧ i ≤ ks.length ∧ Aside0 (∀ j, j < i → ks.getD j 0 ≠ x.f0)) (fun v => ks.length - (intOf v).toNat)
 case atStart => exact ⟨0, by go_num, Nat.zero_le _, ⟨fun j hj => absurd hj (Nat.not_lt_zero _)⟩⟩
 case round =>
  obtain ⟨i, rfl, hi, HN⟩ := hrel
  by_cases hlt2 : i < ks.length
  ·obtain ⟨kb, rfl, hk⟩ := HK.out.at_ (i : Int) (by omega) (by omega)
   simp only [Int.toNat_natCast] at hk
   have hkl := lt_of_cell hk
   obtain ⟨kv, hkv⟩ : ∃ kv, rd ks (i : Int) = kv := ⟨_, rfl⟩
   rw [hkv] at hk
   have hb1 : (0 : Int) ≤ (i : Int) ∧ (i : Int) < (ks.length : Int) := by omega
   by_cases he : x.f0 = kv
   ·have heb : (x.f0 == kv) = true := beq_iff_eq.mpr he
    clear hkv he
    go_wp2_with fail
    refine bodyPost_ret (v := .agg #[.int .i64 x.f0, .string x.f1, .int .i64 x.f2]) (by simp [results, Tryd.results51, go_sem]) rfl (HP.out _ ⟨kb_alloc (kb_alloc ((KB.refl w g).set_ 0 _) _) _, ?_⟩)
    have hcell : ∃ v, w.cell? ⟨g, 0, none⟩ = some v := ⟨_, hc⟩
    have hP0 : Par bd (w.setCell ⟨g, 0, none⟩ (.slice A' l.length (c - 1))) g l := ⟨A', c - 1, has_same hcell, by have := HCP.out; simp at this; omega, c91_keep HD.out ((KeepBut.refl w g none).set_ 0 _) (fun ad e _ => (HD1.out ad e).1), fun ad e _ => HD1.out ad e, by rw [World.frozen?_setCell]; exact hz, by have := HM.out; simp at this; omega, HGB.out⟩
    exact (hP0.below (below_alloc (Below.refl _ _) _)).below (below_alloc (Below.refl _ _) _)
   have heb : (x.f0 == kv) = false := beq_eq_false_iff_ne.mpr he
   have HN2 : Aside0 (∀ j, j < i + 1 → ks.getD j 0 ≠ x.f0) := ⟨fun j hj => by
    by_cases e : j = i
    ·subst e; unfold rd at hkv; rw [Int.toNat_natCast] at hkv; rw [hkv]; exact fun h => he h.symm
    exact HN.out j (by omega)⟩
   clear hkv he
   go_wp2_with fail
   go_round
   case rel => exact ⟨i + 1, by go_num, by omega, HN2⟩
   case measure => simp [intOf]; omega
  exfalso
  obtain ⟨j, hj, e⟩ := List.getElem_of_mem HX.out
  exact HN.out j (by omega) (by rw [List.getD_eq_getElem?_getD, List.getElem?_eq_getElem hj]; exact e)
theorem next_empty {bd : Nat} (g : Nat) (B : Value) (w : World) (hP : Par bd w g []) :
  Calls Tryd.prog 51 #[.pointer (some ⟨g, 0, none⟩), B] w fun e w' => e = badEnd ∧ Below w.heap.size w w' := by
 have HPost : ∀ W, Below w.heap.size w W → (fun (e : Ending) (w' : World) => e = badEnd ∧ Below w.heap.size w w') badEnd W := fun W hW => ⟨rfl, hW⟩
 generalize (fun (e : Ending) (w' : World) => e = badEnd ∧ Below w.heap.size w w') = Post at HPost ⊢
 have HP := sd HPost
 clear HPost
 obtain ⟨A, c, hc, _⟩ := hP.ex
 rw [show ([] : List S91).length = 0 from rfl] at hc
 have hlt := lt_of_cell hc
 go_enter Tryd.func51, Tryd.ntmps51
 go_wp2_with fail
 simp [bodyPost]
 exact HP.out _ (below_alloc (Below.refl _ _) _)
theorem next_other {bd : Nat} (g : Nat) (x : S91) (l : List S91) (ks : List Int) (B : Option Addr) (kc : Nat) (w : World) (hP : Par bd w g (x :: l)) (hK : ReadsInt w .i64 B ks.length ks) (hx : x.f0 ∉ ks) :
  Calls Tryd.prog 51 #[.pointer (some ⟨g, 0, none⟩), .slice B ks.length kc] w fun e w' => e = badEnd ∧ Below w.heap.size w w' := by
 have HPost : ∀ W, Below w.heap.size w W → (fun (e : Ending) (w' : World) => e = badEnd ∧ Below w.heap.size w w') badEnd W := fun W hW => ⟨rfl, hW⟩
 generalize (fun (e : Ending) (w' : World) => e = badEnd ∧ Below w.heap.size w w') = Post at HPost ⊢
 have HP := sd HPost
 clear HPost
 obtain ⟨A, c, hc, hcap, hC, hA, hz, hmx, hgb⟩ := hP.ex
 have hlt := lt_of_cell hc
 obtain ⟨ad, rfl, h0, h1, h2⟩ := at_T91 hC 0 (by decide) (by simp)
 have hlen : (0 : Int) < ((x :: l).length : Int) := by simp
 have hrd : rd_T91 (x :: l) 0 = x := rfl
 rw [hrd] at h0 h1 h2
 rw [show (0 : Int).toNat * 3 = 0 from rfl, Addr.add_zero'] at h0 h1 h2
 obtain ⟨ab, ao, asp⟩ := ad
 dsimp only at h1 h2
 have hal := lt_of_cell h0
 have HK := sd hK
 have HX := sd hx
 have hks : (ks.length : Int) ≤ 9223372036854775807 := by have := hK.2.1; omega
 rw [show (x :: l).length = l.length + 1 from rfl] at hc hlen
 clear hC hA hP hK hx hmx hcap hgb
 go_enter Tryd.func51, Tryd.ntmps51
 go_wp2_with fail
 go_loop [22] (fun v => ∃ i : Nat, v = .int .i64 i ∧ i ≤ ks.length) (fun v => ks.length - (intOf v).toNat)
 case atStart => exact ⟨0, by go_num, Nat.zero_le _⟩
 case round =>
  obtain ⟨i, rfl, hi⟩ := hrel
  by_cases hlt2 : i < ks.length
  ·obtain ⟨kb, rfl, hk⟩ := HK.out.at_ (i : Int) (by omega) (by omega)
   simp only [Int.toNat_natCast] at hk
   have hkl := lt_of_cell hk
   have hkv : rd ks (i : Int) ∈ ks := by
    unfold rd; rw [Int.toNat_natCast, List.getD_eq_getElem?_getD, List.getElem?_eq_getElem hlt2]; exact List.getElem_mem _
   have he : ¬ x.f0 = rd ks (i : Int) := fun h => HX.out (h ▸ hkv)
   clear hkv
   have hb1 : (0 : Int) ≤ (i : Int) ∧ (i : Int) < (ks.length : Int) := by omega
   have heb : (x.f0 == rd ks (i : Int)) = false := beq_eq_false_iff_ne.mpr he
   clear he
   go_wp2_with fail
   go_round
   case rel => exact ⟨i + 1, by go_num, by omega⟩
   case measure => simp [intOf]; omega
  go_wp2_with fail
  simp [bodyPost]
  exact HP.out _ (below_alloc (below_alloc (Below.refl _ _) _) _)
def pnum (l : List S91) : Option (Option (Int × List S91)) := match l with
 | [] => some none
 | x :: l => if x.f0 = 2 then (num_Parse.f x.f1 0 365).bind fun r => if r.2 = 0 then some (some (r.1, l)) else some none else some none
def NumPost (bd : Nat) (w : World) (g : Nat) (r : Option (Int × List S91)) (e : Ending) (w' : World) : Prop := KB w w' g ∧ match r with
 | none => e = badEnd
 | some p => e = .returned (.int .i64 p.1) ∧ Par bd w' g p.2
theorem Par.drewN {bd : Nat} {w : World} {g : Nat} {l : List S91} (h : Par bd w g l) (n : Nat) : Par bd (w.drewN n) g l := h.below (pw_below_drewN (Below.refl _ _) n)
theorem reads_two (w : World) (ks : List Int) (h : ks.length ≤ 9223372036854775807) : ReadsInt (w.alloc (.cells (nums .i64 ks).toArray 3)) .i64 (some ⟨w.heap.size, 0, none⟩) ks.length ks :=
 own_reads' (own_lit w 0 3 .i64 ks (Nat.zero_le _) h)
theorem number_calls {bd : Nat} (g : Nat) (l : List S91) (r : Option (Int × List S91)) (w : World) (hP : Par bd w g l) (h : pnum l = some r) :
  Calls Tryd.prog 52 #[.pointer (some ⟨g, 0, none⟩)] w (NumPost bd w g r) := by
 have hlt : g < w.heap.size := by obtain ⟨A, c, hc, _⟩ := hP.ex; exact lt_of_cell hc
 have HR := reads_two w [2] (by decide)
 have hPw : Par bd (w.alloc (.cells (nums .i64 [2]).toArray 3)) g l := hP.below (below_alloc (Below.refl _ _) _)
 have hK0 : KB w (w.alloc (.cells (nums .i64 [2]).toArray 3)) g := kb_alloc (KB.refl _ _) _
 rw [show (nums .i64 [2]).toArray = #[.int .i64 2] from rfl] at HR hPw hK0
 have HW := sd hPw
 have HRR := sd HR
 have HK := sd hK0
 have hfd : ∀ (a c : Int) (s : ByteArray) (w : World), (Instr.field 91 (.agg #[.int .i64 a, .string s, .int .i64 c]) 1).run Tryd.prog w = .ok (.string s) w := fun _ _ _ _ => by kernel_rfl
 clear hPw HR hK0 hP
 match l, h with
 | [], h =>
  have HN := sd (next_empty g (.slice (some ⟨w.heap.size, 0, none⟩) 1 1) _ HW.out)
  obtain rfl := Option.some.inj h
  generalize hQ : NumPost bd w g none = Post
  have HP : Aside0 (∀ W, KB w W g → Post badEnd W) := ⟨fun W hW => by rw [← hQ]; exact ⟨hW, rfl⟩⟩
  clear hQ
  go_enter Tryd.func52, Tryd.ntmps52
  go_wp2_with fail
  refine (HN.out).mono ?_
  unfold badEnd
  rintro e w' ⟨rfl, hb⟩
  have HB := sd hb
  clear hb
  go_wp2_with fail
  simp only [bodyPost]
  exact ⟨trivial, HP.out _ (HK.out.trans (KB.of_below HB.out g))⟩
 | x :: l, h =>
  simp only [pnum] at h
  by_cases hk : x.f0 = 2
  ·rw [if_pos hk] at h
   replace h := Option.bind_eq_some_iff.mp h
   obtain ⟨⟨n, e⟩, hn, h⟩ := h
   dsimp only at h
   have HC := sd (fun W => num_Parse.calls x.f1 0 365 n e W hn)
   have HN := sd (next_some g x l [2] _ 1 _ HW.out HRR.out (by rw [hk]; simp))
   rw [show [(2 : Int)].length = 1 from rfl] at HN
   clear hn
   by_cases he : e = 0
   ·rw [if_pos he] at h
    subst he
    obtain rfl := Option.some.inj h
    generalize hQ : NumPost bd w g (some (n, l)) = Post
    have HP : Aside0 (∀ W, KB w W g → Par bd W g l → Post (.returned (.int .i64 n)) W) := ⟨fun W hW hW2 => by rw [← hQ]; exact ⟨hW, rfl, hW2⟩⟩
    clear hQ
    go_enter Tryd.func52, Tryd.ntmps52
    go_wp2_with fail
    refine (HN.out).mono ?_
    rintro e w' ⟨rfl, hb, hp⟩
    have HB := sd hb
    have HPr := sd hp
    clear hb hp
    go_wp2_with fail
    refine (HC.out _).mono ?_
    rintro e w'' ⟨rfl, nd, rfl⟩
    go_wp2_with fail
    (try go_ret)
    exact HP.out _ (HK.out.trans (kb_drewN HB.out _)) (HPr.out.drewN _)
   rw [if_neg he] at h
   have heb : (e != 0) = true := bne_iff_ne.mpr he
   clear he
   obtain rfl := Option.some.inj h
   generalize hQ : NumPost bd w g none = Post
   have HP : Aside0 (∀ W, KB w W g → Post badEnd W) := ⟨fun W hW => by rw [← hQ]; exact ⟨hW, rfl⟩⟩
   clear hQ
   go_enter Tryd.func52, Tryd.ntmps52
   go_wp2_with fail
   refine (HN.out).mono ?_
   rintro e w' ⟨rfl, hb, hp⟩
   have HB := sd hb
   clear hb hp
   go_wp2_with fail
   refine (HC.out _).mono ?_
   rintro e w'' ⟨rfl, nd, rfl⟩
   go_wp2_with fail
   simp only [bodyPost]
   exact ⟨trivial, HP.out _ (HK.out.trans (kb_drewN HB.out _))⟩
  rw [if_neg hk] at h
  have HN := sd (next_other g x l [2] _ 1 _ HW.out HRR.out (by simpa using hk))
  rw [show [(2 : Int)].length = 1 from rfl] at HN
  clear hk
  obtain rfl := Option.some.inj h
  generalize hQ : NumPost bd w g none = Post
  have HP : Aside0 (∀ W, KB w W g → Post badEnd W) := ⟨fun W hW => by rw [← hQ]; exact ⟨hW, rfl⟩⟩
  clear hQ
  go_enter Tryd.func52, Tryd.ntmps52
  go_wp2_with fail
  refine (HN.out).mono ?_
  unfold badEnd
  rintro e w' ⟨rfl, hb⟩
  have HB := sd hb
  clear hb
  go_wp2_with fail
  simp only [bodyPost]
  exact ⟨trivial, HP.out _ (HK.out.trans (KB.of_below HB.out g))⟩
theorem goesP_ {P : Program} {ops : Array Oper} {Q : Exit → Act → World → Prop} {oi : Oper} {N : Option Tmp} {a : Act} {w : World} {K : Act → World → Prop} {f : FuncId} {fn : Func} {as_ : Array Operand} {ts : Array TypeId} (hf : P.funcs[f]? = some fn) (hname : (fn.name == "runtime.NumGoroutine") = false) (hb : fn.body.isSome = true) (args : Array Value)
  (hw : Region.wanted oi (yielded ops a.tmps) = true) (hN : oi.dst = N) (hop : oi.op = .call { callee := .value (.func f), args := as_, argTypes := ts }) (hargs : as_.map a.eval = args)
  (h : Calls P f args w fun e w' => (∃ v, e = .returned v ∧ K (a.put N v) w') ∨ ∃ c, e = .panicked c ∧ Q (.panic c) a w') : if Region.wanted oi (yielded ops a.tmps) = true then Oper.wp P oi a w K Q else K (a.put N undef) w := by
 have hrun : (execOp a.eval oi).run P w = .ok (.enter f args) w := by
  have he := enters_ hf hname hb args w
  unfold execOp
  simp [hop, resolve, Deferred.ofValue, invoke, Act.eval, hargs, he]
 rw [if_pos hw]
 subst hN
 unfold Oper.wp
 rw [hrun, Oper.upon_enter]
 refine h.mono fun e w'' hh => ?_
 rcases hh with ⟨v, rfl, hk⟩ | ⟨c, rfl, hk⟩
 ·exact hk
 ·exact hk
def netL : List UInt8 := [110, 101, 116]
def eomL : List UInt8 := [101, 111, 109]
def pterms : Nat → List S91 → List S53 → Option (Option (Int × Bool × List S53))
 | 0, _, _ => none
 | _ + 1, [], _ => some none
 | k + 1, x :: l, cs =>
  if x.f0 = 1 then (if x.f1.toList = netL ∨ x.f1.toList = eomL then (if l.length = 1 then (pnum l).map (fun r => r.map fun p => (p.1, x.f1.toList == eomL, cs)) else some none) else some none)
  else if x.f0 = 2 then (frac_Parse.f k x.f1).bind fun f => if f.2.2 = 0 then (pnum l).bind fun r => match r with
   | none => some none
   | some p => if cs.length < 5864062014805 then pterms k p.2 (cs ++ [⟨p.1, ⟨f.1, f.2.1⟩⟩]) else none
   else some none
  else some none
def TermsPost (w : World) (g : Nat) (r : Option (Int × Bool × List S53)) (e : Ending) (w' : World) : Prop := KB w w' g ∧ match r with
 | none => e = badEnd
 | some p => ∃ v : Value, e = .returned (.agg #[.int .i64 p.1, .bool p.2.1, v]) ∧ Kd.R k53 53 w' w.heap.size (fun _ => True) v p.2.2
end Go.Proofs.YtelfiofnhchmbaaDoor.A
