-- By gen.py, a program of this session's, over the print's forms: not the print's own text.
import Derived.Test.YtoenhagbgfkihaaAx0
import Derived.Test.YtoenhagbgfkihaaQ
import Derived.Test.YtoenhagbgfkihaaAx6
namespace Go.Proofs.Ytoenhagbgfkihaa.A
open Go.RowKit Go.Proofs.Ytoenhagbgfkihaa.B Go.Proofs.YtoenhagbgfkihaaW.PrintWords Go.Proofs.YtoenhagbgfkihaaW.PrintLast Go.Proofs.YtoenhagbgfkihaaW.PrintMore
attribute [local go_sem] max2_int min2_int max_two min_two max_three min_three max_four min_four   -- for this text's walks alone
set_option linter.unusedVariables false
set_option linter.unusedSimpArgs false

/-! ### frac_digits_div: function 66 -/
mutual
def frac_digits_div.l0 : Nat → List Int → Int → List Int → List Int → Int → Int → Option (Int × List Int × Bool)
 | 0, _, _, _, _, _, _ => none
 | k + 1, x1, x4, x5, x10, x11, x12 => if x12 < x11 then (if 0 ≤ x12 then (if x12 < (x10.length : Int) then (if 0 ≤ (wrap64 ((x5.length : Int) + 1)) then (if (wrap64 ((x5.length : Int) + 1) : Int).toNat ≤ 281474976710656 then ((some (List.replicate 0 0 : List Int)).bind fun y166 => (if y166.length + x5.length < 140737488355328 then ((some (y166 ++ x5 : List Int)).bind fun y169 => (if y169.length < 140737488355328 then ((frac_digits_trim.f k (y169 ++ [rd x10 x12])).bind fun t175 => (frac_digits_div.l1 k x1 (wrap64 (x4 * 10)) t175 x10 x11 x12)) else (none))) else (none))) else (none)) else (none)) else (none)) else (none)) else (some (x4, x5, true))
def frac_digits_div.l1 : Nat → List Int → Int → List Int → List Int → Int → Int → Option (Int × List Int × Bool)
 | 0, _, _, _, _, _, _ => none
 | k + 1, x1, x4, x5, x10, x11, x12 => (frac_digits_less.f x5 x1).bind fun t178 => (if t178 = true then (if x4 > 1000000 then (some (0, ([] : List Int), false)) else (frac_digits_div.l0 k x1 x4 x5 x10 x11 (wrap64 (x12 + 1)))) else ((frac_digits_minus.f k x5 x1).bind fun t179 => (frac_digits_div.l1 k x1 (wrap64 (x4 + 1)) t179 x10 x11 x12)))
end
def frac_digits_div.f (k : Nat) (l0 : List Int) (l1 : List Int) : Option (Int × List Int × Bool) := frac_digits_div.l0 k l1 0 ([] : List Int) l0 (l0.length : Int) 0
theorem frac_digits_div.mono_l : ∀ k, (∀ y0 y1 y2 y3 y4 y5, LeO (frac_digits_div.l0 k y0 y1 y2 y3 y4 y5) (frac_digits_div.l0 (k + 1) y0 y1 y2 y3 y4 y5)) ∧ (∀ y0 y1 y2 y3 y4 y5, LeO (frac_digits_div.l1 k y0 y1 y2 y3 y4 y5) (frac_digits_div.l1 (k + 1) y0 y1 y2 y3 y4 y5))
 | 0 => ⟨fun _ _ _ _ _ _ r h => by simp [frac_digits_div.l0] at h, fun _ _ _ _ _ _ r h => by simp [frac_digits_div.l1] at h⟩
 | k + 1 => by
  obtain ⟨ih0, ih1⟩ := frac_digits_div.mono_l k
  refine ⟨?_, ?_⟩
  ·intro y0 y1 y2 y3 y4 y5
   unfold frac_digits_div.l0
   repeat' first
   | (with_reducible exact ih0 _ _ _ _ _ _)
   | (with_reducible exact ih1 _ _ _ _ _ _)
   | (with_reducible exact frac_digits_minus.mono _ _ _)
   | (with_reducible exact frac_digits_trim.mono _ _)
   | (with_reducible exact LeO.refl _)
   | (with_reducible exact LeO.none _)
   | (with_reducible refine LeO.ite ?_ ?_)
   | (with_reducible refine LeO.bind ?_ (fun _ => ?_))
   | exact ih0 _ _ _ _ _ _
   | exact ih1 _ _ _ _ _ _
   | exact frac_digits_minus.mono _ _ _
   | exact frac_digits_trim.mono _ _
   | exact LeO.none _
   | refine LeO.ite ?_ ?_
   | refine LeO.bind ?_ (fun _ => ?_)
  ·intro y0 y1 y2 y3 y4 y5
   unfold frac_digits_div.l1
   repeat' first
   | (with_reducible exact ih0 _ _ _ _ _ _)
   | (with_reducible exact ih1 _ _ _ _ _ _)
   | (with_reducible exact frac_digits_minus.mono _ _ _)
   | (with_reducible exact frac_digits_trim.mono _ _)
   | (with_reducible exact LeO.refl _)
   | (with_reducible exact LeO.none _)
   | (with_reducible refine LeO.ite ?_ ?_)
   | (with_reducible refine LeO.bind ?_ (fun _ => ?_))
   | exact ih0 _ _ _ _ _ _
   | exact ih1 _ _ _ _ _ _
   | exact frac_digits_minus.mono _ _ _
   | exact frac_digits_trim.mono _ _
   | exact LeO.none _
   | refine LeO.ite ?_ ?_
   | refine LeO.bind ?_ (fun _ => ?_)
theorem frac_digits_div.mono : ∀ a0 a1 k, LeO (frac_digits_div.f k a0 a1) (frac_digits_div.f (k + 1) a0 a1) := by
 intro a0 a1 k
 obtain ⟨ih0, ih1⟩ := frac_digits_div.mono_l k
 unfold frac_digits_div.f
 repeat' first
   | (with_reducible exact ih0 _ _ _ _ _ _)
   | (with_reducible exact ih1 _ _ _ _ _ _)
   | (with_reducible exact frac_digits_minus.mono _ _ _)
   | (with_reducible exact frac_digits_trim.mono _ _)
   | (with_reducible exact LeO.refl _)
   | (with_reducible exact LeO.none _)
   | (with_reducible refine LeO.ite ?_ ?_)
   | (with_reducible refine LeO.bind ?_ (fun _ => ?_))
   | exact ih0 _ _ _ _ _ _
   | exact ih1 _ _ _ _ _ _
   | exact frac_digits_minus.mono _ _ _
   | exact frac_digits_trim.mono _ _
   | exact LeO.none _
   | refine LeO.ite ?_ ?_
   | refine LeO.bind ?_ (fun _ => ?_)
set_option maxHeartbeats 8000000 in
set_option maxRecDepth 100000 in
theorem frac_digits_div.calls (k : Nat) (A0 : Option Addr) (c0 : Nat) (l0 : List Int) (A1 : Option Addr) (c1 : Nat) (l1 : List Int) (r1 : Int) (r2 : List Int) (r3 : Bool) (w : World) (hr0 : Kd.C (Kd.int .u8) w A0 l0.length l0) (hc0 : l0.length ≤ c0) (hr1 : Kd.C (Kd.int .u8) w A1 l1.length l1) (hc1 : l1.length ≤ c1) (h : frac_digits_div.f k l0 l1 = some (r1, r2, r3)) :
  Calls Try.prog 66 #[.slice A0 l0.length c0, .slice A1 l1.length c1] w fun e w' => ∃ v1_ : Value, e = .returned (.tuple #[.int .i64 r1, v1_, .bool r3]) ∧ Kd.V (Kd.int .u8) 5 w' w.heap.size (fun k_ => (w.heap.size ≤ k_)) v1_ r2 ∧ Below w.heap.size w w' := by
 have HR0 := Aside0.mk hr0
 have HC0 := Aside0.mk hc0
 clear hr0 hc0
 have HR1 := Aside0.mk hr1
 have HC1 := Aside0.mk hc1
 clear hr1 hc1
 have HB := Aside0.mk (Below.refl w.heap.size w)
 have H : (frac_digits_div.l0 k l1 0 ([] : List Int) l0 (l0.length : Int) 0) = some (r1, r2, r3) := h
 clear h
 have H' := Aside0.mk H
 clear H
 go_enter Try.func66, Try.ntmps66
 go_wp2
 go_loopg [4, 5, 12] k (fun kq v4 v5 v12 w' => ∃ (x4_1 : Int) (x5_1 : List Int) (x12_1 : Int), v4 = .int .i64 x4_1 ∧ v12 = .int .i64 x12_1 ∧ Aside0 (frac_digits_div.l0 kq l1 x4_1 x5_1 l0 (l0.length : Int) x12_1 = some (r1, r2, r3)) ∧ Aside0 (kq ≤ k) ∧ Aside0 (Kd.V (Kd.int .u8) 5 w' w.heap.size (fun k_ => (w.heap.size ≤ k_)) v5 x5_1) ∧ Aside0 (Below w.heap.size w w'))
 case atStart => exact ⟨(0), (([] : List Int)), (0), q9, q9, H', ⟨Nat.le_refl _⟩, ⟨Kd.R_V (base := 0) q80⟩, ⟨q11⟩⟩
 case round =>
  clear H'
  try clear c1
  try clear p2
  obtain ⟨x4_1, x5_1, x12_1, rfl, rfl, HA, HK1, HO_5, HB⟩ := hrel
  cases gk with
  | zero => exact absurd HA.out (by simp [frac_digits_div.l0])
  | succ k1 =>
   have H := HA.out
   clear HA
   simp only [frac_digits_div.l0] at H
   by_cases c3 : x12_1 < (l0.length : Int)
   ·rw [if_pos c3] at H
    have c3b0 : decide (x12_1 < (l0.length : Int)) = true := decide_eq_true c3
    clear c3
    by_cases c4 : 0 ≤ x12_1
    ·rw [if_pos c4] at H
     have c4b0 : decide (0 ≤ x12_1) = true := decide_eq_true c4
     clear c4
     by_cases c5 : x12_1 < (l0.length : Int)
     ·rw [if_pos c5] at H
      have c5b0 : decide (x12_1 < (l0.length : Int)) = true := decide_eq_true c5
      clear c5
      obtain ⟨ji6, hji6⟩ : ∃ j_ : Int, (wrap64 ((x5_1.length : Int) + 1)) = j_ := ⟨_, rfl⟩
      replace H : (if 0 ≤ (ji6) then (if (ji6 : Int).toNat ≤ 281474976710656 then ((some (List.replicate 0 0 : List Int)).bind fun y166 => (if y166.length + x5_1.length < 140737488355328 then ((some (y166 ++ x5_1 : List Int)).bind fun y169 => (if y169.length < 140737488355328 then ((frac_digits_trim.f k1 (y169 ++ [rd l0 x12_1])).bind fun t175 => (frac_digits_div.l1 k1 l1 (wrap64 (x4_1 * 10)) t175 l0 (l0.length : Int) x12_1)) else (none))) else (none))) else (none)) else (none)) = some (r1, r2, r3) := by first | (rw [hji6] at H; exact H) | (simp only [hji6] at H ⊢; exact H)
      have hji6w : (IntKind.i64.wrap ((x5_1.length : Int) + 1)) = ji6 := (i64_w _).trans hji6
      by_cases c7 : 0 ≤ (ji6)
      ·rw [if_pos c7] at H
       have c7b0 := eq_true c7
       have c7b1 : decide (0 ≤ (ji6)) = true := decide_eq_true c7
       clear c7
       by_cases c8 : (ji6 : Int).toNat ≤ 281474976710656
       ·rw [if_pos c8] at H
        have c8b0 := eq_true c8
        have c8b1 : decide ((ji6 : Int).toNat ≤ 281474976710656) = true := decide_eq_true c8
        clear c8
        obtain ⟨y166, hy166⟩ : ∃ y_ : List Int, y_ = (List.replicate 0 0) := ⟨_, rfl⟩
        replace H : (if y166.length + x5_1.length < 140737488355328 then ((some (y166 ++ x5_1 : List Int)).bind fun y169 => (if y169.length < 140737488355328 then ((frac_digits_trim.f k1 (y169 ++ [rd l0 x12_1])).bind fun t175 => (frac_digits_div.l1 k1 l1 (wrap64 (x4_1 * 10)) t175 l0 (l0.length : Int) x12_1)) else (none))) else (none)) = some (r1, r2, r3) := by first | (rw [hy166]; with_reducible exact H) | (have H2_ := (Option.bind_some _ _).symm.trans H; rw [hy166]; with_reducible exact H2_) | (have H2_ := (Option.bind_some _ _).symm.trans H; with_reducible exact H2_) | with_reducible exact H | (rw [hy166]; exact H) | exact H
        have Ny166 := Aside0.mk hy166
        clear hy166
        by_cases c9 : y166.length + x5_1.length < 140737488355328
        ·rw [if_pos c9] at H
         have LMc9 := Aside0.mk c9
         clear c9
         obtain ⟨y169, hy169⟩ : ∃ y_ : List Int, y_ = (y166 ++ x5_1) := ⟨_, rfl⟩
         replace H : (if y169.length < 140737488355328 then ((frac_digits_trim.f k1 (y169 ++ [rd l0 x12_1])).bind fun t175 => (frac_digits_div.l1 k1 l1 (wrap64 (x4_1 * 10)) t175 l0 (l0.length : Int) x12_1)) else (none)) = some (r1, r2, r3) := by first | (rw [hy169]; with_reducible exact H) | (have H2_ := (Option.bind_some _ _).symm.trans H; rw [hy169]; with_reducible exact H2_) | (have H2_ := (Option.bind_some _ _).symm.trans H; with_reducible exact H2_) | with_reducible exact H | (rw [hy169]; exact H) | exact H
         have Ny169 := Aside0.mk hy169
         clear hy169
         by_cases c10 : y169.length < 140737488355328
         ·rw [if_pos c10] at H
          have LMc10 := Aside0.mk c10
          clear c10
          obtain ⟨y172, hy172⟩ : ∃ y_ : List Int, y_ = (y169 ++ [rd l0 x12_1]) := ⟨_, rfl⟩
          replace H : ((frac_digits_trim.f k1 y172).bind fun t175 => (frac_digits_div.l1 k1 l1 (wrap64 (x4_1 * 10)) t175 l0 (l0.length : Int) x12_1)) = some (r1, r2, r3) := by first | (rw [hy172]; with_reducible exact H) | (have H2_ := (Option.bind_some _ _).symm.trans H; rw [hy172]; with_reducible exact H2_) | (have H2_ := (Option.bind_some _ _).symm.trans H; with_reducible exact H2_) | with_reducible exact H | (rw [hy172]; exact H) | exact H
          have Ny172 := Aside0.mk hy172
          clear hy172
          replace H := Option.bind_eq_some_iff.mp H
          obtain ⟨t175, A110, H⟩ := H
          replace H : (frac_digits_div.l1 k1 l1 (wrap64 (x4_1 * 10)) t175 l0 (l0.length : Int) x12_1) = some (r1, r2, r3) := H
          have A11 := Aside0.mk A110
          clear A110
          have H' := Aside0.mk H
          clear H
          have p165 : 0 ≤ (x12_1 : Int) := of_decide_eq_true q78
          have q165 : x12_1 < (l0.length : Int) := of_decide_eq_true q78
          obtain ⟨ad165, e165, hx165_0⟩ := Kd.at_int HR0.out x12_1 p165 q165
          cases e165
          replace hx165_0 := (HB.out.cell (World.block_lt_of_cell? w _ hx165_0)).trans hx165_0
          replace p165 := eq_true p165
          replace q165 := eq_true q165
          obtain ⟨Ao12, co12, eo12⟩ := Kd.V_slice HO_5.out
          subst eo12
          go_wp2_with (first | ((with_reducible refine gate_dst (N := 19) rfl ?_); refine Kd.R_make0 (Kd.int .u8) _ 5 rfl (N := 19) rfl 56 _ _ rfl ji6 rfl rfl Try.underlying56 (.int .u8 0) 1 info5 rfl (by decide) (by omega) 0 (ok := fun _ => True) (okp := fun _ => True) rfl (fun _ hk => hk) trivial (of_decide_eq_true q78) (Nat.le_trans (Nat.mul_le_mul_right _ (of_decide_eq_true q78 : ji6.toNat ≤ 281474976710656)) (by omega)) (Below.refl _ _) (Nat.le_refl _) ?_; intro v167 w13 ho14 hb hg_ hnew_; clear hg_ hnew_; (first | rw [← Ny166.out] at ho14 | (simp only [Int.reduceToNat] at ho14; rw [← Ny166.out] at ho14)); have n0_ := Aside0.mk (Kd.V_elder' q199 (Kd.R_base ho14) hb); have n1_ := Aside0.mk (Kd.R_lower (Kd.R_newM (M := fun k_ => (w.heap.size ≤ k_)) ho14 (below_size q11) (fun k_ h_ => h_)) (below_size q11)); have n2_ := Aside0.mk (below_step q11 hb); clear HO_5; clear HB; have HO_5 := n0_; have HO168 := n1_; have HB := n2_; clear n0_ n1_ n2_; clear hb ho14) | ((with_reducible refine gate_builtin (b := .append) (xs := #[.tmp 20, .tmp 21]) rfl ?_); at_builtin; refine Kd.R_append_rows (Kd.int .u8) (w0 := w) w.heap.size rfl (.tmp 20) (.tmp 21) 56 5 (.int .u8 0) 1 rfl Try.underlying56 info5 rfl (by decide) (by omega) v167 y166 x5_1 _ _ _ (fun k_ => (w.heap.size ≤ k_)) (fun _ => False) rfl rfl ?aO ?aR (fun _ _ h => h) (fun _ h => h.elim) ?aF ?aB ?aS ?aL ?_; (case aR => repeat (first | exact (Kd.V_reads' HO_5.out).2.2 | (with_reducible refine Kd.C_alloc ?_ _) | (with_reducible refine Kd.C_drewN ?_ _) | (with_reducible refine Kd.C_drew ?_))); (case aB => exact q11); (case aF => exact (fun k_ hk => (Nat.le_trans (below_size q11) hk))); (case aO => exact (by (with_reducible repeat (first | apply Kd.R_alloc | apply Kd.R_drewN | apply Kd.R_drew)); exact Kd.R_mono HO168.out (fun _ hk => hk.1))); (case aS => exact (below_size q11)); (case aL => have := LMc9.out; omega); intro v170 w15 ho hb hg hat; rw [← Ny169.out] at ho; have n0_ := Aside0.mk (Kd.V_afterv (ok := (fun k_ => (w.heap.size ≤ k_))) q199 hg hat); have n1_ := Aside0.mk (hb); have n2_ := Aside0.mk (ho); clear HO_5; clear HB; clear HO168; have HO_5 := n0_; have HB := n1_; have HO171 := n2_; clear n0_ n1_ n2_; clear ho hb hg hat) | ((with_reducible refine gate_builtin (b := .append) (xs := #[.tmp 22, .tmp 24]) rfl ?_); at_builtin; refine Kd.R_append (Kd.int .u8) (w0 := w) w.heap.size rfl (.tmp 22) (.tmp 24) 56 5 (.int .u8 0) 1 rfl Try.underlying56 info5 rfl (by decide) (by omega) v170 y169 (rd l0 x12_1) [.int .u8 (rd l0 x12_1)] (fun k_ => (w.heap.size ≤ k_)) (fun _ => False) rfl rfl ?aP (fun _ hk => hk.elim) ?aF ?aO ?aB ?aS ?aL ?_; (case aP => exact rfl); (case aB => exact q11); (case aF => exact (fun k_ hk => (Nat.le_trans (below_size q11) hk))); (case aO => exact (by (with_reducible repeat (first | apply Kd.R_alloc | apply Kd.R_drewN | apply Kd.R_drew)); exact HO171.out)); (case aS => exact (below_size q11)); (case aL => have := LMc10.out; omega); intro v173 w16 ho hb hg hat; rw [← Ny172.out] at ho; have n0_ := Aside0.mk (Kd.V_afterv (ok := (fun k_ => (w.heap.size ≤ k_))) q199 hg hat); have n1_ := Aside0.mk (hb); have n2_ := Aside0.mk (ho); clear HO_5; clear HB; clear HO171; have HO_5 := n0_; have HB := n1_; have HO174 := n2_; clear n0_ n1_ n2_; clear ho hb hg hat; obtain ⟨Ao17, co17, eo17⟩ := Kd.R_slice HO174.out; subst eo17) | ((with_reducible refine gate_callee (f := 42) rfl ?_); refine goesL_ (some 26) rfl rfl Try.func42 (by kernel_rfl) rfl #[.slice Ao17 y172.length co17] rfl q20 ?_; (with_reducible refine (frac_digits_trim.calls k1 (fun k_ => some k_ = (.slice Ao17 y172.length co17 : Value).ownBlock) _ _ y172 t175 _ ?side1 A11.out).mono ?_); (case side1 => exact Kd.R_V (Kd.R_tight rfl (HO174.out))); rintro e w18 ⟨v176, rfl, ho0, hb⟩; refine ⟨_, rfl, ?_⟩; have n0_ := Aside0.mk (Kd.V_below q199 hb); have n1_ := Aside0.mk (Kd.R_below (by (with_reducible repeat (first | apply Kd.R_alloc | apply Kd.R_drewN | apply Kd.R_drew)); exact HO174.out) hb); have n2_ := Aside0.mk (Kd.V_lower (Kd.V_mono (ok' := fun k_ => (w.heap.size ≤ k_)) ho0 (fun k_ hk_ => Or.elim hk_ (fun hs_ => ((HO174.out).1 k_ hs_.symm)) (fun hn_ => (Nat.le_trans (below_size q11) hn_)))) (below_size q11)); have n3_ := Aside0.mk (below_step q11 hb); clear HO_5; clear HO174; clear HB; have HO_5 := n0_; have HO174 := n1_; have HO177 := n2_; have HB := n3_; clear n0_ n1_ n2_ n3_; (try clear hb); (try clear hb2); (try clear hk); (try clear hi); (try clear ho0)))
          go_loopg [4, 5] k1 (fun kq v4 v5 w' => ∃ (x4_2 : Int) (x5_2 : List Int), v4 = .int .i64 x4_2 ∧ Aside0 (frac_digits_div.l1 kq l1 x4_2 x5_2 l0 (l0.length : Int) x12_1 = some (r1, r2, r3)) ∧ Aside0 (kq ≤ k1) ∧ Aside0 (Kd.V (Kd.int .u8) 5 w' w.heap.size (fun k_ => (w.heap.size ≤ k_)) v5 x5_2) ∧ Aside0 (Below w.heap.size w w'))
          case atStart => exact ⟨(wrap64 (x4_1 * 10)), (t175), q9, H', ⟨Nat.le_refl _⟩, ⟨by (with_reducible repeat (first | apply Kd.V_alloc | apply Kd.V_drewN | apply Kd.V_drew)); exact HO177.out⟩, ⟨q11⟩⟩
          case round =>
           clear H'
           try clear c1
           try clear p1
           try clear q1
           try clear hx1
           try clear p2
           try clear c3
           try clear c3b0
           try clear c4
           try clear c4b0
           try clear c5
           try clear c5b0
           try clear c6
           try clear p6
           try clear c7
           try clear c7b0
           try clear c7b1
           try clear c8
           try clear c8b0
           try clear c8b1
           try clear c9
           try clear c10
           try clear p16
           try clear q16
           try clear hx16
           try clear hx165_0
           try clear p165
           try clear p2
           try clear q165
           obtain ⟨x4_2, x5_2, rfl, HA, HK2, HO_5, HB⟩ := hrel
           cases gk with
           | zero => exact absurd HA.out (by simp [frac_digits_div.l1])
           | succ k2 =>
            have H := HA.out
            clear HA
            simp only [frac_digits_div.l1] at H
            replace H := Option.bind_eq_some_iff.mp H
            obtain ⟨t178, A190, H⟩ := H
            replace H : (if t178 = true then (if x4_2 > 1000000 then (some (0, ([] : List Int), false)) else (frac_digits_div.l0 k2 l1 x4_2 x5_2 l0 (l0.length : Int) (wrap64 (x12_1 + 1)))) else ((frac_digits_minus.f k2 x5_2 l1).bind fun t179 => (frac_digits_div.l1 k2 l1 (wrap64 (x4_2 + 1)) t179 l0 (l0.length : Int) x12_1))) = some (r1, r2, r3) := H
            have A19 := Aside0.mk A190
            clear A190
            by_cases c20 : t178 = true
            ·subst c20
             have H1 : (if x4_2 > 1000000 then (some (0, ([] : List Int), false)) else (frac_digits_div.l0 k2 l1 x4_2 x5_2 l0 (l0.length : Int) (wrap64 (x12_1 + 1)))) = some (r1, r2, r3) := by rw [if_pos rfl] at H; exact H
             clear H
             have H := H1
             clear H1
             by_cases c21 : x4_2 > 1000000
             ·rw [if_pos c21] at H
              have c21b0 : decide (1000000 < x4_2) = true := decide_eq_true c21
              clear c21
              simp only [Option.some.injEq, Prod.mk.injEq] at H
              obtain ⟨rfl, rfl, rfl⟩ := H
              obtain ⟨Ao22, co22, eo22⟩ := Kd.V_slice HO_5.out
              subst eo22
              go_wp2_with (first | ((with_reducible refine gate_callee (f := 73) rfl ?_); refine goesL_ (some 31) rfl rfl Try.func73 (by kernel_rfl) rfl #[.slice Ao22 x5_2.length co22, .slice A1 l1.length c1] rfl q20 ?_; (with_reducible refine (frac_digits_less.calls _ _ x5_2 _ _ l1 true _ ?side1 ?side2 ?side3 ?side4 A19.out).mono ?_); (case side1 => repeat (first | exact (Kd.V_reads' HO_5.out).2.2 | (with_reducible refine Kd.C_alloc ?_ _) | (with_reducible refine Kd.C_drewN ?_ _) | (with_reducible refine Kd.C_drew ?_))); (case side2 => exact (Kd.V_reads' HO_5.out).2.1); (case side3 => repeat (first | exact (Kd.C_below HR1.out HB.out) | (with_reducible refine Kd.C_alloc ?_ _) | (with_reducible refine Kd.C_drewN ?_ _) | (with_reducible refine Kd.C_drew ?_))); (case side4 => exact HC1.out); rintro e w' ⟨rfl, ⟨nd, rfl⟩⟩; refine ⟨_, rfl, ?_⟩))
              go_ret3
              exact ⟨_, by first | rfl | (simp [errW_none, errW_some] <;> rfl) | (simp only [← hji6]; first | rfl | (simp [errW_none, errW_some] <;> rfl)) | (simp [*, errW_none, errW_some] <;> rfl), Kd.R_V (base := 0) q80, q11⟩
             ·rw [if_neg c21] at H
              have c21b0 : decide (1000000 < x4_2) = false := decide_eq_false c21
              clear c21
              have H' := Aside0.mk H
              clear H
              obtain ⟨Ao23, co23, eo23⟩ := Kd.V_slice HO_5.out
              subst eo23
              go_wp2_with (first | ((with_reducible refine gate_callee (f := 73) rfl ?_); refine goesL_ (some 31) rfl rfl Try.func73 (by kernel_rfl) rfl #[.slice Ao23 x5_2.length co23, .slice A1 l1.length c1] rfl q20 ?_; (with_reducible refine (frac_digits_less.calls _ _ x5_2 _ _ l1 true _ ?side1 ?side2 ?side3 ?side4 A19.out).mono ?_); (case side1 => repeat (first | exact (Kd.V_reads' HO_5.out).2.2 | (with_reducible refine Kd.C_alloc ?_ _) | (with_reducible refine Kd.C_drewN ?_ _) | (with_reducible refine Kd.C_drew ?_))); (case side2 => exact (Kd.V_reads' HO_5.out).2.1); (case side3 => repeat (first | exact (Kd.C_below HR1.out HB.out) | (with_reducible refine Kd.C_alloc ?_ _) | (with_reducible refine Kd.C_drewN ?_ _) | (with_reducible refine Kd.C_drew ?_))); (case side4 => exact HC1.out); rintro e w' ⟨rfl, ⟨nd, rfl⟩⟩; refine ⟨_, rfl, ?_⟩))
              go_roundg k2
              case measure => have := HK1.out; have := HK2.out; omega
              case rel => exact ⟨(x4_2), (x5_2), (wrap64 (x12_1 + 1)), q9, q9, H', ⟨q82⟩, ⟨q199⟩, ⟨q11⟩⟩
            ·replace c20 := Bool.eq_false_iff.mpr c20
             subst c20
             have H1 : ((frac_digits_minus.f k2 x5_2 l1).bind fun t179 => (frac_digits_div.l1 k2 l1 (wrap64 (x4_2 + 1)) t179 l0 (l0.length : Int) x12_1)) = some (r1, r2, r3) := by rw [if_neg (show ¬ (false = true) by decide)] at H; exact H
             clear H
             have H := H1
             clear H1
             replace H := Option.bind_eq_some_iff.mp H
             obtain ⟨t179, A240, H⟩ := H
             replace H : (frac_digits_div.l1 k2 l1 (wrap64 (x4_2 + 1)) t179 l0 (l0.length : Int) x12_1) = some (r1, r2, r3) := H
             have A24 := Aside0.mk A240
             clear A240
             have H' := Aside0.mk H
             clear H
             obtain ⟨Ao25, co25, eo25⟩ := Kd.V_slice HO_5.out
             subst eo25
             go_wp2_with (first | ((with_reducible refine gate_callee (f := 73) rfl ?_); refine goesL_ (some 31) rfl rfl Try.func73 (by kernel_rfl) rfl #[.slice Ao25 x5_2.length co25, .slice A1 l1.length c1] rfl q20 ?_; (with_reducible refine (frac_digits_less.calls _ _ x5_2 _ _ l1 false _ ?side1 ?side2 ?side3 ?side4 A19.out).mono ?_); (case side1 => repeat (first | exact (Kd.V_reads' HO_5.out).2.2 | (with_reducible refine Kd.C_alloc ?_ _) | (with_reducible refine Kd.C_drewN ?_ _) | (with_reducible refine Kd.C_drew ?_))); (case side2 => exact (Kd.V_reads' HO_5.out).2.1); (case side3 => repeat (first | exact (Kd.C_below HR1.out HB.out) | (with_reducible refine Kd.C_alloc ?_ _) | (with_reducible refine Kd.C_drewN ?_ _) | (with_reducible refine Kd.C_drew ?_))); (case side4 => exact HC1.out); rintro e w' ⟨rfl, ⟨nd, rfl⟩⟩; refine ⟨_, rfl, ?_⟩) | ((with_reducible refine gate_callee (f := 74) rfl ?_); refine goesL_ (some 35) rfl rfl Try.func74 (by kernel_rfl) rfl #[.slice Ao25 x5_2.length co25, .slice A1 l1.length c1] rfl q20 ?_; (with_reducible refine (frac_digits_minus.calls k2 _ _ x5_2 _ _ l1 t179 _ ?side1 ?side2 ?side3 ?side4 A24.out).mono ?_); (case side1 => repeat (first | exact (Kd.V_reads' HO_5.out).2.2 | (with_reducible refine Kd.C_alloc ?_ _) | (with_reducible refine Kd.C_drewN ?_ _) | (with_reducible refine Kd.C_drew ?_))); (case side2 => exact (Kd.V_reads' HO_5.out).2.1); (case side3 => repeat (first | exact (Kd.C_below HR1.out q11) | (with_reducible refine Kd.C_alloc ?_ _) | (with_reducible refine Kd.C_drewN ?_ _) | (with_reducible refine Kd.C_drew ?_))); (case side4 => exact HC1.out); rintro e w26 ⟨v180, rfl, ho0, hb⟩; refine ⟨_, rfl, ?_⟩; have n0_ := Aside0.mk (Kd.V_below q199 hb); have n1_ := Aside0.mk (Kd.V_lower (Kd.V_mono (ok' := fun k_ => (w.heap.size ≤ k_)) ho0 (fun k_ hk_ => (Nat.le_trans (below_size q11) hk_))) (below_size q11)); have n2_ := Aside0.mk (below_step q11 hb); clear HO_5; clear HB; have HO_5 := n0_; have HO181 := n1_; have HB := n2_; clear n0_ n1_ n2_; (try clear hb); (try clear hb2); (try clear hk); (try clear hi); (try clear ho0)))
             go_roundg k2
             case measure => have := HK1.out; have := HK2.out; omega
             case rel => exact ⟨(wrap64 (x4_2 + 1)), (t179), q9, H', ⟨q82⟩, ⟨by (with_reducible repeat (first | apply Kd.V_alloc | apply Kd.V_drewN | apply Kd.V_drew)); exact HO181.out⟩, ⟨q11⟩⟩
         ·rw [if_neg c10] at H
          exact absurd H (by simp)
        ·rw [if_neg c9] at H
         exact absurd H (by simp)
       ·rw [if_neg c8] at H
        exact absurd H (by simp)
      ·rw [if_neg c7] at H
       exact absurd H (by simp)
     ·rw [if_neg c5] at H
      exact absurd H (by simp)
    ·rw [if_neg c4] at H
     exact absurd H (by simp)
   ·rw [if_neg c3] at H
    have c3b0 : decide (x12_1 < (l0.length : Int)) = false := decide_eq_false c3
    clear c3
    simp only [Option.some.injEq, Prod.mk.injEq] at H
    obtain ⟨rfl, rfl, rfl⟩ := H
    go_wp2
    go_ret3
    exact ⟨_, q13, q199, q11⟩

/-! ### frac_reduce: function 43 (by hand) -/
def frac_reduce.l0 : Nat → List Int → List Int → Int → Int → Int → Int → Option (Int × Int × Bool)
 | 0, _, _, _, _, _, _ => none
 | k + 1, a, b, b0, b1, l0, l1 => (frac_digits_div.f k a b).bind fun t => if t.2.2 = true then
   (if 1000000 < wrap64 (wrap64 (t.1 * l0) + b0) then some (0, 0, false) else if 1000000 < wrap64 (wrap64 (t.1 * l1) + b1) then some (0, 0, false) else
    if (t.2.1.length : Int) = 0 then some (wrap64 (wrap64 (t.1 * l0) + b0), wrap64 (wrap64 (t.1 * l1) + b1), true) else
     frac_reduce.l0 k b t.2.1 l0 l1 (wrap64 (wrap64 (t.1 * l0) + b0)) (wrap64 (wrap64 (t.1 * l1) + b1)))
   else some (0, 0, false)
def frac_reduce.f (k : Nat) (a b : List Int) : Option (Int × Int × Bool) := frac_reduce.l0 k a b 0 1 1 0
theorem frac_reduce.mono_l : ∀ k, (∀ a b b0 b1 l0 l1, LeO (frac_reduce.l0 k a b b0 b1 l0 l1) (frac_reduce.l0 (k + 1) a b b0 b1 l0 l1))
 | 0 => fun _ _ _ _ _ _ r h => by simp [frac_reduce.l0] at h
 | k + 1 => by
  have ih := frac_reduce.mono_l k
  intro a b b0 b1 l0 l1
  unfold frac_reduce.l0
  refine LeO.bind (frac_digits_div.mono _ _ _) (fun t => ?_)
  refine LeO.ite (LeO.ite (LeO.refl _) (LeO.ite (LeO.refl _) (LeO.ite (LeO.refl _) (ih _ _ _ _ _ _)))) (LeO.refl _)
theorem frac_reduce.mono : ∀ a0 a1 k, LeO (frac_reduce.f k a0 a1) (frac_reduce.f (k + 1) a0 a1) := fun a0 a1 k => by
 unfold frac_reduce.f; exact frac_reduce.mono_l k _ _ _ _ _ _
set_option maxHeartbeats 6400000 in
set_option maxRecDepth 100000 in
theorem frac_reduce.calls (k : Nat) (A0 : Option Addr) (c0 : Nat) (l0 : List Int) (A1 : Option Addr) (c1 : Nat) (l1 : List Int) (r1 r2 : Int) (r3 : Bool) (w : World) (hr0 : Kd.C (Kd.int .u8) w A0 l0.length l0) (hc0 : l0.length ≤ c0) (hr1 : Kd.C (Kd.int .u8) w A1 l1.length l1) (hc1 : l1.length ≤ c1) (h : frac_reduce.f k l0 l1 = some (r1, r2, r3)) :
  Calls Try.prog 43 #[.slice A0 l0.length c0, .slice A1 l1.length c1] w fun e w' => e = .returned (.tuple #[.int .i64 r1, .int .i64 r2, .bool r3]) ∧ Below w.heap.size w w' := by
 unfold frac_reduce.f at h
 have HV0 := Aside0.mk (show Kd.V (Kd.int .u8) 5 w 0 (fun k_ => k_ < w.heap.size) (.slice A0 l0.length c0) l0 from ⟨A0, c0, rfl, hc0, Kd.C_F (Kd.heap_int _) hr0⟩)
 have HV1 := Aside0.mk (show Kd.V (Kd.int .u8) 5 w 0 (fun k_ => k_ < w.heap.size) (.slice A1 l1.length c1) l1 from ⟨A1, c1, rfl, hc1, Kd.C_F (Kd.heap_int _) hr1⟩)
 have H := Aside0.mk h
 clear h hr0 hr1 hc0 hc1
 go_enter Try.func43, Try.ntmps43
 go_wp2_with fail
 go_loopg [0, 1] k (fun kq v0 v1 wr => ∃ (la lb : List Int) (b0 b1 m0 m1 : Int), Aside0 (frac_reduce.l0 kq la lb b0 b1 m0 m1 = some (r1, r2, r3)) ∧ Aside0 (Kd.V (Kd.int .u8) 5 wr 0 (fun k_ => k_ ≠ w.heap.size ∧ k_ ≠ w.heap.size + 1) v0 la) ∧ Aside0 (Kd.V (Kd.int .u8) 5 wr 0 (fun k_ => k_ ≠ w.heap.size ∧ k_ ≠ w.heap.size + 1) v1 lb) ∧ Aside0 (Below w.heap.size w wr) ∧ Aside0 (w.heap.size + 1 < wr.heap.size) ∧
  Aside0 (wr.cell? ⟨w.heap.size, 0, none⟩ = some (.int .i64 b0) ∧ wr.cell? ⟨w.heap.size, 1, none⟩ = some (.int .i64 b1) ∧ wr.cell? ⟨w.heap.size + 1, 0, none⟩ = some (.int .i64 m0) ∧ wr.cell? ⟨w.heap.size + 1, 1, none⟩ = some (.int .i64 m1)) ∧
  Aside0 (wr.frozen? ⟨w.heap.size, 0, none⟩ = false ∧ wr.frozen? ⟨w.heap.size, 1, none⟩ = false ∧ wr.frozen? ⟨w.heap.size + 1, 0, none⟩ = false ∧ wr.frozen? ⟨w.heap.size + 1, 1, none⟩ = false))
 case atStart =>
  refine ⟨l0, l1, 0, 1, 1, 0, H, ⟨Kd.V_mono (Kd.V_below HV0.out (below_alloc (below_alloc (Below.refl _ _) _) _)) (fun k_ hk => ?_)⟩, ⟨Kd.V_mono (Kd.V_below HV1.out (below_alloc (below_alloc (Below.refl _ _) _) _)) (fun k_ hk => ?_)⟩, ⟨below_alloc (below_alloc (Below.refl _ _) _) _⟩, ⟨by simp⟩, ⟨by go_simp, by go_simp, by go_simp, by go_simp⟩, ⟨by go_simp, by go_simp, by go_simp, by go_simp⟩⟩
  ·have : k_ < w.heap.size := hk
   omega
  ·have : k_ < w.heap.size := hk
   omega
 case round =>
  obtain ⟨la, lb, b0, b1, m0, m1, HA, HVa, HVb, HB, HZ, HK, HF⟩ := hrel
  obtain ⟨Aa, ca, ea⟩ := Kd.V_slice HVa.out
  subst ea
  obtain ⟨Ab, cb, eb⟩ := Kd.V_slice HVb.out
  subst eb
  cases gk with
  | zero => exact absurd HA.out (by simp [frac_reduce.l0])
  | succ k1 =>
   have H := HA.out
   clear HA
   rw [frac_reduce.l0] at H
   obtain ⟨⟨q, lr, ok⟩, hdiv, H⟩ := Option.bind_eq_some_iff.mp H
   dsimp only at H
   have HDiv := Aside0.mk hdiv
   have HDV := Aside0.mk (frac_digits_div.calls k1 Aa ca la Ab cb lb q lr ok wr (Kd.V_reads' HVa.out).2.2 (Kd.V_reads' HVa.out).2.1 (Kd.V_reads' HVb.out).2.2 (Kd.V_reads' HVb.out).2.1 hdiv)
   have H' := Aside0.mk H
   clear H hdiv
   go_wp2_with fail
   refine HDV.out.mono ?_
   rintro e w1 ⟨v1, rfl, hV, hb⟩
   obtain ⟨hc1, hf1⟩ := bcell hb
   obtain ⟨k0, k1_, k2, k3⟩ := HK.out
   obtain ⟨f0, f1, f2, f3⟩ := HF.out
   have hz := HZ.out
   have hz1 : w.heap.size + 1 < w1.heap.size := by have := hb.size; omega
   replace k0 := (hc1 _ _ (by omega)).trans k0
   replace k1_ := (hc1 _ _ (by omega)).trans k1_
   replace k2 := (hc1 _ _ (by omega)).trans k2
   replace k3 := (hc1 _ _ (by omega)).trans k3
   replace f0 := (hf1 _ _ (by omega)).trans f0
   replace f1 := (hf1 _ _ (by omega)).trans f1
   replace f2 := (hf1 _ _ (by omega)).trans f2
   replace f3 := (hf1 _ _ (by omega)).trans f3
   have HV1 := Aside0.mk (show Kd.V (Kd.int .u8) 5 w1 0 (fun k_ => k_ ≠ w.heap.size ∧ k_ ≠ w.heap.size + 1) v1 lr from Kd.V_lower (base := wr.heap.size) (Kd.V_mono hV (fun k_ hk => by have : wr.heap.size ≤ k_ := hk; omega)) (Nat.zero_le _))
   have HVb1 := Aside0.mk (Kd.V_below HVb.out hb)
   have HB1 := Aside0.mk (HB.out.trans (hb.mono (by omega)))
   clear hV hb hc1 hf1 HVa HVb HB HK HF HDV HDiv
   obtain ⟨A2, c2, e2⟩ := Kd.V_slice HV1.out
   subst e2
   cases ok
   ·have H2 : some ((0 : Int), (0 : Int), false) = some (r1, r2, r3) := H'.out
    simp only [Option.some.injEq, Prod.mk.injEq] at H2
    obtain ⟨rfl, rfl, rfl⟩ := H2
    clear H'
    go_wp2_with fail
    go_ret3
    exact ⟨rfl, q4⟩
   ·by_cases g1 : 1000000 < wrap64 (wrap64 (q * m0) + b0)
    ·have H2 := H'.out
     rw [if_pos rfl, if_pos g1] at H2
     simp only [Option.some.injEq, Prod.mk.injEq] at H2
     obtain ⟨rfl, rfl, rfl⟩ := H2
     clear H'
     go_wp2_with fail
     go_ret3
     exact ⟨rfl, q4⟩
    by_cases g2 : 1000000 < wrap64 (wrap64 (q * m1) + b1)
    ·have H2 := H'.out
     rw [if_pos rfl, if_neg g1, if_pos g2] at H2
     simp only [Option.some.injEq, Prod.mk.injEq] at H2
     obtain ⟨rfl, rfl, rfl⟩ := H2
     clear H'
     go_wp2_with fail
     go_ret3
     exact ⟨rfl, q4⟩
    by_cases g3 : (lr.length : Int) = 0
    ·have H2 := H'.out
     rw [if_pos rfl, if_neg g1, if_neg g2, if_pos g3] at H2
     simp only [Option.some.injEq, Prod.mk.injEq] at H2
     obtain ⟨rfl, rfl, rfl⟩ := H2
     have g3b : ((lr.length : Int) == 0) = true := beq_iff_eq.mpr g3
     clear H' g3
     go_wp2_with fail
     go_quiet (fail)
     go_wp2_with fail
     go_ret3
     exact ⟨rfl, q4⟩
    ·have H2 := H'.out
     rw [if_pos rfl, if_neg g1, if_neg g2, if_neg g3] at H2
     have g3b : ((lr.length : Int) == 0) = false := beq_eq_false_iff_ne.mpr g3
     have HA := Aside0.mk H2
     clear H' g3 H2
     go_wp2_with fail
     have q0 := fun O : Obj => (World.cell?_alloc_lt w1 O ⟨w.heap.size, 0, none⟩ (show w.heap.size < w1.heap.size by omega)).trans k0
     have q1 := fun O : Obj => (World.cell?_alloc_lt w1 O ⟨w.heap.size, 1, none⟩ (show w.heap.size < w1.heap.size by omega)).trans k1_
     have q2 := fun O : Obj => (World.cell?_alloc_lt w1 O ⟨w.heap.size + 1, 0, none⟩ (show w.heap.size + 1 < w1.heap.size by omega)).trans k2
     have q3 := fun O : Obj => (World.cell?_alloc_lt w1 O ⟨w.heap.size + 1, 1, none⟩ (show w.heap.size + 1 < w1.heap.size by omega)).trans k3
     have p0 := fun O : Obj => (World.frozen?_alloc_old w1 O ⟨w.heap.size, 0, none⟩ (show w.heap.size ≠ w1.heap.size by omega)).trans f0
     have p1 := fun O : Obj => (World.frozen?_alloc_old w1 O ⟨w.heap.size, 1, none⟩ (show w.heap.size ≠ w1.heap.size by omega)).trans f1
     have p2 := fun O : Obj => (World.frozen?_alloc_old w1 O ⟨w.heap.size + 1, 0, none⟩ (show w.heap.size + 1 ≠ w1.heap.size by omega)).trans f2
     have p3 := fun O : Obj => (World.frozen?_alloc_old w1 O ⟨w.heap.size + 1, 1, none⟩ (show w.heap.size + 1 ≠ w1.heap.size by omega)).trans f3
     go_region
     go_wp2_with fail
     go_roundg k1
     case measure => omega
     case rel =>
      refine ⟨lb, lr, m0, m1, _, _, HA, ⟨?_⟩, ⟨?_⟩, ⟨?_⟩, ⟨?_⟩, ⟨(four_cells _ _ _ _ _ _ _ _ _ _ (q0 _) (q1 _) (q2 _) (q3 _))⟩, ⟨(four_marks _ _ _ _ _ _ (p0 _) (p1 _) (p2 _) (p3 _))⟩⟩
      ·exact Kd.V_drew (Kd.V_far (p := ⟨w.heap.size + 1, 1, none⟩) (Kd.V_far (p := ⟨w.heap.size + 1, 0, none⟩) (Kd.V_far (p := ⟨w.heap.size, 1, none⟩) (Kd.V_far (p := ⟨w.heap.size, 0, none⟩) (Kd.V_alloc HVb1.out _) (fun k_ hk => far2 hk (.inl rfl)) _) (fun k_ hk => far2 hk (.inl rfl)) _) (fun k_ hk => far2 hk (.inr rfl)) _) (fun k_ hk => far2 hk (.inr rfl)) _)
      ·exact Kd.V_drew (Kd.V_far (p := ⟨w.heap.size + 1, 1, none⟩) (Kd.V_far (p := ⟨w.heap.size + 1, 0, none⟩) (Kd.V_far (p := ⟨w.heap.size, 1, none⟩) (Kd.V_far (p := ⟨w.heap.size, 0, none⟩) (Kd.V_alloc HV1.out _) (fun k_ hk => far2 hk (.inl rfl)) _) (fun k_ hk => far2 hk (.inl rfl)) _) (fun k_ hk => far2 hk (.inr rfl)) _) (fun k_ hk => far2 hk (.inr rfl)) _)
      ·exact below_drew ((((Below.setCell (below_alloc HB1.out _) (p := ⟨w.heap.size, 0, none⟩) (Nat.le_refl _) _).setCell (p := ⟨w.heap.size, 1, none⟩) (Nat.le_refl _) _).setCell (p := ⟨w.heap.size + 1, 0, none⟩) (Nat.le_succ _) _).setCell (p := ⟨w.heap.size + 1, 1, none⟩) (Nat.le_succ _) _)
      ·simp; omega

end Go.Proofs.Ytoenhagbgfkihaa.A
