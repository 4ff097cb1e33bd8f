-- By gen.py, a program of this session's, over the print's forms: not the print's own text.
import Derived.Test.YtoenhagbgfkihaaAx0
import Derived.Test.YtoenhagbgfkihaaQ
import Derived.Test.YtoenhagbgfkihaaAx1
import Derived.Test.YtoenhagbgfkihaaAx2
import Derived.Test.YtoenhagbgfkihaaAx4
import Derived.Test.YtoenhagbgfkihaaAx8
import Derived.Test.YtoenhagbgfkihaaAx9
namespace Go.Proofs.Ytoenhagbgfkihaa.A
open Go.RowKit Go.Proofs.Ytoenhagbgfkihaa.B Go.Proofs.YtoenhagbgfkihaaW.PrintWords Go.Proofs.YtoenhagbgfkihaaW.PrintLast Go.Proofs.YtoenhagbgfkihaaW.PrintMore
attribute [local go_sem] max2_int min2_int max_two min_two max_three min_three max_four min_four   -- for this text's walks alone
set_option linter.unusedVariables false
set_option linter.unusedSimpArgs false

attribute [local go_sem high] eqA23
/-! ### accountinglaw03_FracRound: function 8 -/
def accountinglaw03_FracRound.j0 : Nat → ByteArray → Int → Int → Int → Option (Bool)
 | 0, _, _, _, _ => none
 | k + 1, x1, x6, x287000, x287001 => (frac_Parse.f k x1).bind fun bt294 => (if bt294.2.2 = 0 then ((frac_Right.f k bt294.1 bt294.2.1).bind fun t298 => (if t298 = true then ((frac_Right.f k x287000 x287001).bind fun t299 => (if ((x6 == 0) == t299) = true then ((accountinglaw03_lives.f).bind fun t300 => (some t300)) else (some false))) else (some false))) else ((frac_Right.f k x287000 x287001).bind fun t301 => (if ((x6 == 0) == t301) = true then ((accountinglaw03_lives.f).bind fun t302 => (some t302)) else (some false))))
def accountinglaw03_FracRound.f (k : Nat) (a0_0 : Int) (a0_1 : Int) (a1 : ByteArray) : Option (Bool) := if (a1.size : Int) > 80 then ((accountinglaw03_lives.f).bind fun t287 => (some t287)) else ((frac_Text.f k a0_0 a0_1).bind fun bt288 => (if bt288.2 = 0 then ((frac_Parse.f k bt288.1).bind fun bt290 => (if (!(bt290.1 == a0_0) || (!(bt290.2.1 == a0_1))) = true then (some false) else (if bt290.2.2 = 0 then (accountinglaw03_FracRound.j0 k a1 bt288.2 a0_0 a0_1) else (some false)))) else (accountinglaw03_FracRound.j0 k a1 bt288.2 a0_0 a0_1)))
theorem accountinglaw03_FracRound.mono_l : ∀ k, (∀ y0 y1 y2 y3, LeO (accountinglaw03_FracRound.j0 k y0 y1 y2 y3) (accountinglaw03_FracRound.j0 (k + 1) y0 y1 y2 y3))
 | 0 => fun _ _ _ _ r h => by simp [accountinglaw03_FracRound.j0] at h
 | k + 1 => by
  have ih0 := accountinglaw03_FracRound.mono_l k
  ·intro y0 y1 y2 y3
   unfold accountinglaw03_FracRound.j0
   repeat' first
   | (with_reducible exact ih0 _ _ _ _)
   | (with_reducible exact frac_Parse.mono _ _)
   | (with_reducible exact frac_Right.mono _ _ _)
   | (with_reducible exact frac_Text.mono _ _ _)
   | (with_reducible exact LeO.refl _)
   | (with_reducible exact LeO.none _)
   | (with_reducible refine LeO.ite ?_ ?_)
   | (with_reducible refine LeO.bind ?_ (fun _ => ?_))
   | exact ih0 _ _ _ _
   | exact frac_Parse.mono _ _
   | exact frac_Right.mono _ _ _
   | exact frac_Text.mono _ _ _
   | exact LeO.none _
   | refine LeO.ite ?_ ?_
   | refine LeO.bind ?_ (fun _ => ?_)
theorem accountinglaw03_FracRound.mono : ∀ a0 a1 a2 k, LeO (accountinglaw03_FracRound.f k a0 a1 a2) (accountinglaw03_FracRound.f (k + 1) a0 a1 a2) := by
 intro a0 a1 a2 k
 have ih0 := accountinglaw03_FracRound.mono_l k
 unfold accountinglaw03_FracRound.f
 repeat' first
   | (with_reducible exact ih0 _ _ _ _)
   | (with_reducible exact frac_Parse.mono _ _)
   | (with_reducible exact frac_Right.mono _ _ _)
   | (with_reducible exact frac_Text.mono _ _ _)
   | (with_reducible exact LeO.refl _)
   | (with_reducible exact LeO.none _)
   | (with_reducible refine LeO.ite ?_ ?_)
   | (with_reducible refine LeO.bind ?_ (fun _ => ?_))
   | exact ih0 _ _ _ _
   | exact frac_Parse.mono _ _
   | exact frac_Right.mono _ _ _
   | exact frac_Text.mono _ _ _
   | exact LeO.none _
   | refine LeO.ite ?_ ?_
   | refine LeO.bind ?_ (fun _ => ?_)
set_option maxHeartbeats 8000000 in
set_option maxRecDepth 100000 in
theorem accountinglaw03_FracRound.calls (k : Nat) (a0_0 : Int) (a0_1 : Int) (a1 : ByteArray) (r : Bool) (w : World) (h : accountinglaw03_FracRound.f k a0_0 a0_1 a1 = some r) :
  Calls Try.prog 8 #[.agg #[.int .i64 a0_0, .int .i64 a0_1], .string a1] w fun e w' => e = .returned (.bool r) ∧ Below w.heap.size w w' := by
 have hu23 := Try.underlying23
 have HB := Aside0.mk (Below.refl w.heap.size w)
 have H : (if (a1.size : Int) > 80 then ((accountinglaw03_lives.f).bind fun t287 => (some t287)) else ((frac_Text.f k a0_0 a0_1).bind fun bt288 => (if bt288.2 = 0 then ((frac_Parse.f k bt288.1).bind fun bt290 => (if (!(bt290.1 == a0_0) || (!(bt290.2.1 == a0_1))) = true then (some false) else (if bt290.2.2 = 0 then (accountinglaw03_FracRound.j0 k a1 bt288.2 a0_0 a0_1) else (some false)))) else (accountinglaw03_FracRound.j0 k a1 bt288.2 a0_0 a0_1)))) = some r := h
 clear h
 by_cases c3 : (a1.size : Int) > 80
 ·rw [if_pos c3] at H
  have c3b0 : decide (80 < (a1.size : Int)) = true := decide_eq_true c3
  have c3b1 : decide (80 < a1.size) = true := decide_eq_true (by omega)
  clear c3
  replace H := Option.bind_eq_some_iff.mp H
  obtain ⟨t287, A40, H⟩ := H
  replace H : (some t287) = some r := H
  have A4 := Aside0.mk A40
  clear A40
  obtain rfl := Option.some.inj H
  go_enter Try.func8, Try.ntmps8
  go_wp2_with (first | ((with_reducible refine gate_dst (N := 2) rfl ?_); refine box_event ?hg (N := 2) ?hd (cs := #[.int .i64 a0_0, .int .i64 a0_1]) (t := 23) ?hr ?_; (case hd => rfl); (case hg => rfl); (case hr => first | (go_simp; done) | (go_simp; rfl)); intro gb286 hg w5 hbox hb; have n0_ := Aside0.mk (below_step q11 hb); have n1_ := Aside0.mk (hbox); have n2_ := Aside0.mk ((q12 : w.heap.size ≤ gb286)); have n3_ := Aside0.mk ((q12 : w.heap.size ≤ gb286)); clear HB; have HB := n0_; have BK286 := n1_; have GW286 := n2_; have GE286 := n3_; clear n0_ n1_ n2_ n3_; clear hb hbox hg) | ((with_reducible refine gate_callee (f := 14) rfl ?_); refine goesL_ (some 14) rfl rfl Try.func14 (by kernel_rfl) rfl #[] rfl q20 ?_; (with_reducible refine (accountinglaw03_lives.calls  t287 _ A4.out).mono ?_); rintro e w6 ⟨rfl, hb⟩; refine ⟨_, rfl, ?_⟩; have n0_ := Aside0.mk (blk_below (g := gb286) (o := .cells #[.int .i64 a0_0, .int .i64 a0_1] 23 (0, 0)) q174 hb); have n1_ := Aside0.mk (below_step q175 hb); clear BK286; clear HB; have BK286 := n0_; have HB := n1_; clear n0_ n1_; (try clear hb); (try clear hb2); (try clear hk); (try clear hi)))
  go_ret
  exact ⟨q13, q175⟩
 ·rw [if_neg c3] at H
  have c3b0 : decide (80 < (a1.size : Int)) = false := decide_eq_false c3
  have c3b1 : decide (80 < a1.size) = false := decide_eq_false (by omega)
  clear c3
  replace H := Option.bind_eq_some_iff.mp H
  obtain ⟨⟨t288, t289⟩, A70, H⟩ := H
  replace H : (if t289 = 0 then ((frac_Parse.f k t288).bind fun bt290 => (if (!(bt290.1 == a0_0) || (!(bt290.2.1 == a0_1))) = true then (some false) else (if bt290.2.2 = 0 then (accountinglaw03_FracRound.j0 k a1 t289 a0_0 a0_1) else (some false)))) else (accountinglaw03_FracRound.j0 k a1 t289 a0_0 a0_1)) = some r := H
  have A7 := Aside0.mk A70
  clear A70
  have HC8 := Aside0.mk H
  clear H
  go_enter Try.func8, Try.ntmps8
  go_upto_if 21 with (first | ((with_reducible refine gate_dst (N := 2) rfl ?_); refine box_event ?hg (N := 2) ?hd (cs := #[.int .i64 a0_0, .int .i64 a0_1]) (t := 23) ?hr ?_; (case hd => rfl); (case hg => rfl); (case hr => first | (go_simp; done) | (go_simp; rfl)); intro gb286 hg w9 hbox hb; have n0_ := Aside0.mk (below_step q11 hb); have n1_ := Aside0.mk (hbox); have n2_ := Aside0.mk ((q12 : w.heap.size ≤ gb286)); have n3_ := Aside0.mk ((q12 : w.heap.size ≤ gb286)); clear HB; have HB := n0_; have BK286 := n1_; have GW286 := n2_; have GE286 := n3_; clear n0_ n1_ n2_ n3_; clear hb hbox hg; have hcz10_0 : w9.cell? ⟨gb286, 0, none⟩ = some (.int .i64 a0_0) := (blk_cell BK286.out 0).trans rfl; have hcz10_1 : w9.cell? ⟨gb286, 1, none⟩ = some (.int .i64 a0_1) := (blk_cell BK286.out 1).trans rfl; have hfz10_0 := blk_frozen BK286.out 0; have hfz10_1 := blk_frozen BK286.out 1) | ((with_reducible refine gate_callee (f := 19) rfl ?_); refine goesL_ (some 17) rfl rfl Try.func19 (by kernel_rfl) rfl #[.agg #[.int .i64 a0_0, .int .i64 a0_1]] rfl q20 ?_; (with_reducible refine (frac_Text.calls k a0_0 a0_1 t288 t289 _ A7.out).mono ?_); rintro e w11 ⟨rfl, hb⟩; refine ⟨_, rfl, ?_⟩; have n0_ := Aside0.mk (blk_below (g := gb286) (o := .cells #[.int .i64 a0_0, .int .i64 a0_1] 23 (0, 0)) q174 hb); have n1_ := Aside0.mk (below_step q175 hb); clear BK286; clear HB; have BK286 := n0_; have HB := n1_; clear n0_ n1_; (try clear hb); (try clear hb2); (try clear hk); (try clear hi)))
  (try simp only [Act.put, List.setIfInBounds_toArray, List.set_cons_zero, List.set_cons_succ])
  go_cut [] (fun wc => ∃ (kq : Nat), Aside0 (accountinglaw03_FracRound.j0 kq a1 t289 a0_0 a0_1 = some r) ∧ Aside0 (kq ≤ k) ∧ Aside0 (wc.heap[gb286]? = some (.cells #[.int .i64 a0_0, .int .i64 a0_1] 23 (0, 0))) ∧ Aside0 (Below w.heap.size w wc))
  case first =>
   have H := HC8.out
   clear HC8
   by_cases c12 : t289 = 0
   ·rw [if_pos c12] at H
    have c12b0 : (t289 == 0) = true := beq_iff_eq.mpr c12
    have c12b1 : (t289 != 0) = false := bne_eq_false_iff_eq.mpr c12
    clear c12
    (first | rw [c12b0] | (simp only [i64_w, i32_w]; rw [c12b0]) | skip)
    replace H := Option.bind_eq_some_iff.mp H
    obtain ⟨⟨t290, t291, t292⟩, A130, H⟩ := H
    replace H : (if (!(t290 == a0_0) || (!(t291 == a0_1))) = true then (some false) else (if t292 = 0 then (accountinglaw03_FracRound.j0 k a1 t289 a0_0 a0_1) else (some false))) = some r := H
    have A13 := Aside0.mk A130
    clear A130
    by_cases c14 : (!(t290 == a0_0) || (!(t291 == a0_1))) = true
    ·rw [if_pos c14] at H
     have c14b0 : (!(t290 == a0_0) || (!(t291 == a0_1))) = true := c14
     clear c14
     obtain rfl := Option.some.inj H
     go_wp2_with (first | ((with_reducible refine gate_callee (f := 21) rfl ?_); refine goesL_ (some 24) rfl rfl Try.func21 (by kernel_rfl) rfl #[.string t288] rfl q20 ?_; (with_reducible refine (frac_Parse.calls k t288 t290 t291 t292 _ A13.out).mono ?_); rintro e w15 ⟨rfl, hb⟩; refine ⟨_, rfl, ?_⟩; have n0_ := Aside0.mk (blk_below (g := gb286) (o := .cells #[.int .i64 a0_0, .int .i64 a0_1] 23 (0, 0)) q174 hb); have n1_ := Aside0.mk (below_step q175 hb); clear BK286; clear HB; have BK286 := n0_; have HB := n1_; clear n0_ n1_; (try clear hb); (try clear hb2); (try clear hk); (try clear hi)) | ((with_reducible refine gate_dst (N := 7) rfl ?_); refine box_event ?hg (N := 7) ?hd (cs := #[.int .i64 0, .int .i64 0]) (t := 23) ?hr ?_; (case hd => rfl); (case hg => rfl); (case hr => first | (go_simp; done) | (go_simp; rfl)); intro gb293 hg w16 hbox hb; have n0_ := Aside0.mk (blk_below (g := gb286) (o := .cells #[.int .i64 a0_0, .int .i64 a0_1] 23 (0, 0)) q174 hb); have n1_ := Aside0.mk (below_step q175 hb); have n2_ := Aside0.mk (hbox); have n3_ := Aside0.mk ((q176 : w.heap.size ≤ gb293)); have n4_ := Aside0.mk ((q176 : w.heap.size ≤ gb293)); have n5_ := Aside0.mk ((q177 : gb286 ≠ gb293)); have n6_ := Aside0.mk ((q178 : gb293 ≠ gb286)); clear BK286; clear HB; have BK286 := n0_; have HB := n1_; have BK293 := n2_; have GW293 := n3_; have GE293 := n4_; have NB286_293 := n5_; have NB293_286 := n6_; clear n0_ n1_ n2_ n3_ n4_ n5_ n6_; clear hb hbox hg; have hnb17 := NB293_286.out; have hnc17 := NB286_293.out; have hcz18_0 : w16.cell? ⟨gb293, 0, none⟩ = some (.int .i64 0) := (blk_cell BK293.out 0).trans rfl; have hcz18_1 : w16.cell? ⟨gb293, 1, none⟩ = some (.int .i64 0) := (blk_cell BK293.out 1).trans rfl; have hfz18_0 := blk_frozen BK293.out 0; have hfz18_1 := blk_frozen BK293.out 1; have hcz19_0 : w16.cell? ⟨gb286, 0, none⟩ = some (.int .i64 a0_0) := (blk_cell BK286.out 0).trans rfl; have hcz19_1 : w16.cell? ⟨gb286, 1, none⟩ = some (.int .i64 a0_1) := (blk_cell BK286.out 1).trans rfl; have hfz19_0 := blk_frozen BK286.out 0; have hfz19_1 := blk_frozen BK286.out 1))
     go_ret
     exact ⟨q13, q179⟩
    ·rw [if_neg c14] at H
     have c14b0 : (!(t290 == a0_0) || (!(t291 == a0_1))) = false := by simpa using c14
     clear c14
     by_cases c20 : t292 = 0
     ·rw [if_pos c20] at H
      have c20b0 : (t292 == 0) = true := beq_iff_eq.mpr c20
      have c20b1 : (t292 != 0) = false := bne_eq_false_iff_eq.mpr c20
      clear c20
      have H' := Aside0.mk H
      clear H
      go_wp2_with (first | ((with_reducible refine gate_callee (f := 21) rfl ?_); refine goesL_ (some 24) rfl rfl Try.func21 (by kernel_rfl) rfl #[.string t288] rfl q20 ?_; (with_reducible refine (frac_Parse.calls k t288 t290 t291 t292 _ A13.out).mono ?_); rintro e w21 ⟨rfl, hb⟩; refine ⟨_, rfl, ?_⟩; have n0_ := Aside0.mk (blk_below (g := gb286) (o := .cells #[.int .i64 a0_0, .int .i64 a0_1] 23 (0, 0)) q174 hb); have n1_ := Aside0.mk (below_step q175 hb); clear BK286; clear HB; have BK286 := n0_; have HB := n1_; clear n0_ n1_; (try clear hb); (try clear hb2); (try clear hk); (try clear hi)) | ((with_reducible refine gate_dst (N := 7) rfl ?_); refine box_event ?hg (N := 7) ?hd (cs := #[.int .i64 0, .int .i64 0]) (t := 23) ?hr ?_; (case hd => rfl); (case hg => rfl); (case hr => first | (go_simp; done) | (go_simp; rfl)); intro gb293 hg w22 hbox hb; have n0_ := Aside0.mk (blk_below (g := gb286) (o := .cells #[.int .i64 a0_0, .int .i64 a0_1] 23 (0, 0)) q174 hb); have n1_ := Aside0.mk (below_step q175 hb); have n2_ := Aside0.mk (hbox); have n3_ := Aside0.mk ((q176 : w.heap.size ≤ gb293)); have n4_ := Aside0.mk ((q176 : w.heap.size ≤ gb293)); have n5_ := Aside0.mk ((q177 : gb286 ≠ gb293)); have n6_ := Aside0.mk ((q178 : gb293 ≠ gb286)); clear BK286; clear HB; have BK286 := n0_; have HB := n1_; have BK293 := n2_; have GW293 := n3_; have GE293 := n4_; have NB286_293 := n5_; have NB293_286 := n6_; clear n0_ n1_ n2_ n3_ n4_ n5_ n6_; clear hb hbox hg; have hnb23 := NB293_286.out; have hnc23 := NB286_293.out; have hcz24_0 : w22.cell? ⟨gb293, 0, none⟩ = some (.int .i64 0) := (blk_cell BK293.out 0).trans rfl; have hcz24_1 : w22.cell? ⟨gb293, 1, none⟩ = some (.int .i64 0) := (blk_cell BK293.out 1).trans rfl; have hfz24_0 := blk_frozen BK293.out 0; have hfz24_1 := blk_frozen BK293.out 1; have hcz25_0 : w22.cell? ⟨gb286, 0, none⟩ = some (.int .i64 a0_0) := (blk_cell BK286.out 0).trans rfl; have hcz25_1 : w22.cell? ⟨gb286, 1, none⟩ = some (.int .i64 a0_1) := (blk_cell BK286.out 1).trans rfl; have hfz25_0 := blk_frozen BK286.out 0; have hfz25_1 := blk_frozen BK286.out 1))
      go_meet
      case rel => exact ⟨_, H', ⟨by first | omega | exact Nat.le_refl _⟩, ⟨by (with_reducible repeat (first | refine blk_drewN ?_ _ | refine blk_drew ?_ | refine blk_alloc ?_ _)); refine blk_far ?_ NB286_293.out _; (with_reducible repeat (first | refine blk_drewN ?_ _ | refine blk_drew ?_ | refine blk_alloc ?_ _)); refine blk_far ?_ NB286_293.out _; (with_reducible repeat (first | refine blk_drewN ?_ _ | refine blk_drew ?_ | refine blk_alloc ?_ _)); exact BK286.out⟩, ⟨q179⟩⟩
     ·rw [if_neg c20] at H
      have c20b0 : (t292 == 0) = false := beq_eq_false_iff_ne.mpr c20
      have c20b1 : (t292 != 0) = true := bne_iff_ne.mpr c20
      obtain rfl := Option.some.inj H
      go_wp2_with (first | ((with_reducible refine gate_callee (f := 21) rfl ?_); refine goesL_ (some 24) rfl rfl Try.func21 (by kernel_rfl) rfl #[.string t288] rfl q20 ?_; (with_reducible refine (frac_Parse.calls k t288 t290 t291 t292 _ A13.out).mono ?_); rintro e w26 ⟨rfl, hb⟩; refine ⟨_, rfl, ?_⟩; have n0_ := Aside0.mk (blk_below (g := gb286) (o := .cells #[.int .i64 a0_0, .int .i64 a0_1] 23 (0, 0)) q174 hb); have n1_ := Aside0.mk (below_step q175 hb); clear BK286; clear HB; have BK286 := n0_; have HB := n1_; clear n0_ n1_; (try clear hb); (try clear hb2); (try clear hk); (try clear hi)) | ((with_reducible refine gate_dst (N := 7) rfl ?_); refine box_event ?hg (N := 7) ?hd (cs := #[.int .i64 0, .int .i64 0]) (t := 23) ?hr ?_; (case hd => rfl); (case hg => rfl); (case hr => first | (go_simp; done) | (go_simp; rfl)); intro gb293 hg w27 hbox hb; have n0_ := Aside0.mk (blk_below (g := gb286) (o := .cells #[.int .i64 a0_0, .int .i64 a0_1] 23 (0, 0)) q174 hb); have n1_ := Aside0.mk (below_step q175 hb); have n2_ := Aside0.mk (hbox); have n3_ := Aside0.mk ((q176 : w.heap.size ≤ gb293)); have n4_ := Aside0.mk ((q176 : w.heap.size ≤ gb293)); have n5_ := Aside0.mk ((q177 : gb286 ≠ gb293)); have n6_ := Aside0.mk ((q178 : gb293 ≠ gb286)); clear BK286; clear HB; have BK286 := n0_; have HB := n1_; have BK293 := n2_; have GW293 := n3_; have GE293 := n4_; have NB286_293 := n5_; have NB293_286 := n6_; clear n0_ n1_ n2_ n3_ n4_ n5_ n6_; clear hb hbox hg; have hnb28 := NB293_286.out; have hnc28 := NB286_293.out; have hcz29_0 : w27.cell? ⟨gb293, 0, none⟩ = some (.int .i64 0) := (blk_cell BK293.out 0).trans rfl; have hcz29_1 : w27.cell? ⟨gb293, 1, none⟩ = some (.int .i64 0) := (blk_cell BK293.out 1).trans rfl; have hfz29_0 := blk_frozen BK293.out 0; have hfz29_1 := blk_frozen BK293.out 1; have hcz30_0 : w27.cell? ⟨gb286, 0, none⟩ = some (.int .i64 a0_0) := (blk_cell BK286.out 0).trans rfl; have hcz30_1 : w27.cell? ⟨gb286, 1, none⟩ = some (.int .i64 a0_1) := (blk_cell BK286.out 1).trans rfl; have hfz30_0 := blk_frozen BK286.out 0; have hfz30_1 := blk_frozen BK286.out 1))
      go_ret
      exact ⟨q13, q179⟩
   ·rw [if_neg c12] at H
    have c12b0 : (t289 == 0) = false := beq_eq_false_iff_ne.mpr c12
    have c12b1 : (t289 != 0) = true := bne_iff_ne.mpr c12
    (first | rw [c12b0] | (simp only [i64_w, i32_w]; rw [c12b0]) | skip)
    have H' := Aside0.mk H
    clear H
    go_wp2
    go_meet
    case rel => exact ⟨_, H', ⟨by first | omega | exact Nat.le_refl _⟩, ⟨q174⟩, ⟨q175⟩⟩
  case rest =>
   clear HC8
   try clear c1
   try clear c2
   try clear p2
   try clear c3
   try clear c3b0
   try clear c3b1
   try clear c8
   try clear c12
   try clear c12b0
   try clear c12b1
   try clear c14
   try clear c14b0
   try clear c17
   try clear c19
   try clear c20
   try clear c20b0
   try clear c20b1
   try clear c21
   try clear c23
   try clear c28
   try clear hcz10_0
   try clear hcz10_1
   try clear hcz18_0
   try clear hcz18_1
   try clear hcz19_0
   try clear hcz19_1
   try clear hcz24_0
   try clear hcz24_1
   try clear hcz25_0
   try clear hcz25_1
   try clear hcz29_0
   try clear hcz29_1
   try clear hcz30_0
   try clear hcz30_1
   try clear hfz10_0
   try clear hfz10_1
   try clear hfz18_0
   try clear hfz18_1
   try clear hfz19_0
   try clear hfz19_1
   try clear hfz24_0
   try clear hfz24_1
   try clear hfz25_0
   try clear hfz25_1
   try clear hfz29_0
   try clear hfz29_1
   try clear hfz30_0
   try clear hfz30_1
   obtain ⟨kq, HA, HJ7, BK286, HB⟩ := hcut
   cases kq with
   | zero => exact absurd HA.out (by simp [accountinglaw03_FracRound.j0])
   | succ kj7 =>
    have H := HA.out
    clear HA
    simp only [accountinglaw03_FracRound.j0] at H
    replace H := Option.bind_eq_some_iff.mp H
    obtain ⟨⟨t294, t295, t296⟩, A310, H⟩ := H
    replace H : (if t296 = 0 then ((frac_Right.f kj7 t294 t295).bind fun t298 => (if t298 = true then ((frac_Right.f kj7 a0_0 a0_1).bind fun t299 => (if ((t289 == 0) == t299) = true then ((accountinglaw03_lives.f).bind fun t300 => (some t300)) else (some false))) else (some false))) else ((frac_Right.f kj7 a0_0 a0_1).bind fun t301 => (if ((t289 == 0) == t301) = true then ((accountinglaw03_lives.f).bind fun t302 => (some t302)) else (some false)))) = some r := H
    have A31 := Aside0.mk A310
    clear A310
    by_cases c32 : t296 = 0
    ·rw [if_pos c32] at H
     have c32b0 : (t296 == 0) = true := beq_iff_eq.mpr c32
     have c32b1 : (t296 != 0) = false := bne_eq_false_iff_eq.mpr c32
     clear c32
     replace H := Option.bind_eq_some_iff.mp H
     obtain ⟨t298, A330, H⟩ := H
     replace H : (if t298 = true then ((frac_Right.f kj7 a0_0 a0_1).bind fun t299 => (if ((t289 == 0) == t299) = true then ((accountinglaw03_lives.f).bind fun t300 => (some t300)) else (some false))) else (some false)) = some r := H
     have A33 := Aside0.mk A330
     clear A330
     by_cases c34 : t298 = true
     ·subst c34
      have H1 : ((frac_Right.f kj7 a0_0 a0_1).bind fun t299 => (if ((t289 == 0) == t299) = true then ((accountinglaw03_lives.f).bind fun t300 => (some t300)) else (some false))) = some r := by rw [if_pos rfl] at H; exact H
      clear H
      have H := H1
      clear H1
      replace H := Option.bind_eq_some_iff.mp H
      obtain ⟨t299, A350, H⟩ := H
      replace H : (if ((t289 == 0) == t299) = true then ((accountinglaw03_lives.f).bind fun t300 => (some t300)) else (some false)) = some r := H
      have A35 := Aside0.mk A350
      clear A350
      by_cases c36 : ((t289 == 0) == t299) = true
      ·rw [if_pos c36] at H
       have c36b0 : ((t289 == 0) == t299) = true := c36
       (try (have c36b1 : decide ((t289 == 0) = t299) = true := by simpa using c36))
       (try (have c36b2 : ((t289 == 0) == t299) = true := by simpa using c36))
       clear c36
       replace H := Option.bind_eq_some_iff.mp H
       obtain ⟨t300, A370, H⟩ := H
       replace H : (some t300) = some r := H
       have A37 := Aside0.mk A370
       clear A370
       obtain rfl := Option.some.inj H
       go_wp2_with (first | ((with_reducible refine gate_callee (f := 21) rfl ?_); refine goesL_ (some 36) rfl rfl Try.func21 (by kernel_rfl) rfl #[.string a1] rfl q20 ?_; (with_reducible refine (frac_Parse.calls kj7 a1 t294 t295 t296 _ A31.out).mono ?_); rintro e w38 ⟨rfl, hb⟩; refine ⟨_, rfl, ?_⟩; have n0_ := Aside0.mk (blk_below (g := gb286) (o := .cells #[.int .i64 a0_0, .int .i64 a0_1] 23 (0, 0)) q174 hb); have n1_ := Aside0.mk (below_step q175 hb); clear BK286; clear HB; have BK286 := n0_; have HB := n1_; clear n0_ n1_; (try clear hb); (try clear hb2); (try clear hk); (try clear hi)) | ((with_reducible refine gate_dst (N := 9) rfl ?_); refine box_event ?hg (N := 9) ?hd (cs := #[.int .i64 0, .int .i64 0]) (t := 23) ?hr ?_; (case hd => rfl); (case hg => rfl); (case hr => first | (go_simp; done) | (go_simp; rfl)); intro gb297 hg w39 hbox hb; have n0_ := Aside0.mk (blk_below (g := gb286) (o := .cells #[.int .i64 a0_0, .int .i64 a0_1] 23 (0, 0)) q174 hb); have n1_ := Aside0.mk (below_step q175 hb); have n2_ := Aside0.mk (hbox); have n3_ := Aside0.mk ((q176 : w.heap.size ≤ gb297)); have n4_ := Aside0.mk ((q176 : w.heap.size ≤ gb297)); have n5_ := Aside0.mk ((q177 : gb286 ≠ gb297)); have n6_ := Aside0.mk ((q178 : gb297 ≠ gb286)); clear BK286; clear HB; have BK286 := n0_; have HB := n1_; have BK297 := n2_; have GW297 := n3_; have GE297 := n4_; have NB286_297 := n5_; have NB297_286 := n6_; clear n0_ n1_ n2_ n3_ n4_ n5_ n6_; clear hb hbox hg; have hnb40 := NB297_286.out; have hnc40 := NB286_297.out; have hcz41_0 : w39.cell? ⟨gb297, 0, none⟩ = some (.int .i64 0) := (blk_cell BK297.out 0).trans rfl; have hcz41_1 : w39.cell? ⟨gb297, 1, none⟩ = some (.int .i64 0) := (blk_cell BK297.out 1).trans rfl; have hfz41_0 := blk_frozen BK297.out 0; have hfz41_1 := blk_frozen BK297.out 1) | (go_at_call 12; (with_reducible refine (frac_Right.calls kj7 t294 t295 true _ A33.out).mono ?_); rintro e w42 ⟨rfl, hb⟩; have n0_ := Aside0.mk (blk_below (g := gb286) (o := .cells #[.int .i64 a0_0, .int .i64 a0_1] 23 (0, 0)) q180 hb); have n1_ := Aside0.mk (blk_below (g := gb297) (o := .cells #[.int .i64 t294, .int .i64 t295] 23 (0, 0)) q181 hb); have n2_ := Aside0.mk (below_step q182 hb); clear BK286; clear BK297; clear HB; have BK286 := n0_; have BK297 := n1_; have HB := n2_; clear n0_ n1_ n2_; (try clear hb); (try clear hb2); (try clear hk); (try clear hi); have hcz43_0 : w42.cell? ⟨gb286, 0, none⟩ = some (.int .i64 a0_0) := (blk_cell BK286.out 0).trans rfl; have hcz43_1 : w42.cell? ⟨gb286, 1, none⟩ = some (.int .i64 a0_1) := (blk_cell BK286.out 1).trans rfl; have hfz43_0 := blk_frozen BK286.out 0; have hfz43_1 := blk_frozen BK286.out 1) | (go_at_call 12; (with_reducible refine (frac_Right.calls kj7 a0_0 a0_1 t299 _ A35.out).mono ?_); rintro e w44 ⟨rfl, hb⟩; have n0_ := Aside0.mk (blk_below (g := gb286) (o := .cells #[.int .i64 a0_0, .int .i64 a0_1] 23 (0, 0)) q174 hb); have n1_ := Aside0.mk (blk_below (g := gb297) (o := .cells #[.int .i64 t294, .int .i64 t295] 23 (0, 0)) q183 hb); have n2_ := Aside0.mk (below_step q182 hb); clear BK286; clear BK297; clear HB; have BK286 := n0_; have BK297 := n1_; have HB := n2_; clear n0_ n1_ n2_; (try clear hb); (try clear hb2); (try clear hk); (try clear hi)) | (go_at_call 14; (with_reducible refine (accountinglaw03_lives.calls  t300 _ A37.out).mono ?_); rintro e w45 ⟨rfl, hb⟩; have n0_ := Aside0.mk (blk_below (g := gb286) (o := .cells #[.int .i64 a0_0, .int .i64 a0_1] 23 (0, 0)) q174 hb); have n1_ := Aside0.mk (blk_below (g := gb297) (o := .cells #[.int .i64 t294, .int .i64 t295] 23 (0, 0)) q183 hb); have n2_ := Aside0.mk (below_step q182 hb); clear BK286; clear BK297; clear HB; have BK286 := n0_; have BK297 := n1_; have HB := n2_; clear n0_ n1_ n2_; (try clear hb); (try clear hb2); (try clear hk); (try clear hi)))
       go_ret
       exact ⟨q13, q182⟩
      ·rw [if_neg c36] at H
       have c36b0 : ((t289 == 0) == t299) = false := by simpa using c36
       (try (have c36b1 : decide ((t289 == 0) = t299) = false := by simpa using c36))
       (try (have c36b2 : ((t289 == 0) == t299) = false := by simpa using c36))
       (try (have c36b3 : ¬ ((t289 == 0) = t299) := by simpa using c36))
       clear c36
       obtain rfl := Option.some.inj H
       go_wp2_with (first | ((with_reducible refine gate_callee (f := 21) rfl ?_); refine goesL_ (some 36) rfl rfl Try.func21 (by kernel_rfl) rfl #[.string a1] rfl q20 ?_; (with_reducible refine (frac_Parse.calls kj7 a1 t294 t295 t296 _ A31.out).mono ?_); rintro e w46 ⟨rfl, hb⟩; refine ⟨_, rfl, ?_⟩; have n0_ := Aside0.mk (blk_below (g := gb286) (o := .cells #[.int .i64 a0_0, .int .i64 a0_1] 23 (0, 0)) q174 hb); have n1_ := Aside0.mk (below_step q175 hb); clear BK286; clear HB; have BK286 := n0_; have HB := n1_; clear n0_ n1_; (try clear hb); (try clear hb2); (try clear hk); (try clear hi)) | ((with_reducible refine gate_dst (N := 9) rfl ?_); refine box_event ?hg (N := 9) ?hd (cs := #[.int .i64 0, .int .i64 0]) (t := 23) ?hr ?_; (case hd => rfl); (case hg => rfl); (case hr => first | (go_simp; done) | (go_simp; rfl)); intro gb297 hg w47 hbox hb; have n0_ := Aside0.mk (blk_below (g := gb286) (o := .cells #[.int .i64 a0_0, .int .i64 a0_1] 23 (0, 0)) q174 hb); have n1_ := Aside0.mk (below_step q175 hb); have n2_ := Aside0.mk (hbox); have n3_ := Aside0.mk ((q176 : w.heap.size ≤ gb297)); have n4_ := Aside0.mk ((q176 : w.heap.size ≤ gb297)); have n5_ := Aside0.mk ((q177 : gb286 ≠ gb297)); have n6_ := Aside0.mk ((q178 : gb297 ≠ gb286)); clear BK286; clear HB; have BK286 := n0_; have HB := n1_; have BK297 := n2_; have GW297 := n3_; have GE297 := n4_; have NB286_297 := n5_; have NB297_286 := n6_; clear n0_ n1_ n2_ n3_ n4_ n5_ n6_; clear hb hbox hg; have hnb48 := NB297_286.out; have hnc48 := NB286_297.out; have hcz49_0 : w47.cell? ⟨gb297, 0, none⟩ = some (.int .i64 0) := (blk_cell BK297.out 0).trans rfl; have hcz49_1 : w47.cell? ⟨gb297, 1, none⟩ = some (.int .i64 0) := (blk_cell BK297.out 1).trans rfl; have hfz49_0 := blk_frozen BK297.out 0; have hfz49_1 := blk_frozen BK297.out 1) | (go_at_call 12; (with_reducible refine (frac_Right.calls kj7 t294 t295 true _ A33.out).mono ?_); rintro e w50 ⟨rfl, hb⟩; have n0_ := Aside0.mk (blk_below (g := gb286) (o := .cells #[.int .i64 a0_0, .int .i64 a0_1] 23 (0, 0)) q180 hb); have n1_ := Aside0.mk (blk_below (g := gb297) (o := .cells #[.int .i64 t294, .int .i64 t295] 23 (0, 0)) q181 hb); have n2_ := Aside0.mk (below_step q182 hb); clear BK286; clear BK297; clear HB; have BK286 := n0_; have BK297 := n1_; have HB := n2_; clear n0_ n1_ n2_; (try clear hb); (try clear hb2); (try clear hk); (try clear hi); have hcz51_0 : w50.cell? ⟨gb286, 0, none⟩ = some (.int .i64 a0_0) := (blk_cell BK286.out 0).trans rfl; have hcz51_1 : w50.cell? ⟨gb286, 1, none⟩ = some (.int .i64 a0_1) := (blk_cell BK286.out 1).trans rfl; have hfz51_0 := blk_frozen BK286.out 0; have hfz51_1 := blk_frozen BK286.out 1) | (go_at_call 12; (with_reducible refine (frac_Right.calls kj7 a0_0 a0_1 t299 _ A35.out).mono ?_); rintro e w52 ⟨rfl, hb⟩; have n0_ := Aside0.mk (blk_below (g := gb286) (o := .cells #[.int .i64 a0_0, .int .i64 a0_1] 23 (0, 0)) q174 hb); have n1_ := Aside0.mk (blk_below (g := gb297) (o := .cells #[.int .i64 t294, .int .i64 t295] 23 (0, 0)) q183 hb); have n2_ := Aside0.mk (below_step q182 hb); clear BK286; clear BK297; clear HB; have BK286 := n0_; have BK297 := n1_; have HB := n2_; clear n0_ n1_ n2_; (try clear hb); (try clear hb2); (try clear hk); (try clear hi)))
       go_ret
       exact ⟨q13, q182⟩
     ·replace c34 := Bool.eq_false_iff.mpr c34
      subst c34
      have H1 : (some false) = some r := by rw [if_neg (show ¬ (false = true) by decide)] at H; exact H
      clear H
      have H := H1
      clear H1
      obtain rfl := Option.some.inj H
      go_wp2_with (first | ((with_reducible refine gate_callee (f := 21) rfl ?_); refine goesL_ (some 36) rfl rfl Try.func21 (by kernel_rfl) rfl #[.string a1] rfl q20 ?_; (with_reducible refine (frac_Parse.calls kj7 a1 t294 t295 t296 _ A31.out).mono ?_); rintro e w53 ⟨rfl, hb⟩; refine ⟨_, rfl, ?_⟩; have n0_ := Aside0.mk (blk_below (g := gb286) (o := .cells #[.int .i64 a0_0, .int .i64 a0_1] 23 (0, 0)) q174 hb); have n1_ := Aside0.mk (below_step q175 hb); clear BK286; clear HB; have BK286 := n0_; have HB := n1_; clear n0_ n1_; (try clear hb); (try clear hb2); (try clear hk); (try clear hi)) | ((with_reducible refine gate_dst (N := 9) rfl ?_); refine box_event ?hg (N := 9) ?hd (cs := #[.int .i64 0, .int .i64 0]) (t := 23) ?hr ?_; (case hd => rfl); (case hg => rfl); (case hr => first | (go_simp; done) | (go_simp; rfl)); intro gb297 hg w54 hbox hb; have n0_ := Aside0.mk (blk_below (g := gb286) (o := .cells #[.int .i64 a0_0, .int .i64 a0_1] 23 (0, 0)) q174 hb); have n1_ := Aside0.mk (below_step q175 hb); have n2_ := Aside0.mk (hbox); have n3_ := Aside0.mk ((q176 : w.heap.size ≤ gb297)); have n4_ := Aside0.mk ((q176 : w.heap.size ≤ gb297)); have n5_ := Aside0.mk ((q177 : gb286 ≠ gb297)); have n6_ := Aside0.mk ((q178 : gb297 ≠ gb286)); clear BK286; clear HB; have BK286 := n0_; have HB := n1_; have BK297 := n2_; have GW297 := n3_; have GE297 := n4_; have NB286_297 := n5_; have NB297_286 := n6_; clear n0_ n1_ n2_ n3_ n4_ n5_ n6_; clear hb hbox hg; have hnb55 := NB297_286.out; have hnc55 := NB286_297.out; have hcz56_0 : w54.cell? ⟨gb297, 0, none⟩ = some (.int .i64 0) := (blk_cell BK297.out 0).trans rfl; have hcz56_1 : w54.cell? ⟨gb297, 1, none⟩ = some (.int .i64 0) := (blk_cell BK297.out 1).trans rfl; have hfz56_0 := blk_frozen BK297.out 0; have hfz56_1 := blk_frozen BK297.out 1) | (go_at_call 12; (with_reducible refine (frac_Right.calls kj7 t294 t295 false _ A33.out).mono ?_); rintro e w57 ⟨rfl, hb⟩; have n0_ := Aside0.mk (blk_below (g := gb286) (o := .cells #[.int .i64 a0_0, .int .i64 a0_1] 23 (0, 0)) q180 hb); have n1_ := Aside0.mk (blk_below (g := gb297) (o := .cells #[.int .i64 t294, .int .i64 t295] 23 (0, 0)) q181 hb); have n2_ := Aside0.mk (below_step q182 hb); clear BK286; clear BK297; clear HB; have BK286 := n0_; have BK297 := n1_; have HB := n2_; clear n0_ n1_ n2_; (try clear hb); (try clear hb2); (try clear hk); (try clear hi)))
      go_ret
      exact ⟨q13, q182⟩
    ·rw [if_neg c32] at H
     have c32b0 : (t296 == 0) = false := beq_eq_false_iff_ne.mpr c32
     have c32b1 : (t296 != 0) = true := bne_iff_ne.mpr c32
     replace H := Option.bind_eq_some_iff.mp H
     obtain ⟨t301, A580, H⟩ := H
     replace H : (if ((t289 == 0) == t301) = true then ((accountinglaw03_lives.f).bind fun t302 => (some t302)) else (some false)) = some r := H
     have A58 := Aside0.mk A580
     clear A580
     by_cases c59 : ((t289 == 0) == t301) = true
     ·rw [if_pos c59] at H
      have c59b0 : ((t289 == 0) == t301) = true := c59
      (try (have c59b1 : decide ((t289 == 0) = t301) = true := by simpa using c59))
      (try (have c59b2 : ((t289 == 0) == t301) = true := by simpa using c59))
      clear c59
      replace H := Option.bind_eq_some_iff.mp H
      obtain ⟨t302, A600, H⟩ := H
      replace H : (some t302) = some r := H
      have A60 := Aside0.mk A600
      clear A600
      obtain rfl := Option.some.inj H
      go_wp2_with (first | ((with_reducible refine gate_callee (f := 21) rfl ?_); refine goesL_ (some 36) rfl rfl Try.func21 (by kernel_rfl) rfl #[.string a1] rfl q20 ?_; (with_reducible refine (frac_Parse.calls kj7 a1 t294 t295 t296 _ A31.out).mono ?_); rintro e w61 ⟨rfl, hb⟩; refine ⟨_, rfl, ?_⟩; have n0_ := Aside0.mk (blk_below (g := gb286) (o := .cells #[.int .i64 a0_0, .int .i64 a0_1] 23 (0, 0)) q174 hb); have n1_ := Aside0.mk (below_step q175 hb); clear BK286; clear HB; have BK286 := n0_; have HB := n1_; clear n0_ n1_; (try clear hb); (try clear hb2); (try clear hk); (try clear hi)) | ((with_reducible refine gate_dst (N := 9) rfl ?_); refine box_event ?hg (N := 9) ?hd (cs := #[.int .i64 0, .int .i64 0]) (t := 23) ?hr ?_; (case hd => rfl); (case hg => rfl); (case hr => first | (go_simp; done) | (go_simp; rfl)); intro gb297 hg w62 hbox hb; have n0_ := Aside0.mk (blk_below (g := gb286) (o := .cells #[.int .i64 a0_0, .int .i64 a0_1] 23 (0, 0)) q174 hb); have n1_ := Aside0.mk (below_step q175 hb); have n2_ := Aside0.mk (hbox); have n3_ := Aside0.mk ((q176 : w.heap.size ≤ gb297)); have n4_ := Aside0.mk ((q176 : w.heap.size ≤ gb297)); have n5_ := Aside0.mk ((q177 : gb286 ≠ gb297)); have n6_ := Aside0.mk ((q178 : gb297 ≠ gb286)); clear BK286; clear HB; have BK286 := n0_; have HB := n1_; have BK297 := n2_; have GW297 := n3_; have GE297 := n4_; have NB286_297 := n5_; have NB297_286 := n6_; clear n0_ n1_ n2_ n3_ n4_ n5_ n6_; clear hb hbox hg; have hnb63 := NB297_286.out; have hnc63 := NB286_297.out; have hcz64_0 : w62.cell? ⟨gb297, 0, none⟩ = some (.int .i64 0) := (blk_cell BK297.out 0).trans rfl; have hcz64_1 : w62.cell? ⟨gb297, 1, none⟩ = some (.int .i64 0) := (blk_cell BK297.out 1).trans rfl; have hfz64_0 := blk_frozen BK297.out 0; have hfz64_1 := blk_frozen BK297.out 1; have hcz65_0 : w62.cell? ⟨gb286, 0, none⟩ = some (.int .i64 a0_0) := (blk_cell BK286.out 0).trans rfl; have hcz65_1 : w62.cell? ⟨gb286, 1, none⟩ = some (.int .i64 a0_1) := (blk_cell BK286.out 1).trans rfl; have hfz65_0 := blk_frozen BK286.out 0; have hfz65_1 := blk_frozen BK286.out 1) | (go_at_call 12; (with_reducible refine (frac_Right.calls kj7 a0_0 a0_1 t301 _ A58.out).mono ?_); rintro e w66 ⟨rfl, hb⟩; have n0_ := Aside0.mk (blk_below (g := gb286) (o := .cells #[.int .i64 a0_0, .int .i64 a0_1] 23 (0, 0)) q180 hb); have n1_ := Aside0.mk (blk_below (g := gb297) (o := .cells #[.int .i64 t294, .int .i64 t295] 23 (0, 0)) q181 hb); have n2_ := Aside0.mk (below_step q182 hb); clear BK286; clear BK297; clear HB; have BK286 := n0_; have BK297 := n1_; have HB := n2_; clear n0_ n1_ n2_; (try clear hb); (try clear hb2); (try clear hk); (try clear hi)) | (go_at_call 14; (with_reducible refine (accountinglaw03_lives.calls  t302 _ A60.out).mono ?_); rintro e w67 ⟨rfl, hb⟩; have n0_ := Aside0.mk (blk_below (g := gb286) (o := .cells #[.int .i64 a0_0, .int .i64 a0_1] 23 (0, 0)) q174 hb); have n1_ := Aside0.mk (blk_below (g := gb297) (o := .cells #[.int .i64 t294, .int .i64 t295] 23 (0, 0)) q183 hb); have n2_ := Aside0.mk (below_step q182 hb); clear BK286; clear BK297; clear HB; have BK286 := n0_; have BK297 := n1_; have HB := n2_; clear n0_ n1_ n2_; (try clear hb); (try clear hb2); (try clear hk); (try clear hi)))
      go_ret
      exact ⟨q13, q182⟩
     ·rw [if_neg c59] at H
      have c59b0 : ((t289 == 0) == t301) = false := by simpa using c59
      (try (have c59b1 : decide ((t289 == 0) = t301) = false := by simpa using c59))
      (try (have c59b2 : ((t289 == 0) == t301) = false := by simpa using c59))
      (try (have c59b3 : ¬ ((t289 == 0) = t301) := by simpa using c59))
      clear c59
      obtain rfl := Option.some.inj H
      go_wp2_with (first | ((with_reducible refine gate_callee (f := 21) rfl ?_); refine goesL_ (some 36) rfl rfl Try.func21 (by kernel_rfl) rfl #[.string a1] rfl q20 ?_; (with_reducible refine (frac_Parse.calls kj7 a1 t294 t295 t296 _ A31.out).mono ?_); rintro e w68 ⟨rfl, hb⟩; refine ⟨_, rfl, ?_⟩; have n0_ := Aside0.mk (blk_below (g := gb286) (o := .cells #[.int .i64 a0_0, .int .i64 a0_1] 23 (0, 0)) q174 hb); have n1_ := Aside0.mk (below_step q175 hb); clear BK286; clear HB; have BK286 := n0_; have HB := n1_; clear n0_ n1_; (try clear hb); (try clear hb2); (try clear hk); (try clear hi)) | ((with_reducible refine gate_dst (N := 9) rfl ?_); refine box_event ?hg (N := 9) ?hd (cs := #[.int .i64 0, .int .i64 0]) (t := 23) ?hr ?_; (case hd => rfl); (case hg => rfl); (case hr => first | (go_simp; done) | (go_simp; rfl)); intro gb297 hg w69 hbox hb; have n0_ := Aside0.mk (blk_below (g := gb286) (o := .cells #[.int .i64 a0_0, .int .i64 a0_1] 23 (0, 0)) q174 hb); have n1_ := Aside0.mk (below_step q175 hb); have n2_ := Aside0.mk (hbox); have n3_ := Aside0.mk ((q176 : w.heap.size ≤ gb297)); have n4_ := Aside0.mk ((q176 : w.heap.size ≤ gb297)); have n5_ := Aside0.mk ((q177 : gb286 ≠ gb297)); have n6_ := Aside0.mk ((q178 : gb297 ≠ gb286)); clear BK286; clear HB; have BK286 := n0_; have HB := n1_; have BK297 := n2_; have GW297 := n3_; have GE297 := n4_; have NB286_297 := n5_; have NB297_286 := n6_; clear n0_ n1_ n2_ n3_ n4_ n5_ n6_; clear hb hbox hg; have hnb70 := NB297_286.out; have hnc70 := NB286_297.out; have hcz71_0 : w69.cell? ⟨gb297, 0, none⟩ = some (.int .i64 0) := (blk_cell BK297.out 0).trans rfl; have hcz71_1 : w69.cell? ⟨gb297, 1, none⟩ = some (.int .i64 0) := (blk_cell BK297.out 1).trans rfl; have hfz71_0 := blk_frozen BK297.out 0; have hfz71_1 := blk_frozen BK297.out 1; have hcz72_0 : w69.cell? ⟨gb286, 0, none⟩ = some (.int .i64 a0_0) := (blk_cell BK286.out 0).trans rfl; have hcz72_1 : w69.cell? ⟨gb286, 1, none⟩ = some (.int .i64 a0_1) := (blk_cell BK286.out 1).trans rfl; have hfz72_0 := blk_frozen BK286.out 0; have hfz72_1 := blk_frozen BK286.out 1) | (go_at_call 12; (with_reducible refine (frac_Right.calls kj7 a0_0 a0_1 t301 _ A58.out).mono ?_); rintro e w73 ⟨rfl, hb⟩; have n0_ := Aside0.mk (blk_below (g := gb286) (o := .cells #[.int .i64 a0_0, .int .i64 a0_1] 23 (0, 0)) q180 hb); have n1_ := Aside0.mk (blk_below (g := gb297) (o := .cells #[.int .i64 t294, .int .i64 t295] 23 (0, 0)) q181 hb); have n2_ := Aside0.mk (below_step q182 hb); clear BK286; clear BK297; clear HB; have BK286 := n0_; have BK297 := n1_; have HB := n2_; clear n0_ n1_ n2_; (try clear hb); (try clear hb2); (try clear hk); (try clear hi)))
      go_ret
      exact ⟨q13, q182⟩

end Go.Proofs.Ytoenhagbgfkihaa.A
