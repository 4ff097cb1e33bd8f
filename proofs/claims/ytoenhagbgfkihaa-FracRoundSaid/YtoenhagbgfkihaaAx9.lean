-- By gen.py, a program of this session's, over the print's forms: not the print's own text.
import Derived.Test.YtoenhagbgfkihaaAx0
import Derived.Test.YtoenhagbgfkihaaQ
import Derived.Test.YtoenhagbgfkihaaAx2
import Derived.Test.YtoenhagbgfkihaaAx3
import Derived.Test.YtoenhagbgfkihaaAx4
import Derived.Test.YtoenhagbgfkihaaAx8
namespace Go.Proofs.Ytoenhagbgfkihaa.A
open Go.RowKit Go.Proofs.Ytoenhagbgfkihaa.B Go.Proofs.YtoenhagbgfkihaaW.PrintWords Go.Proofs.YtoenhagbgfkihaaW.PrintLast Go.Proofs.YtoenhagbgfkihaaW.PrintMore
attribute [local go_sem] max2_int min2_int max_two min_two max_three min_three max_four min_four   -- for this text's walks alone
set_option linter.unusedVariables false
set_option linter.unusedSimpArgs false

/-! ### muldiv_Cmp: function 49 (by hand) -/
set_option maxHeartbeats 6400000 in
theorem cmp_any (a b c d : Int) (ha : I64 a) (hb : I64 b) (hc : I64 c) (hd : I64 d) (w : World) :
  Calls Try.prog 49 #[.int .i64 a, .int .i64 b, .int .i64 c, .int .i64 d] w fun e w' => e = .returned (.int .i64 (cmpS a b c d)) ∧ Below w.heap.size w w' := by
 obtain ⟨x, hx⟩ : ∃ x : Nat, x = a.natAbs := ⟨_, rfl⟩
 obtain ⟨y, hy⟩ : ∃ y : Nat, y = b.natAbs := ⟨_, rfl⟩
 obtain ⟨z, hz⟩ : ∃ z : Nat, z = c.natAbs := ⟨_, rfl⟩
 obtain ⟨u, hu⟩ : ∃ u : Nat, u = d.natAbs := ⟨_, rfl⟩
 have HXB := Aside0.mk (show x < 18446744073709551616 by unfold I64 at ha; omega)
 have HYB := Aside0.mk (show y < 18446744073709551616 by unfold I64 at hb; omega)
 have HZB := Aside0.mk (show z < 18446744073709551616 by unfold I64 at hc; omega)
 have HUB := Aside0.mk (show u < 18446744073709551616 by unfold I64 at hd; omega)
 have HIa := Aside0.mk (mag a ha)
 have HIb := Aside0.mk (mag b hb)
 have HIc := Aside0.mk (mag c hc)
 have HId := Aside0.mk (mag d hd)
 rw [← hx] at HIa; rw [← hy] at HIb; rw [← hz] at HIc; rw [← hu] at HId
 have HX := Aside0.mk hx
 have HY := Aside0.mk hy
 have HZ := Aside0.mk hz
 have HU := Aside0.mk hu
 clear hx hy hz hu ha hb hc hd
 have HM1 := Aside0.mk (mulx x y HXB.out HYB.out)
 have HM2 := Aside0.mk (mulx z u HZB.out HUB.out)
 go_enter Try.func49, Try.ntmps49
 go_wp2_with fail
 refine (HIa.out _).mono ?_
 rintro e w' ⟨rfl, rfl⟩
 go_wp2_with fail
 refine (HIb.out _).mono ?_
 rintro e w' ⟨rfl, rfl⟩
 go_wp2_with fail
 refine (HM1.out _).mono ?_
 rintro e w1 ⟨rfl, hw1⟩
 subst hw1
 generalize hph : x * y / 18446744073709551616 = ph at *
 generalize hpl : x * y % 18446744073709551616 = pl at *
 go_wp2_with fail
 refine (HIc.out _).mono ?_
 rintro e w' ⟨rfl, rfl⟩
 go_wp2_with fail
 refine (HId.out _).mono ?_
 rintro e w' ⟨rfl, rfl⟩
 go_wp2_with fail
 refine (HM2.out _).mono ?_
 rintro e w1 ⟨rfl, hw1⟩
 subst hw1
 generalize hqh : z * u / 18446744073709551616 = qh at *
 generalize hql : z * u % 18446744073709551616 = ql at *
 have HPH := Aside0.mk hph
 have HPL := Aside0.mk hpl
 have HQH := Aside0.mk hqh
 have HQL := Aside0.mk hql
 clear hph hpl hqh hql HIa HIb HIc HId HM1 HM2
 have HD1 := Aside0.mk (direction_any a b)
 have HD2 := Aside0.mk (direction_any c d)
 have HC1 := Aside0.mk (compare_any (ph : Int) (pl : Int) (qh : Int) (ql : Int))
 have HC2 := Aside0.mk (compare_any (qh : Int) (ql : Int) (ph : Int) (pl : Int))
 generalize hl : dirS a b = l at *
 generalize hr : dirS c d = r at *
 have HL := Aside0.mk hl
 have HR := Aside0.mk hr
 clear hl hr
 go_wp2_with fail
 refine (HD1.out _).mono ?_
 rintro e w' ⟨rfl, rfl⟩
 go_wp2_with fail
 refine (HD2.out _).mono ?_
 rintro e w' ⟨rfl, rfl⟩
 have hfin := cmp_fin a b c d ph pl qh ql (by rw [← HX.out, ← HY.out]; exact HPH.out) (by rw [← HX.out, ← HY.out]; exact HPL.out) (by rw [← HZ.out, ← HU.out]; exact HQH.out) (by rw [← HZ.out, ← HU.out]; exact HQL.out)
 rw [HL.out, HR.out] at hfin
 have HF := Aside0.mk hfin
 clear hfin
 by_cases h1 : l < r
 ·go_wp2_with fail
  go_ret
  exact ⟨ret_int (by rw [HF.out, if_pos h1]), q206⟩
 by_cases h2 : r < l
 ·go_wp2_with fail
  go_ret
  exact ⟨ret_int (by rw [HF.out, if_neg (by omega), if_pos h2]), q206⟩
 by_cases h3 : l < 0
 ·go_wp2_with fail
  refine (HC2.out _).mono ?_
  rintro e w2 ⟨rfl, hb⟩
  go_wp2_with fail
  go_ret
  exact ⟨ret_int (by rw [HF.out, if_neg (by omega), if_neg (by omega), if_pos h3]), Below.trans q206 (hb.mono (by simp; omega))⟩
 ·go_wp2_with fail
  refine (HC1.out _).mono ?_
  rintro e w2 ⟨rfl, hb⟩
  go_wp2_with fail
  go_ret
  exact ⟨ret_int (by rw [HF.out, if_neg (by omega), if_neg (by omega), if_neg (by omega)]), Below.trans q206 (hb.mono (by simp; omega))⟩
def muldiv_Cmp.f (a0 a1 a2 a3 : Int) : Option Int := if I64 a0 ∧ I64 a1 ∧ I64 a2 ∧ I64 a3 then some (cmpS a0 a1 a2 a3) else none
theorem muldiv_Cmp.calls (a0 : Int) (a1 : Int) (a2 : Int) (a3 : Int) (r : Int) (w : World) (h : muldiv_Cmp.f a0 a1 a2 a3 = some r) :
  Calls Try.prog 49 #[.int .i64 a0, .int .i64 a1, .int .i64 a2, .int .i64 a3] w fun e w' => e = .returned (.int .i64 r) ∧ Below w.heap.size w w' := by
 unfold muldiv_Cmp.f at h
 split at h
 ·rename_i hb
  obtain rfl := Option.some.inj h
  exact cmp_any a0 a1 a2 a3 hb.1 hb.2.1 hb.2.2.1 hb.2.2.2 w
 ·cases h

/-! ### frac_Cmp: function 23 -/
def frac_Cmp.f (k : Nat) (a0_0 : Int) (a0_1 : Int) (a1_0 : Int) (a1_1 : Int) : Option (Int) := (frac_Right.f k a0_0 a0_1).bind fun t204 => (if t204 = true then ((frac_Right.f k a1_0 a1_1).bind fun t205 => (if t205 = true then ((muldiv_Cmp.f a0_0 a1_1 a1_0 a0_1).bind fun t206 => (some t206)) else (some 0))) else (some 0))
theorem frac_Cmp.mono : ∀ a0 a1 a2 a3 k, LeO (frac_Cmp.f k a0 a1 a2 a3) (frac_Cmp.f (k + 1) a0 a1 a2 a3) := by
 intro a0 a1 a2 a3 k
 unfold frac_Cmp.f
 repeat' first
   | (with_reducible exact frac_Right.mono _ _ _)
   | (with_reducible exact LeO.refl _)
   | (with_reducible exact LeO.none _)
   | (with_reducible refine LeO.ite ?_ ?_)
   | (with_reducible refine LeO.bind ?_ (fun _ => ?_))
   | exact frac_Right.mono _ _ _
   | exact LeO.none _
   | refine LeO.ite ?_ ?_
   | refine LeO.bind ?_ (fun _ => ?_)
set_option maxHeartbeats 8000000 in
set_option maxRecDepth 100000 in
theorem frac_Cmp.calls (k : Nat) (a0_0 : Int) (a0_1 : Int) (a1_0 : Int) (a1_1 : Int) (r : Int) (w : World) (h : frac_Cmp.f k a0_0 a0_1 a1_0 a1_1 = some r) :
  Calls Try.prog 23 #[.agg #[.int .i64 a0_0, .int .i64 a0_1], .agg #[.int .i64 a1_0, .int .i64 a1_1]] w fun e w' => e = .returned (.int .i64 r) ∧ Below w.heap.size w w' := by
 have hu23 := Try.underlying23
 have HB := Aside0.mk (Below.refl w.heap.size w)
 have H : ((frac_Right.f k a0_0 a0_1).bind fun t204 => (if t204 = true then ((frac_Right.f k a1_0 a1_1).bind fun t205 => (if t205 = true then ((muldiv_Cmp.f a0_0 a1_1 a1_0 a0_1).bind fun t206 => (some t206)) else (some 0))) else (some 0))) = some r := h
 clear h
 replace H := Option.bind_eq_some_iff.mp H
 obtain ⟨t204, A30, H⟩ := H
 replace H : (if t204 = true then ((frac_Right.f k a1_0 a1_1).bind fun t205 => (if t205 = true then ((muldiv_Cmp.f a0_0 a1_1 a1_0 a0_1).bind fun t206 => (some t206)) else (some 0))) else (some 0)) = some r := H
 have A3 := Aside0.mk A30
 clear A30
 by_cases c4 : t204 = true
 ·subst c4
  have H1 : ((frac_Right.f k a1_0 a1_1).bind fun t205 => (if t205 = true then ((muldiv_Cmp.f a0_0 a1_1 a1_0 a0_1).bind fun t206 => (some t206)) else (some 0))) = some r := by rw [if_pos rfl] at H; exact H
  clear H
  have H := H1
  clear H1
  replace H := Option.bind_eq_some_iff.mp H
  obtain ⟨t205, A50, H⟩ := H
  replace H : (if t205 = true then ((muldiv_Cmp.f a0_0 a1_1 a1_0 a0_1).bind fun t206 => (some t206)) else (some 0)) = some r := H
  have A5 := Aside0.mk A50
  clear A50
  by_cases c6 : t205 = true
  ·subst c6
   have H1 : ((muldiv_Cmp.f a0_0 a1_1 a1_0 a0_1).bind fun t206 => (some t206)) = some r := by rw [if_pos rfl] at H; exact H
   clear H
   have H := H1
   clear H1
   replace H := Option.bind_eq_some_iff.mp H
   obtain ⟨t206, A70, H⟩ := H
   replace H : (some t206) = some r := H
   have A7 := Aside0.mk A70
   clear A70
   obtain rfl := Option.some.inj H
   go_enter Try.func23, Try.ntmps23
   go_wp2_with (first | ((with_reducible refine gate_dst (N := 2) rfl ?_); refine box_event ?hg (N := 2) ?hd (cs := #[.int .i64 a0_0, .int .i64 a0_1]) (t := 23) ?hr ?_; (case hd => rfl); (case hg => rfl); (case hr => first | (go_simp; done) | (go_simp; rfl)); intro gb202 hg w8 hbox hb; have n0_ := Aside0.mk (below_step q11 hb); have n1_ := Aside0.mk (hbox); have n2_ := Aside0.mk ((q12 : w.heap.size ≤ gb202)); have n3_ := Aside0.mk ((q12 : w.heap.size ≤ gb202)); clear HB; have HB := n0_; have BK202 := n1_; have GW202 := n2_; have GE202 := n3_; clear n0_ n1_ n2_ n3_; clear hb hbox hg) | ((with_reducible refine gate_dst (N := 3) rfl ?_); refine box_event ?hg (N := 3) ?hd (cs := #[.int .i64 a1_0, .int .i64 a1_1]) (t := 23) ?hr ?_; (case hd => rfl); (case hg => rfl); (case hr => first | (go_simp; done) | (go_simp; rfl)); intro gb203 hg w9 hbox hb; have n0_ := Aside0.mk (blk_below (g := gb202) (o := .cells #[.int .i64 a0_0, .int .i64 a0_1] 23 (0, 0)) q207 hb); have n1_ := Aside0.mk (below_step q208 hb); have n2_ := Aside0.mk (hbox); have n3_ := Aside0.mk ((q209 : w.heap.size ≤ gb203)); have n4_ := Aside0.mk ((q209 : w.heap.size ≤ gb203)); have n5_ := Aside0.mk ((q210 : gb202 ≠ gb203)); have n6_ := Aside0.mk ((q211 : gb203 ≠ gb202)); clear BK202; clear HB; have BK202 := n0_; have HB := n1_; have BK203 := n2_; have GW203 := n3_; have GE203 := n4_; have NB202_203 := n5_; have NB203_202 := n6_; clear n0_ n1_ n2_ n3_ n4_ n5_ n6_; clear hb hbox hg; have hnb10 := NB202_203.out; have hnc10 := NB203_202.out; have hcz11_0 : w9.cell? ⟨gb202, 0, none⟩ = some (.int .i64 a0_0) := (blk_cell BK202.out 0).trans rfl; have hcz11_1 : w9.cell? ⟨gb202, 1, none⟩ = some (.int .i64 a0_1) := (blk_cell BK202.out 1).trans rfl; have hfz11_0 := blk_frozen BK202.out 0; have hfz11_1 := blk_frozen BK202.out 1) | ((with_reducible refine gate_callee (f := 12) rfl ?_); refine goesL_ (some 6) rfl rfl Try.func12 (by kernel_rfl) rfl #[.agg #[.int .i64 a0_0, .int .i64 a0_1]] rfl q20 ?_; (with_reducible refine (frac_Right.calls k a0_0 a0_1 true _ A3.out).mono ?_); rintro e w12 ⟨rfl, hb⟩; refine ⟨_, rfl, ?_⟩; have n0_ := Aside0.mk (blk_below (g := gb202) (o := .cells #[.int .i64 a0_0, .int .i64 a0_1] 23 (0, 0)) q207 hb); have n1_ := Aside0.mk (blk_below (g := gb203) (o := .cells #[.int .i64 a1_0, .int .i64 a1_1] 23 (0, 0)) q212 hb); have n2_ := Aside0.mk (below_step q213 hb); clear BK202; clear BK203; clear HB; have BK202 := n0_; have BK203 := n1_; have HB := n2_; clear n0_ n1_ n2_; (try clear hb); (try clear hb2); (try clear hk); (try clear hi); have hcz13_0 : w12.cell? ⟨gb203, 0, none⟩ = some (.int .i64 a1_0) := (blk_cell BK203.out 0).trans rfl; have hcz13_1 : w12.cell? ⟨gb203, 1, none⟩ = some (.int .i64 a1_1) := (blk_cell BK203.out 1).trans rfl; have hfz13_0 := blk_frozen BK203.out 0; have hfz13_1 := blk_frozen BK203.out 1) | (go_at_call 12; (with_reducible refine (frac_Right.calls k a1_0 a1_1 true _ A5.out).mono ?_); rintro e w14 ⟨rfl, hb⟩; have n0_ := Aside0.mk (blk_below (g := gb202) (o := .cells #[.int .i64 a0_0, .int .i64 a0_1] 23 (0, 0)) q207 hb); have n1_ := Aside0.mk (blk_below (g := gb203) (o := .cells #[.int .i64 a1_0, .int .i64 a1_1] 23 (0, 0)) q212 hb); have n2_ := Aside0.mk (below_step q213 hb); clear BK202; clear BK203; clear HB; have BK202 := n0_; have BK203 := n1_; have HB := n2_; clear n0_ n1_ n2_; (try clear hb); (try clear hb2); (try clear hk); (try clear hi); have hcz15_0 : w14.cell? ⟨gb202, 0, none⟩ = some (.int .i64 a0_0) := (blk_cell BK202.out 0).trans rfl; have hcz15_1 : w14.cell? ⟨gb202, 1, none⟩ = some (.int .i64 a0_1) := (blk_cell BK202.out 1).trans rfl; have hfz15_0 := blk_frozen BK202.out 0; have hfz15_1 := blk_frozen BK202.out 1; have hcz16_0 : w14.cell? ⟨gb203, 0, none⟩ = some (.int .i64 a1_0) := (blk_cell BK203.out 0).trans rfl; have hcz16_1 : w14.cell? ⟨gb203, 1, none⟩ = some (.int .i64 a1_1) := (blk_cell BK203.out 1).trans rfl; have hfz16_0 := blk_frozen BK203.out 0; have hfz16_1 := blk_frozen BK203.out 1) | ((with_reducible refine gate_callee (f := 49) rfl ?_); refine goesL_ (some 21) rfl rfl Try.func49 (by kernel_rfl) rfl #[.int .i64 a0_0, .int .i64 a1_1, .int .i64 a1_0, .int .i64 a0_1] rfl q20 ?_; (with_reducible refine (muldiv_Cmp.calls a0_0 a1_1 a1_0 a0_1 t206 _ A7.out).mono ?_); rintro e w17 ⟨rfl, hb⟩; refine ⟨_, rfl, ?_⟩; have n0_ := Aside0.mk (blk_below (g := gb202) (o := .cells #[.int .i64 a0_0, .int .i64 a0_1] 23 (0, 0)) q207 hb); have n1_ := Aside0.mk (blk_below (g := gb203) (o := .cells #[.int .i64 a1_0, .int .i64 a1_1] 23 (0, 0)) q212 hb); have n2_ := Aside0.mk (below_step q213 hb); clear BK202; clear BK203; clear HB; have BK202 := n0_; have BK203 := n1_; have HB := n2_; clear n0_ n1_ n2_; (try clear hb); (try clear hb2); (try clear hk); (try clear hi)))
   go_ret
   exact ⟨q13, q213⟩
  ·replace c6 := Bool.eq_false_iff.mpr c6
   subst c6
   have H1 : (some 0) = some r := by rw [if_neg (show ¬ (false = true) by decide)] at H; exact H
   clear H
   have H := H1
   clear H1
   obtain rfl := Option.some.inj H
   go_enter Try.func23, Try.ntmps23
   go_wp2_with (first | ((with_reducible refine gate_dst (N := 2) rfl ?_); refine box_event ?hg (N := 2) ?hd (cs := #[.int .i64 a0_0, .int .i64 a0_1]) (t := 23) ?hr ?_; (case hd => rfl); (case hg => rfl); (case hr => first | (go_simp; done) | (go_simp; rfl)); intro gb202 hg w18 hbox hb; have n0_ := Aside0.mk (below_step q11 hb); have n1_ := Aside0.mk (hbox); have n2_ := Aside0.mk ((q12 : w.heap.size ≤ gb202)); have n3_ := Aside0.mk ((q12 : w.heap.size ≤ gb202)); clear HB; have HB := n0_; have BK202 := n1_; have GW202 := n2_; have GE202 := n3_; clear n0_ n1_ n2_ n3_; clear hb hbox hg) | ((with_reducible refine gate_dst (N := 3) rfl ?_); refine box_event ?hg (N := 3) ?hd (cs := #[.int .i64 a1_0, .int .i64 a1_1]) (t := 23) ?hr ?_; (case hd => rfl); (case hg => rfl); (case hr => first | (go_simp; done) | (go_simp; rfl)); intro gb203 hg w19 hbox hb; have n0_ := Aside0.mk (blk_below (g := gb202) (o := .cells #[.int .i64 a0_0, .int .i64 a0_1] 23 (0, 0)) q207 hb); have n1_ := Aside0.mk (below_step q208 hb); have n2_ := Aside0.mk (hbox); have n3_ := Aside0.mk ((q209 : w.heap.size ≤ gb203)); have n4_ := Aside0.mk ((q209 : w.heap.size ≤ gb203)); have n5_ := Aside0.mk ((q210 : gb202 ≠ gb203)); have n6_ := Aside0.mk ((q211 : gb203 ≠ gb202)); clear BK202; clear HB; have BK202 := n0_; have HB := n1_; have BK203 := n2_; have GW203 := n3_; have GE203 := n4_; have NB202_203 := n5_; have NB203_202 := n6_; clear n0_ n1_ n2_ n3_ n4_ n5_ n6_; clear hb hbox hg; have hnb20 := NB202_203.out; have hnc20 := NB203_202.out; have hcz21_0 : w19.cell? ⟨gb202, 0, none⟩ = some (.int .i64 a0_0) := (blk_cell BK202.out 0).trans rfl; have hcz21_1 : w19.cell? ⟨gb202, 1, none⟩ = some (.int .i64 a0_1) := (blk_cell BK202.out 1).trans rfl; have hfz21_0 := blk_frozen BK202.out 0; have hfz21_1 := blk_frozen BK202.out 1) | ((with_reducible refine gate_callee (f := 12) rfl ?_); refine goesL_ (some 6) rfl rfl Try.func12 (by kernel_rfl) rfl #[.agg #[.int .i64 a0_0, .int .i64 a0_1]] rfl q20 ?_; (with_reducible refine (frac_Right.calls k a0_0 a0_1 true _ A3.out).mono ?_); rintro e w22 ⟨rfl, hb⟩; refine ⟨_, rfl, ?_⟩; have n0_ := Aside0.mk (blk_below (g := gb202) (o := .cells #[.int .i64 a0_0, .int .i64 a0_1] 23 (0, 0)) q207 hb); have n1_ := Aside0.mk (blk_below (g := gb203) (o := .cells #[.int .i64 a1_0, .int .i64 a1_1] 23 (0, 0)) q212 hb); have n2_ := Aside0.mk (below_step q213 hb); clear BK202; clear BK203; clear HB; have BK202 := n0_; have BK203 := n1_; have HB := n2_; clear n0_ n1_ n2_; (try clear hb); (try clear hb2); (try clear hk); (try clear hi); have hcz23_0 : w22.cell? ⟨gb203, 0, none⟩ = some (.int .i64 a1_0) := (blk_cell BK203.out 0).trans rfl; have hcz23_1 : w22.cell? ⟨gb203, 1, none⟩ = some (.int .i64 a1_1) := (blk_cell BK203.out 1).trans rfl; have hfz23_0 := blk_frozen BK203.out 0; have hfz23_1 := blk_frozen BK203.out 1) | (go_at_call 12; (with_reducible refine (frac_Right.calls k a1_0 a1_1 false _ A5.out).mono ?_); rintro e w24 ⟨rfl, hb⟩; have n0_ := Aside0.mk (blk_below (g := gb202) (o := .cells #[.int .i64 a0_0, .int .i64 a0_1] 23 (0, 0)) q207 hb); have n1_ := Aside0.mk (blk_below (g := gb203) (o := .cells #[.int .i64 a1_0, .int .i64 a1_1] 23 (0, 0)) q212 hb); have n2_ := Aside0.mk (below_step q213 hb); clear BK202; clear BK203; clear HB; have BK202 := n0_; have BK203 := n1_; have HB := n2_; clear n0_ n1_ n2_; (try clear hb); (try clear hb2); (try clear hk); (try clear hi)))
   go_ret
   exact ⟨q13, q213⟩
 ·replace c4 := Bool.eq_false_iff.mpr c4
  subst c4
  have H1 : (some 0) = some r := by rw [if_neg (show ¬ (false = true) by decide)] at H; exact H
  clear H
  have H := H1
  clear H1
  obtain rfl := Option.some.inj H
  go_enter Try.func23, Try.ntmps23
  go_wp2_with (first | ((with_reducible refine gate_dst (N := 2) rfl ?_); refine box_event ?hg (N := 2) ?hd (cs := #[.int .i64 a0_0, .int .i64 a0_1]) (t := 23) ?hr ?_; (case hd => rfl); (case hg => rfl); (case hr => first | (go_simp; done) | (go_simp; rfl)); intro gb202 hg w25 hbox hb; have n0_ := Aside0.mk (below_step q11 hb); have n1_ := Aside0.mk (hbox); have n2_ := Aside0.mk ((q12 : w.heap.size ≤ gb202)); have n3_ := Aside0.mk ((q12 : w.heap.size ≤ gb202)); clear HB; have HB := n0_; have BK202 := n1_; have GW202 := n2_; have GE202 := n3_; clear n0_ n1_ n2_ n3_; clear hb hbox hg) | ((with_reducible refine gate_dst (N := 3) rfl ?_); refine box_event ?hg (N := 3) ?hd (cs := #[.int .i64 a1_0, .int .i64 a1_1]) (t := 23) ?hr ?_; (case hd => rfl); (case hg => rfl); (case hr => first | (go_simp; done) | (go_simp; rfl)); intro gb203 hg w26 hbox hb; have n0_ := Aside0.mk (blk_below (g := gb202) (o := .cells #[.int .i64 a0_0, .int .i64 a0_1] 23 (0, 0)) q207 hb); have n1_ := Aside0.mk (below_step q208 hb); have n2_ := Aside0.mk (hbox); have n3_ := Aside0.mk ((q209 : w.heap.size ≤ gb203)); have n4_ := Aside0.mk ((q209 : w.heap.size ≤ gb203)); have n5_ := Aside0.mk ((q210 : gb202 ≠ gb203)); have n6_ := Aside0.mk ((q211 : gb203 ≠ gb202)); clear BK202; clear HB; have BK202 := n0_; have HB := n1_; have BK203 := n2_; have GW203 := n3_; have GE203 := n4_; have NB202_203 := n5_; have NB203_202 := n6_; clear n0_ n1_ n2_ n3_ n4_ n5_ n6_; clear hb hbox hg; have hnb27 := NB202_203.out; have hnc27 := NB203_202.out; have hcz28_0 : w26.cell? ⟨gb202, 0, none⟩ = some (.int .i64 a0_0) := (blk_cell BK202.out 0).trans rfl; have hcz28_1 : w26.cell? ⟨gb202, 1, none⟩ = some (.int .i64 a0_1) := (blk_cell BK202.out 1).trans rfl; have hfz28_0 := blk_frozen BK202.out 0; have hfz28_1 := blk_frozen BK202.out 1) | ((with_reducible refine gate_callee (f := 12) rfl ?_); refine goesL_ (some 6) rfl rfl Try.func12 (by kernel_rfl) rfl #[.agg #[.int .i64 a0_0, .int .i64 a0_1]] rfl q20 ?_; (with_reducible refine (frac_Right.calls k a0_0 a0_1 false _ A3.out).mono ?_); rintro e w29 ⟨rfl, hb⟩; refine ⟨_, rfl, ?_⟩; have n0_ := Aside0.mk (blk_below (g := gb202) (o := .cells #[.int .i64 a0_0, .int .i64 a0_1] 23 (0, 0)) q207 hb); have n1_ := Aside0.mk (blk_below (g := gb203) (o := .cells #[.int .i64 a1_0, .int .i64 a1_1] 23 (0, 0)) q212 hb); have n2_ := Aside0.mk (below_step q213 hb); clear BK202; clear BK203; clear HB; have BK202 := n0_; have BK203 := n1_; have HB := n2_; clear n0_ n1_ n2_; (try clear hb); (try clear hb2); (try clear hk); (try clear hi)))
  go_ret
  exact ⟨q13, q213⟩

-- NOT PRINTED: function 50 (frac_join)

/-! ### frac_Add: function 25 (by hand) -/
set_option maxHeartbeats 1600000 in
theorem opAdd_any (a b c d : Int) (w : World) :
  Calls Try.prog 52 #[.agg #[.int .i64 a, .int .i64 b], .agg #[.int .i64 c, .int .i64 d]] w fun e w' => e = .returned (.agg #[.int .i64 (wrap64 (wrap64 (a * d) + wrap64 (c * b))), .int .i64 (wrap64 (b * d))]) ∧ Below w.heap.size w w' := by
 go_enter Try.func52, Try.ntmps52
 go_wp2_with fail
 exact bodyPost_ret (v := .agg #[.int .i64 (wrap64 (wrap64 (a * d) + wrap64 (c * b))), .int .i64 (wrap64 (b * d))]) (by simp [results, Try.results52, go_sem]) rfl ⟨rfl, q1⟩
set_option maxHeartbeats 6400000 in
theorem frac_Add_any (a b c d : Int) (ha : I64 a) (hb : I64 b) (hc : I64 c) (hd : I64 d) (w : World) :
  Calls Try.prog 25 #[.agg #[.int .i64 a, .int .i64 b], .agg #[.int .i64 c, .int .i64 d]] w fun e w' => e = .returned (.tuple #[.agg #[.int .i64 (joinS a b c d (wrap64 (wrap64 (a * d) + wrap64 (c * b))) (wrap64 (b * d))).1, .int .i64 (joinS a b c d (wrap64 (wrap64 (a * d) + wrap64 (c * b))) (wrap64 (b * d))).2.1], .int .i64 (joinS a b c d (wrap64 (wrap64 (a * d) + wrap64 (c * b))) (wrap64 (b * d))).2.2]) ∧ Below w.heap.size w w' := by
 have HR1 := Aside0.mk (right_any a b ha hb)
 have HR2 := Aside0.mk (right_any c d hc hd)
 have HO := Aside0.mk (opAdd_any a b c d)
 generalize hp : wrap64 (wrap64 (a * d) + wrap64 (c * b)) = p at *
 generalize hq : wrap64 (b * d) = q at *
 have HM := Aside0.mk (make_any p q (by rw [← hp]; exact i64_wrap _) (by rw [← hq]; exact i64_wrap _))
 clear hp hq ha hb hc hd
 generalize hJ : joinS a b c d p q = J
 unfold joinS at hJ
 generalize hP : (fun e w' => e = Ending.returned (.tuple #[.agg #[.int .i64 J.1, .int .i64 J.2.1], .int .i64 J.2.2]) ∧ Below w.heap.size w w') = Post
 have HJ := Aside0.mk hJ
 have HP := Aside0.mk hP
 clear hJ hP
 generalize rightS a b = r1 at *
 generalize rightS c d = r2 at *
 generalize makeS p q = m at *
 obtain ⟨m1, m2, m3⟩ := m
 dsimp only at HM
 have step : ∀ (x y z : Int), Aside0 ((x, y, z) = J) → ∀ w', Below w.heap.size w w' → Aside0 (Post (.returned (.tuple #[.agg #[.int .i64 x, .int .i64 y], .int .i64 z])) w') := by
  intro x y z h w' hb
  rw [← HP.out, ← h.out]
  exact ⟨⟨rfl, hb⟩⟩
 have HS := Aside0.mk step
 clear step HP
 go_enter Try.func25, Try.ntmps25
 go_wp2_with fail
 go_enter Try.func50, Try.ntmps50
 go_wp2_with fail
 refine (HR1.out _).mono ?_
 rintro e w1 ⟨rfl, hb1⟩
 obtain ⟨hc1, hf1⟩ := bcell hb1
 have hz1 : w.heap.size + 5 < w1.heap.size := by have := hb1.size; simp at this; omega
 have k22 : w1.cell? ⟨w.heap.size + 1 + 1, 0, none⟩ = some (.int .i64 0) := by rw [hc1 _ _ (by simp)]; go_simp
 have k23 : w1.cell? ⟨w.heap.size + 1 + 1, 1, none⟩ = some (.int .i64 0) := by rw [hc1 _ _ (by simp)]; go_simp
 have f22 : w1.frozen? ⟨w.heap.size + 1 + 1, 0, none⟩ = false := by rw [hf1 _ _ (by simp)]; go_simp
 have f23 : w1.frozen? ⟨w.heap.size + 1 + 1, 1, none⟩ = false := by rw [hf1 _ _ (by simp)]; go_simp
 have k10 : w1.cell? ⟨w.heap.size + 1 + 1 + 1, 0, none⟩ = some (.int .i64 a) := by rw [hc1 _ _ (by simp)]; go_simp
 have k11 : w1.cell? ⟨w.heap.size + 1 + 1 + 1, 1, none⟩ = some (.int .i64 b) := by rw [hc1 _ _ (by simp)]; go_simp
 have k12 : w1.cell? ⟨w.heap.size + 1 + 1 + 1 + 1, 0, none⟩ = some (.int .i64 c) := by rw [hc1 _ _ (by simp)]; go_simp
 have k13 : w1.cell? ⟨w.heap.size + 1 + 1 + 1 + 1, 1, none⟩ = some (.int .i64 d) := by rw [hc1 _ _ (by simp)]; go_simp
 have k14 : w1.cell? ⟨w.heap.size + 1 + 1 + 1 + 1 + 1, 0, none⟩ = some (.int .i64 0) := by rw [hc1 _ _ (by simp)]; go_simp
 have k15 : w1.cell? ⟨w.heap.size + 1 + 1 + 1 + 1 + 1, 1, none⟩ = some (.int .i64 0) := by rw [hc1 _ _ (by simp)]; go_simp
 have f14 : w1.frozen? ⟨w.heap.size + 1 + 1 + 1 + 1 + 1, 0, none⟩ = false := by rw [hf1 _ _ (by simp)]; go_simp
 have f15 : w1.frozen? ⟨w.heap.size + 1 + 1 + 1 + 1 + 1, 1, none⟩ = false := by rw [hf1 _ _ (by simp)]; go_simp
 have HB1 := Aside0.mk (show Below w.heap.size w w1 from ((below_alloc (below_alloc (below_alloc (below_alloc (below_alloc (below_alloc (Below.refl _ w) _) _) _) _) _) _).trans (hb1.mono (by simp; omega))))
 clear hb1 hf1 hc1
 cases r1
 ·go_wp2_with fail
  refine bodyPost_ret (v := .tuple #[.agg #[.int .i64 0, .int .i64 0], .int .i64 2]) q2 rfl ?_
  go_wp2_with fail
  refine bodyPost_ret (v := .tuple #[.agg #[.int .i64 0, .int .i64 0], .int .i64 2]) q214 rfl ?_
  exact (HS.out 0 0 2 HJ _ q4).out
 ·go_wp2_with fail
  refine (HR2.out _).mono ?_
  rintro e w2 ⟨rfl, hb2⟩
  obtain ⟨hc2, hf2⟩ := bcell hb2
  have hz2 : w.heap.size + 5 < w2.heap.size := by have := hb2.size; omega
  replace k22 : w2.cell? ⟨w.heap.size + 1 + 1, 0, none⟩ = some (.int .i64 0) := by rw [hc2 _ _ (by omega)]; exact k22
  replace k23 : w2.cell? ⟨w.heap.size + 1 + 1, 1, none⟩ = some (.int .i64 0) := by rw [hc2 _ _ (by omega)]; exact k23
  replace f22 : w2.frozen? ⟨w.heap.size + 1 + 1, 0, none⟩ = false := by rw [hf2 _ _ (by omega)]; exact f22
  replace f23 : w2.frozen? ⟨w.heap.size + 1 + 1, 1, none⟩ = false := by rw [hf2 _ _ (by omega)]; exact f23
  replace k10 : w2.cell? ⟨w.heap.size + 1 + 1 + 1, 0, none⟩ = some (.int .i64 a) := by rw [hc2 _ _ (by omega)]; exact k10
  replace k11 : w2.cell? ⟨w.heap.size + 1 + 1 + 1, 1, none⟩ = some (.int .i64 b) := by rw [hc2 _ _ (by omega)]; exact k11
  replace k12 : w2.cell? ⟨w.heap.size + 1 + 1 + 1 + 1, 0, none⟩ = some (.int .i64 c) := by rw [hc2 _ _ (by omega)]; exact k12
  replace k13 : w2.cell? ⟨w.heap.size + 1 + 1 + 1 + 1, 1, none⟩ = some (.int .i64 d) := by rw [hc2 _ _ (by omega)]; exact k13
  replace k14 : w2.cell? ⟨w.heap.size + 1 + 1 + 1 + 1 + 1, 0, none⟩ = some (.int .i64 0) := by rw [hc2 _ _ (by omega)]; exact k14
  replace k15 : w2.cell? ⟨w.heap.size + 1 + 1 + 1 + 1 + 1, 1, none⟩ = some (.int .i64 0) := by rw [hc2 _ _ (by omega)]; exact k15
  replace f14 : w2.frozen? ⟨w.heap.size + 1 + 1 + 1 + 1 + 1, 0, none⟩ = false := by rw [hf2 _ _ (by omega)]; exact f14
  replace f15 : w2.frozen? ⟨w.heap.size + 1 + 1 + 1 + 1 + 1, 1, none⟩ = false := by rw [hf2 _ _ (by omega)]; exact f15
  have HB2 := Aside0.mk (show Below w.heap.size w w2 from HB1.out.trans (hb2.mono (by omega)))
  clear hb2 hf2 hc2 HB1 hz1
  cases r2
  ·go_wp2_with fail
   refine bodyPost_ret (v := .tuple #[.agg #[.int .i64 0, .int .i64 0], .int .i64 2]) q2 rfl ?_
   go_wp2_with fail
   refine bodyPost_ret (v := .tuple #[.agg #[.int .i64 0, .int .i64 0], .int .i64 2]) q214 rfl ?_
   exact (HS.out 0 0 2 HJ _ q5).out
  ·go_wp2_with fail
   refine (HO.out _).mono ?_
   rintro e w3 ⟨rfl, hb3⟩
   obtain ⟨hc3, hf3⟩ := bcell hb3
   have hz3 : w.heap.size + 5 < w3.heap.size := by have := hb3.size; omega
   replace k22 : w3.cell? ⟨w.heap.size + 1 + 1, 0, none⟩ = some (.int .i64 0) := by rw [hc3 _ _ (by omega)]; exact k22
   replace k23 : w3.cell? ⟨w.heap.size + 1 + 1, 1, none⟩ = some (.int .i64 0) := by rw [hc3 _ _ (by omega)]; exact k23
   replace f22 : w3.frozen? ⟨w.heap.size + 1 + 1, 0, none⟩ = false := by rw [hf3 _ _ (by omega)]; exact f22
   replace f23 : w3.frozen? ⟨w.heap.size + 1 + 1, 1, none⟩ = false := by rw [hf3 _ _ (by omega)]; exact f23
   replace k14 : w3.cell? ⟨w.heap.size + 1 + 1 + 1 + 1 + 1, 0, none⟩ = some (.int .i64 0) := by rw [hc3 _ _ (by omega)]; exact k14
   replace k15 : w3.cell? ⟨w.heap.size + 1 + 1 + 1 + 1 + 1, 1, none⟩ = some (.int .i64 0) := by rw [hc3 _ _ (by omega)]; exact k15
   replace f14 : w3.frozen? ⟨w.heap.size + 1 + 1 + 1 + 1 + 1, 0, none⟩ = false := by rw [hf3 _ _ (by omega)]; exact f14
   replace f15 : w3.frozen? ⟨w.heap.size + 1 + 1 + 1 + 1 + 1, 1, none⟩ = false := by rw [hf3 _ _ (by omega)]; exact f15
   have HB3 := Aside0.mk (show Below w.heap.size w w3 from HB2.out.trans (hb3.mono (by omega)))
   clear hb3 hf3 hc3 HB2 hz2 k10 k11 k12 k13
   go_wp2_with fail
   refine (HM.out _).mono ?_
   rintro e w4 ⟨rfl, hb4⟩
   have hb34 : Below w3.heap.size w3 w4 := Below.trans (show Below w3.heap.size w3 _ from by repeat (first | exact Below.refl _ _ | apply pw_below_drewN | apply below_alloc)) (hb4.mono (by simp))
   obtain ⟨hc4, hf4⟩ := bcell hb34
   have hz4 : w.heap.size + 5 < w4.heap.size := by have := hb34.size; omega
   replace k22 : w4.cell? ⟨w.heap.size + 1 + 1, 0, none⟩ = some (.int .i64 0) := by rw [hc4 _ _ (by omega)]; exact k22
   replace k23 : w4.cell? ⟨w.heap.size + 1 + 1, 1, none⟩ = some (.int .i64 0) := by rw [hc4 _ _ (by omega)]; exact k23
   replace f22 : w4.frozen? ⟨w.heap.size + 1 + 1, 0, none⟩ = false := by rw [hf4 _ _ (by omega)]; exact f22
   replace f23 : w4.frozen? ⟨w.heap.size + 1 + 1, 1, none⟩ = false := by rw [hf4 _ _ (by omega)]; exact f23
   replace k14 : w4.cell? ⟨w.heap.size + 1 + 1 + 1 + 1 + 1, 0, none⟩ = some (.int .i64 0) := by rw [hc4 _ _ (by omega)]; exact k14
   replace k15 : w4.cell? ⟨w.heap.size + 1 + 1 + 1 + 1 + 1, 1, none⟩ = some (.int .i64 0) := by rw [hc4 _ _ (by omega)]; exact k15
   replace f14 : w4.frozen? ⟨w.heap.size + 1 + 1 + 1 + 1 + 1, 0, none⟩ = false := by rw [hf4 _ _ (by omega)]; exact f14
   replace f15 : w4.frozen? ⟨w.heap.size + 1 + 1 + 1 + 1 + 1, 1, none⟩ = false := by rw [hf4 _ _ (by omega)]; exact f15
   have HB4 := Aside0.mk (show Below w.heap.size w w4 from HB3.out.trans (hb34.mono (by omega)))
   clear hb4 hb34 hf4 hc4 HB3 hz3
   go_wp2_with fail
   refine bodyPost_ret (v := .tuple #[.agg #[.int .i64 m1, .int .i64 m2], .int .i64 m3]) q2 rfl ?_
   go_wp2_with fail
   refine bodyPost_ret (v := .tuple #[.agg #[.int .i64 m1, .int .i64 m2], .int .i64 m3]) q214 rfl ?_
   exact (HS.out m1 m2 m3 HJ _ q6).out
def frac_Add.f (a0_0 a0_1 a1_0 a1_1 : Int) : Option (Int × Int × Int) := if I64 a0_0 ∧ I64 a0_1 ∧ I64 a1_0 ∧ I64 a1_1 then some (joinS a0_0 a0_1 a1_0 a1_1 (wrap64 (wrap64 (a0_0 * a1_1) + wrap64 (a1_0 * a0_1))) (wrap64 (a0_1 * a1_1))) else none
theorem frac_Add.calls (a0_0 : Int) (a0_1 : Int) (a1_0 : Int) (a1_1 : Int) (r1 : Int) (r2 : Int) (r3 : Int) (w : World) (h : frac_Add.f a0_0 a0_1 a1_0 a1_1 = some (r1, r2, r3)) :
  Calls Try.prog 25 #[.agg #[.int .i64 a0_0, .int .i64 a0_1], .agg #[.int .i64 a1_0, .int .i64 a1_1]] w fun e w' => e = .returned (.tuple #[.agg #[.int .i64 r1, .int .i64 r2], .int .i64 r3]) ∧ Below w.heap.size w w' := by
 unfold frac_Add.f at h
 split at h
 ·rename_i hb
  have hj := frac_Add_any a0_0 a0_1 a1_0 a1_1 hb.1 hb.2.1 hb.2.2.1 hb.2.2.2 w
  rw [Option.some.inj h] at hj
  exact hj
 ·cases h

/-! ### accountinglaw03_lives: function 14 (by hand) -/
def Makes (f : FuncId) (args : Array Value) (v : Value) : Prop := ∀ W, Calls Try.prog f args W fun e w' => e = .returned v ∧ Below W.heap.size W w'
set_option maxHeartbeats 6400000 in
set_option maxRecDepth 100000 in
theorem lives_walk (w : World)
  (C1 : Aside0 (Makes 15 #[.int .i64 6, .int .i64 (-4)] (.tuple #[.agg #[.int .i64 (-3), .int .i64 2], .int .i64 0])))
  (C2 : Aside0 (Makes 25 #[.agg #[.int .i64 1, .int .i64 2], .agg #[.int .i64 1, .int .i64 3]] (.tuple #[.agg #[.int .i64 5, .int .i64 6], .int .i64 0])))
  (C3 : Aside0 (Makes 17 #[.agg #[.int .i64 1, .int .i64 3], .int .i64 100, .int .i64 2] (.tuple #[.int .i64 34, .int .i64 0])))
  (C4 : Aside0 (Makes 19 #[.agg #[.int .i64 (-3), .int .i64 2]] (.tuple #[.string ⟨#[45, 51, 47, 50]⟩, .int .i64 0])))
  (C5 : Aside0 (Makes 21 #[.string ⟨#[48, 46, 50, 53]⟩] (.tuple #[.agg #[.int .i64 1, .int .i64 4], .int .i64 0])))
  (C6 : Aside0 (Makes 21 #[.string ⟨#[45, 48]⟩] (.tuple #[.agg #[.int .i64 0, .int .i64 0], .int .i64 5])))
  (C7 : Aside0 (Makes 15 #[.int .i64 1, .int .i64 1000001] (.tuple #[.agg #[.int .i64 0, .int .i64 0], .int .i64 4])))
  (C8 : Aside0 (Makes 12 #[.agg #[.int .i64 1, .int .i64 2]] (.bool true)))
  (C9 : Aside0 (Makes 23 #[.agg #[.int .i64 1, .int .i64 2], .agg #[.int .i64 1, .int .i64 3]] (.int .i64 1))) :
  Calls Try.prog 14 #[] w fun e w' => e = .returned (.bool true) ∧ Below w.heap.size w w' := by
 have HPost : ∀ W, Below w.heap.size w W → (fun (e : Ending) (w' : World) => e = .returned (.bool true) ∧ Below w.heap.size w w') (.returned (.bool true)) W := fun W hW => ⟨rfl, hW⟩
 generalize (fun (e : Ending) (w' : World) => e = .returned (.bool true) ∧ Below w.heap.size w w') = Post at HPost ⊢
 have HP := Aside0.mk HPost
 clear HPost
 go_enter Try.func14, Try.ntmps14
 go_wp2_with fail
 have T1 := Aside0.mk ((Two.new w (.int .i64 1) (.int .i64 2) 23).alloc (.cells #[.int .i64 1, .int .i64 3] 23))
 have T2 := Aside0.mk (Two.new (w.alloc (.cells #[.int .i64 1, .int .i64 2] 23)) (.int .i64 1) (.int .i64 3) 23)
 have HB := Aside0.mk (below_alloc (below_alloc (Below.refl w.heap.size w) (.cells #[.int .i64 1, .int .i64 2] 23)) (.cells #[.int .i64 1, .int .i64 3] 23))
 have hg2 : (w.alloc (.cells #[.int .i64 1, .int .i64 2] 23)).heap.size = w.heap.size + 1 := by simp
 rw [hg2] at T2
 clear hg2
 refine (C1.out _).mono ?_
 rintro e W1 ⟨rfl, hb⟩
 have T1_ := Aside0.mk (T1.out.below hb)
 clear T1
 have T1 := T1_
 clear T1_
 have T2_ := Aside0.mk (T2.out.below hb)
 clear T2
 have T2 := T2_
 clear T2_
 have HB_ := Aside0.mk (HB.out.trans (hb.mono HB.out.size))
 clear HB hb
 have HB := HB_
 clear HB_
 have T1a := fun O => (T1.out.alloc O).c0
 have T1b := fun O => (T1.out.alloc O).c1
 have T2a := fun O => (T2.out.alloc O).c0
 have T2b := fun O => (T2.out.alloc O).c1
 go_wp2_with fail
 clear T1a T1b
 clear T2a T2b
 have T1_ := Aside0.mk (T1.out.alloc (.cells #[(.int .i64 (-3)), (.int .i64 (2))] 23))
 clear T1
 have T1 := T1_
 clear T1_
 have T2_ := Aside0.mk (T2.out.alloc (.cells #[(.int .i64 (-3)), (.int .i64 (2))] 23))
 clear T2
 have T2 := T2_
 clear T2_
 have T3 := Aside0.mk (Two.new W1 (.int .i64 (-3)) (.int .i64 (2)) 23)
 have HB_ := Aside0.mk (below_alloc HB.out (.cells #[(.int .i64 (-3)), (.int .i64 (2))] 23))
 clear HB
 have HB := HB_
 clear HB_
 refine (C2.out _).mono ?_
 rintro e W2 ⟨rfl, hb⟩
 have T1_ := Aside0.mk (T1.out.below hb)
 clear T1
 have T1 := T1_
 clear T1_
 have T2_ := Aside0.mk (T2.out.below hb)
 clear T2
 have T2 := T2_
 clear T2_
 have T3_ := Aside0.mk (T3.out.below hb)
 clear T3
 have T3 := T3_
 clear T3_
 have HB_ := Aside0.mk (HB.out.trans (hb.mono HB.out.size))
 clear HB hb
 have HB := HB_
 clear HB_
 have T2a := fun O => (T2.out.alloc O).c0
 have T2b := fun O => (T2.out.alloc O).c1
 go_wp2_with fail
 clear T2a T2b
 have T1_ := Aside0.mk (T1.out.alloc (.cells #[(.int .i64 (5)), (.int .i64 (6))] 23))
 clear T1
 have T1 := T1_
 clear T1_
 have T2_ := Aside0.mk (T2.out.alloc (.cells #[(.int .i64 (5)), (.int .i64 (6))] 23))
 clear T2
 have T2 := T2_
 clear T2_
 have T3_ := Aside0.mk (T3.out.alloc (.cells #[(.int .i64 (5)), (.int .i64 (6))] 23))
 clear T3
 have T3 := T3_
 clear T3_
 have T5 := Aside0.mk (Two.new W2 (.int .i64 (5)) (.int .i64 (6)) 23)
 have HB_ := Aside0.mk (below_alloc HB.out (.cells #[(.int .i64 (5)), (.int .i64 (6))] 23))
 clear HB
 have HB := HB_
 clear HB_
 refine (C3.out _).mono ?_
 rintro e W3 ⟨rfl, hb⟩
 have T1_ := Aside0.mk (T1.out.below hb)
 clear T1
 have T1 := T1_
 clear T1_
 have T2_ := Aside0.mk (T2.out.below hb)
 clear T2
 have T2 := T2_
 clear T2_
 have T3_ := Aside0.mk (T3.out.below hb)
 clear T3
 have T3 := T3_
 clear T3_
 have T5_ := Aside0.mk (T5.out.below hb)
 clear T5
 have T5 := T5_
 clear T5_
 have HB_ := Aside0.mk (HB.out.trans (hb.mono HB.out.size))
 clear HB hb
 have HB := HB_
 clear HB_
 go_wp2_with fail
 refine (C4.out _).mono ?_
 rintro e W4 ⟨rfl, hb⟩
 have T1_ := Aside0.mk (T1.out.below hb)
 clear T1
 have T1 := T1_
 clear T1_
 have T2_ := Aside0.mk (T2.out.below hb)
 clear T2
 have T2 := T2_
 clear T2_
 have T3_ := Aside0.mk (T3.out.below hb)
 clear T3
 have T3 := T3_
 clear T3_
 have T5_ := Aside0.mk (T5.out.below hb)
 clear T5
 have T5 := T5_
 clear T5_
 have HB_ := Aside0.mk (HB.out.trans (hb.mono HB.out.size))
 clear HB hb
 have HB := HB_
 clear HB_
 go_wp2_with fail
 refine (C5.out _).mono ?_
 rintro e W5 ⟨rfl, hb⟩
 have T1_ := Aside0.mk (T1.out.below hb)
 clear T1
 have T1 := T1_
 clear T1_
 have T2_ := Aside0.mk (T2.out.below hb)
 clear T2
 have T2 := T2_
 clear T2_
 have T3_ := Aside0.mk (T3.out.below hb)
 clear T3
 have T3 := T3_
 clear T3_
 have T5_ := Aside0.mk (T5.out.below hb)
 clear T5
 have T5 := T5_
 clear T5_
 have HB_ := Aside0.mk (HB.out.trans (hb.mono HB.out.size))
 clear HB hb
 have HB := HB_
 clear HB_
 go_wp2_with fail
 have T1_ := Aside0.mk (T1.out.alloc (.cells #[(.int .i64 (1)), (.int .i64 (4))] 23))
 clear T1
 have T1 := T1_
 clear T1_
 have T2_ := Aside0.mk (T2.out.alloc (.cells #[(.int .i64 (1)), (.int .i64 (4))] 23))
 clear T2
 have T2 := T2_
 clear T2_
 have T3_ := Aside0.mk (T3.out.alloc (.cells #[(.int .i64 (1)), (.int .i64 (4))] 23))
 clear T3
 have T3 := T3_
 clear T3_
 have T5_ := Aside0.mk (T5.out.alloc (.cells #[(.int .i64 (1)), (.int .i64 (4))] 23))
 clear T5
 have T5 := T5_
 clear T5_
 have T11 := Aside0.mk (Two.new W5 (.int .i64 (1)) (.int .i64 (4)) 23)
 have HB_ := Aside0.mk (below_alloc HB.out (.cells #[(.int .i64 (1)), (.int .i64 (4))] 23))
 clear HB
 have HB := HB_
 clear HB_
 refine (C6.out _).mono ?_
 rintro e W6 ⟨rfl, hb⟩
 have T1_ := Aside0.mk (T1.out.below hb)
 clear T1
 have T1 := T1_
 clear T1_
 have T2_ := Aside0.mk (T2.out.below hb)
 clear T2
 have T2 := T2_
 clear T2_
 have T3_ := Aside0.mk (T3.out.below hb)
 clear T3
 have T3 := T3_
 clear T3_
 have T5_ := Aside0.mk (T5.out.below hb)
 clear T5
 have T5 := T5_
 clear T5_
 have T11_ := Aside0.mk (T11.out.below hb)
 clear T11
 have T11 := T11_
 clear T11_
 have HB_ := Aside0.mk (HB.out.trans (hb.mono HB.out.size))
 clear HB hb
 have HB := HB_
 clear HB_
 go_wp2_with fail
 have T1_ := Aside0.mk (T1.out.alloc (.cells #[(.int .i64 (0)), (.int .i64 (0))] 23))
 clear T1
 have T1 := T1_
 clear T1_
 have T2_ := Aside0.mk (T2.out.alloc (.cells #[(.int .i64 (0)), (.int .i64 (0))] 23))
 clear T2
 have T2 := T2_
 clear T2_
 have T3_ := Aside0.mk (T3.out.alloc (.cells #[(.int .i64 (0)), (.int .i64 (0))] 23))
 clear T3
 have T3 := T3_
 clear T3_
 have T5_ := Aside0.mk (T5.out.alloc (.cells #[(.int .i64 (0)), (.int .i64 (0))] 23))
 clear T5
 have T5 := T5_
 clear T5_
 have T11_ := Aside0.mk (T11.out.alloc (.cells #[(.int .i64 (0)), (.int .i64 (0))] 23))
 clear T11
 have T11 := T11_
 clear T11_
 have T13 := Aside0.mk (Two.new W6 (.int .i64 (0)) (.int .i64 (0)) 23)
 have HB_ := Aside0.mk (below_alloc HB.out (.cells #[(.int .i64 (0)), (.int .i64 (0))] 23))
 clear HB
 have HB := HB_
 clear HB_
 refine (C7.out _).mono ?_
 rintro e W7 ⟨rfl, hb⟩
 have T1_ := Aside0.mk (T1.out.below hb)
 clear T1
 have T1 := T1_
 clear T1_
 have T2_ := Aside0.mk (T2.out.below hb)
 clear T2
 have T2 := T2_
 clear T2_
 have T3_ := Aside0.mk (T3.out.below hb)
 clear T3
 have T3 := T3_
 clear T3_
 have T5_ := Aside0.mk (T5.out.below hb)
 clear T5
 have T5 := T5_
 clear T5_
 have T11_ := Aside0.mk (T11.out.below hb)
 clear T11
 have T11 := T11_
 clear T11_
 have HB_ := Aside0.mk (HB.out.trans (hb.mono HB.out.size))
 clear HB hb
 have HB := HB_
 clear HB_
 have T1a := fun O => (T1.out.alloc O).c0
 have T1b := fun O => (T1.out.alloc O).c1
 have T2a := fun O => (T2.out.alloc O).c0
 have T2b := fun O => (T2.out.alloc O).c1
 have T3a := fun O => (T3.out.alloc O).c0
 have T3b := fun O => (T3.out.alloc O).c1
 have T5a := fun O => (T5.out.alloc O).c0
 have T5b := fun O => (T5.out.alloc O).c1
 have T11a := fun O => (T11.out.alloc O).c0
 have T11b := fun O => (T11.out.alloc O).c1
 go_wp2_with fail
 clear T1a T1b
 clear T2a T2b
 clear T3a T3b
 clear T5a T5b
 clear T11a T11b
 have T1_ := Aside0.mk (T1.out.alloc (.cells #[(.int .i64 (0)), (.int .i64 (0))] 23))
 clear T1
 have T1 := T1_
 clear T1_
 have T2_ := Aside0.mk (T2.out.alloc (.cells #[(.int .i64 (0)), (.int .i64 (0))] 23))
 clear T2
 have T2 := T2_
 clear T2_
 have T3_ := Aside0.mk (T3.out.alloc (.cells #[(.int .i64 (0)), (.int .i64 (0))] 23))
 clear T3
 have T3 := T3_
 clear T3_
 have T5_ := Aside0.mk (T5.out.alloc (.cells #[(.int .i64 (0)), (.int .i64 (0))] 23))
 clear T5
 have T5 := T5_
 clear T5_
 have T11_ := Aside0.mk (T11.out.alloc (.cells #[(.int .i64 (0)), (.int .i64 (0))] 23))
 clear T11
 have T11 := T11_
 clear T11_
 have T15 := Aside0.mk (Two.new W7 (.int .i64 (0)) (.int .i64 (0)) 23)
 have HB_ := Aside0.mk (below_alloc HB.out (.cells #[(.int .i64 (0)), (.int .i64 (0))] 23))
 clear HB
 have HB := HB_
 clear HB_
 refine (C8.out _).mono ?_
 rintro e W8 ⟨rfl, hb⟩
 have T1_ := Aside0.mk (T1.out.below hb)
 clear T1
 have T1 := T1_
 clear T1_
 have T2_ := Aside0.mk (T2.out.below hb)
 clear T2
 have T2 := T2_
 clear T2_
 have T3_ := Aside0.mk (T3.out.below hb)
 clear T3
 have T3 := T3_
 clear T3_
 have T5_ := Aside0.mk (T5.out.below hb)
 clear T5
 have T5 := T5_
 clear T5_
 have T11_ := Aside0.mk (T11.out.below hb)
 clear T11
 have T11 := T11_
 clear T11_
 have HB_ := Aside0.mk (HB.out.trans (hb.mono HB.out.size))
 clear HB hb
 have HB := HB_
 clear HB_
 have T1a := T1.out.c0
 have T1b := T1.out.c1
 have T2a := T2.out.c0
 have T2b := T2.out.c1
 go_wp2_with fail
 clear T1a T1b
 clear T2a T2b
 refine (C9.out _).mono ?_
 rintro e W9 ⟨rfl, hb⟩
 have HB_ := Aside0.mk (HB.out.trans (hb.mono HB.out.size))
 clear HB hb
 have HB := HB_
 clear HB_
 go_wp2_with fail
 (try go_ret)
 exact HP.out _ HB.out
def accountinglaw03_lives.f : Option Bool := some true
theorem accountinglaw03_lives.calls (r : Bool) (w : World) (h : accountinglaw03_lives.f = some r) :
  Calls Try.prog 14 #[] w fun e w' => e = .returned (.bool r) ∧ Below w.heap.size w w' := by
 obtain rfl := Option.some.inj h
 exact lives_walk w ⟨fun W => frac_Make.calls 50 6 (-4) _ _ _ W (by decide +kernel)⟩ ⟨fun W => frac_Add.calls 1 2 1 3 _ _ _ W (by decide +kernel)⟩ ⟨fun W => frac_Apply.calls 50 1 3 100 2 _ _ W (by decide +kernel)⟩
  ⟨fun W => frac_Text.calls 50 (-3) 2 _ _ W (by decide +kernel)⟩ ⟨fun W => frac_Parse.calls 50 ⟨#[48, 46, 50, 53]⟩ _ _ _ W (by decide +kernel)⟩ ⟨fun W => frac_Parse.calls 50 ⟨#[45, 48]⟩ _ _ _ W (by decide +kernel)⟩
  ⟨fun W => frac_Make.calls 50 1 1000001 _ _ _ W (by decide +kernel)⟩ ⟨fun W => frac_Right.calls 50 1 2 _ W (by decide +kernel)⟩ ⟨fun W => frac_Cmp.calls 50 1 2 1 3 _ W (by decide +kernel)⟩

end Go.Proofs.Ytoenhagbgfkihaa.A
