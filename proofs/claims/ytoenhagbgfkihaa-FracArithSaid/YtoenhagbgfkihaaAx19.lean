-- By gen.py, a program of this session's, over the print's forms: not the print's own text.
import Derived.Test.YtoenhagbgfkihaaAx0
import Derived.Test.YtoenhagbgfkihaaQ
import Derived.Test.YtoenhagbgfkihaaAx1
import Derived.Test.YtoenhagbgfkihaaAx9
import Derived.Test.YtoenhagbgfkihaaAx10
import Derived.Test.YtoenhagbgfkihaaAx13
namespace Go.Proofs.Ytoenhagbgfkihaa.A
open Go.RowKit Go.Proofs.Ytoenhagbgfkihaa.B Go.Proofs.YtoenhagbgfkihaaW.PrintWords Go.Proofs.YtoenhagbgfkihaaW.PrintLast Go.Proofs.YtoenhagbgfkihaaW.PrintMore
attribute [local go_sem] max2_int min2_int max_two min_two max_three min_three max_four min_four   -- for this text's walks alone
set_option linter.unusedVariables false
set_option linter.unusedSimpArgs false

attribute [local go_sem high] eqA23
/-! ### accountinglaw03_FracArith: function 10 -/
mutual
def accountinglaw03_FracArith.j0 : Nat → Bool → Int → Int → Int → Int → Option (Bool)
 | 0, _, _, _, _, _ => none
 | k + 1, x28, x351000, x351001, x352000, x352001 => if x28 = true then (some false) else ((frac_Sub.f x351000 x351001 x352000 x352001).bind fun bt360 => ((accountingref03_Sub.f k x351000 x351001 x352000 x352001).bind fun bt363 => (if (!(bt360.1 == bt363.1) || (!(bt360.2.1 == bt363.2.1))) = true then (accountinglaw03_FracArith.j1 k true x351000 x351001 x352000 x352001) else (accountinglaw03_FracArith.j1 k (bt360.2.2 != bt363.2.2) x351000 x351001 x352000 x352001))))
def accountinglaw03_FracArith.j1 : Nat → Bool → Int → Int → Int → Int → Option (Bool)
 | 0, _, _, _, _, _ => none
 | k + 1, x48, x351000, x351001, x352000, x352001 => if x48 = true then (some false) else ((frac_Mul.f x351000 x351001 x352000 x352001).bind fun bt366 => ((accountingref03_Mul.f k x351000 x351001 x352000 x352001).bind fun bt369 => (if (!(bt366.1 == bt369.1) || (!(bt366.2.1 == bt369.2.1))) = true then (accountinglaw03_FracArith.j2 k true x351000 x351001 x352000 x352001) else (accountinglaw03_FracArith.j2 k (bt366.2.2 != bt369.2.2) x351000 x351001 x352000 x352001))))
def accountinglaw03_FracArith.j2 : Nat → Bool → Int → Int → Int → Int → Option (Bool)
 | 0, _, _, _, _, _ => none
 | k + 1, x68, x351000, x351001, x352000, x352001 => if x68 = true then (some false) else ((frac_Quo.f x351000 x351001 x352000 x352001).bind fun bt372 => ((accountingref03_Quo.f k x351000 x351001 x352000 x352001).bind fun bt375 => (if (bt372.1 == bt375.1 && (bt372.2.1 == bt375.2.1)) = true then (if bt372.2.2 = bt375.2.2 then ((frac_Cmp.f k x351000 x351001 x352000 x352001).bind fun t378 => ((accountingref03_Cmp.f k x351000 x351001 x352000 x352001).bind fun t379 => (if t378 = t379 then ((accountinglaw03_lives.f).bind fun t380 => (some t380)) else (some false)))) else (some false)) else (some false))))
end
def accountinglaw03_FracArith.f (k : Nat) (a0_0 : Int) (a0_1 : Int) (a1_0 : Int) (a1_1 : Int) : Option (Bool) := (frac_Add.f a0_0 a0_1 a1_0 a1_1).bind fun bt352 => ((accountingref03_Add.f k a0_0 a0_1 a1_0 a1_1).bind fun bt356 => (if (!(bt352.1 == bt356.1) || (!(bt352.2.1 == bt356.2.1))) = true then (accountinglaw03_FracArith.j0 k true a0_0 a0_1 a1_0 a1_1) else (accountinglaw03_FracArith.j0 k (bt352.2.2 != bt356.2.2) a0_0 a0_1 a1_0 a1_1)))
theorem accountinglaw03_FracArith.mono_l : ∀ k, (∀ y0 y1 y2 y3 y4, LeO (accountinglaw03_FracArith.j0 k y0 y1 y2 y3 y4) (accountinglaw03_FracArith.j0 (k + 1) y0 y1 y2 y3 y4)) ∧ (∀ y0 y1 y2 y3 y4, LeO (accountinglaw03_FracArith.j1 k y0 y1 y2 y3 y4) (accountinglaw03_FracArith.j1 (k + 1) y0 y1 y2 y3 y4)) ∧ (∀ y0 y1 y2 y3 y4, LeO (accountinglaw03_FracArith.j2 k y0 y1 y2 y3 y4) (accountinglaw03_FracArith.j2 (k + 1) y0 y1 y2 y3 y4))
 | 0 => ⟨fun _ _ _ _ _ r h => by simp [accountinglaw03_FracArith.j0] at h, fun _ _ _ _ _ r h => by simp [accountinglaw03_FracArith.j1] at h, fun _ _ _ _ _ r h => by simp [accountinglaw03_FracArith.j2] at h⟩
 | k + 1 => by
  obtain ⟨ih0, ih1, ih2⟩ := accountinglaw03_FracArith.mono_l k
  refine ⟨?_, ?_, ?_⟩
  ·intro y0 y1 y2 y3 y4
   unfold accountinglaw03_FracArith.j0
   repeat' first
   | (with_reducible exact ih0 _ _ _ _ _)
   | (with_reducible exact ih1 _ _ _ _ _)
   | (with_reducible exact ih2 _ _ _ _ _)
   | (with_reducible exact accountingref03_Add.mono _ _ _ _ _)
   | (with_reducible exact accountingref03_Cmp.mono _ _ _ _ _)
   | (with_reducible exact accountingref03_Mul.mono _ _ _ _ _)
   | (with_reducible exact accountingref03_Quo.mono _ _ _ _ _)
   | (with_reducible exact accountingref03_Sub.mono _ _ _ _ _)
   | (with_reducible exact frac_Cmp.mono _ _ _ _ _)
   | (with_reducible exact LeO.refl _)
   | (with_reducible exact LeO.none _)
   | (with_reducible refine LeO.ite ?_ ?_)
   | (with_reducible refine LeO.bind ?_ (fun _ => ?_))
   | exact ih0 _ _ _ _ _
   | exact ih1 _ _ _ _ _
   | exact ih2 _ _ _ _ _
   | exact accountingref03_Add.mono _ _ _ _ _
   | exact accountingref03_Cmp.mono _ _ _ _ _
   | exact accountingref03_Mul.mono _ _ _ _ _
   | exact accountingref03_Quo.mono _ _ _ _ _
   | exact accountingref03_Sub.mono _ _ _ _ _
   | exact frac_Cmp.mono _ _ _ _ _
   | exact LeO.none _
   | refine LeO.ite ?_ ?_
   | refine LeO.bind ?_ (fun _ => ?_)
  ·intro y0 y1 y2 y3 y4
   unfold accountinglaw03_FracArith.j1
   repeat' first
   | (with_reducible exact ih0 _ _ _ _ _)
   | (with_reducible exact ih1 _ _ _ _ _)
   | (with_reducible exact ih2 _ _ _ _ _)
   | (with_reducible exact accountingref03_Add.mono _ _ _ _ _)
   | (with_reducible exact accountingref03_Cmp.mono _ _ _ _ _)
   | (with_reducible exact accountingref03_Mul.mono _ _ _ _ _)
   | (with_reducible exact accountingref03_Quo.mono _ _ _ _ _)
   | (with_reducible exact accountingref03_Sub.mono _ _ _ _ _)
   | (with_reducible exact frac_Cmp.mono _ _ _ _ _)
   | (with_reducible exact LeO.refl _)
   | (with_reducible exact LeO.none _)
   | (with_reducible refine LeO.ite ?_ ?_)
   | (with_reducible refine LeO.bind ?_ (fun _ => ?_))
   | exact ih0 _ _ _ _ _
   | exact ih1 _ _ _ _ _
   | exact ih2 _ _ _ _ _
   | exact accountingref03_Add.mono _ _ _ _ _
   | exact accountingref03_Cmp.mono _ _ _ _ _
   | exact accountingref03_Mul.mono _ _ _ _ _
   | exact accountingref03_Quo.mono _ _ _ _ _
   | exact accountingref03_Sub.mono _ _ _ _ _
   | exact frac_Cmp.mono _ _ _ _ _
   | exact LeO.none _
   | refine LeO.ite ?_ ?_
   | refine LeO.bind ?_ (fun _ => ?_)
  ·intro y0 y1 y2 y3 y4
   unfold accountinglaw03_FracArith.j2
   repeat' first
   | (with_reducible exact ih0 _ _ _ _ _)
   | (with_reducible exact ih1 _ _ _ _ _)
   | (with_reducible exact ih2 _ _ _ _ _)
   | (with_reducible exact accountingref03_Add.mono _ _ _ _ _)
   | (with_reducible exact accountingref03_Cmp.mono _ _ _ _ _)
   | (with_reducible exact accountingref03_Mul.mono _ _ _ _ _)
   | (with_reducible exact accountingref03_Quo.mono _ _ _ _ _)
   | (with_reducible exact accountingref03_Sub.mono _ _ _ _ _)
   | (with_reducible exact frac_Cmp.mono _ _ _ _ _)
   | (with_reducible exact LeO.refl _)
   | (with_reducible exact LeO.none _)
   | (with_reducible refine LeO.ite ?_ ?_)
   | (with_reducible refine LeO.bind ?_ (fun _ => ?_))
   | exact ih0 _ _ _ _ _
   | exact ih1 _ _ _ _ _
   | exact ih2 _ _ _ _ _
   | exact accountingref03_Add.mono _ _ _ _ _
   | exact accountingref03_Cmp.mono _ _ _ _ _
   | exact accountingref03_Mul.mono _ _ _ _ _
   | exact accountingref03_Quo.mono _ _ _ _ _
   | exact accountingref03_Sub.mono _ _ _ _ _
   | exact frac_Cmp.mono _ _ _ _ _
   | exact LeO.none _
   | refine LeO.ite ?_ ?_
   | refine LeO.bind ?_ (fun _ => ?_)
theorem accountinglaw03_FracArith.mono : ∀ a0 a1 a2 a3 k, LeO (accountinglaw03_FracArith.f k a0 a1 a2 a3) (accountinglaw03_FracArith.f (k + 1) a0 a1 a2 a3) := by
 intro a0 a1 a2 a3 k
 obtain ⟨ih0, ih1, ih2⟩ := accountinglaw03_FracArith.mono_l k
 unfold accountinglaw03_FracArith.f
 repeat' first
   | (with_reducible exact ih0 _ _ _ _ _)
   | (with_reducible exact ih1 _ _ _ _ _)
   | (with_reducible exact ih2 _ _ _ _ _)
   | (with_reducible exact accountingref03_Add.mono _ _ _ _ _)
   | (with_reducible exact accountingref03_Cmp.mono _ _ _ _ _)
   | (with_reducible exact accountingref03_Mul.mono _ _ _ _ _)
   | (with_reducible exact accountingref03_Quo.mono _ _ _ _ _)
   | (with_reducible exact accountingref03_Sub.mono _ _ _ _ _)
   | (with_reducible exact frac_Cmp.mono _ _ _ _ _)
   | (with_reducible exact LeO.refl _)
   | (with_reducible exact LeO.none _)
   | (with_reducible refine LeO.ite ?_ ?_)
   | (with_reducible refine LeO.bind ?_ (fun _ => ?_))
   | exact ih0 _ _ _ _ _
   | exact ih1 _ _ _ _ _
   | exact ih2 _ _ _ _ _
   | exact accountingref03_Add.mono _ _ _ _ _
   | exact accountingref03_Cmp.mono _ _ _ _ _
   | exact accountingref03_Mul.mono _ _ _ _ _
   | exact accountingref03_Quo.mono _ _ _ _ _
   | exact accountingref03_Sub.mono _ _ _ _ _
   | exact frac_Cmp.mono _ _ _ _ _
   | exact LeO.none _
   | refine LeO.ite ?_ ?_
   | refine LeO.bind ?_ (fun _ => ?_)
def accountinglaw03_FracArith.T15 : Bool × List (List Nat × List Nat) := (true, [([], []), ([], []), ([0, 1], [0, 1]), ([2], [2]), ([3], [3]), ([3], [3]), ([4, 5, 3], [3, 4, 5]), ([3, 6], [3, 6]), ([7, 3], [7]), ([8], [8]), ([8], [8]), ([9, 10, 8, 8], [8, 9, 10]), ([8], [8]), ([8], [8]), ([12, 13, 11, 8], [8, 12, 13]), ([11, 14, 8], [8, 11, 14]), ([8, 15], [8, 15]), ([16, 14], [16]), ([17, 17], [17]), ([17, 18], [17, 18]), ([19, 18, 0, 1, 2, 3, 4, 5, 6, 7, 8, 9, 10, 11, 12, 13, 14, 15, 16, 17, 18, 19], [19])])
def accountinglaw03_FracArith.B15 : List Nat := [0, 0, 3, 7, 15, 15, 63, 127, 255, 511, 511, 2047, 511, 511, 16383, 32767, 65535, 131071, 262143, 524287, 1048575]
theorem accountinglaw03_FracArith.tab15 : rtab .any (opsOf Try.f10 15) = accountinglaw03_FracArith.T15 := by kernel_rfl
theorem accountinglaw03_FracArith.bits15 : waitsOk accountinglaw03_FracArith.T15.2 accountinglaw03_FracArith.B15 = true := by kernel_rfl
set_option maxHeartbeats 8000000 in
set_option maxRecDepth 100000 in
theorem accountinglaw03_FracArith.calls (k : Nat) (a0_0 : Int) (a0_1 : Int) (a1_0 : Int) (a1_1 : Int) (r : Bool) (w : World) (h : accountinglaw03_FracArith.f k a0_0 a0_1 a1_0 a1_1 = some r) :
  Calls Try.prog 10 #[.agg #[.int .i64 a0_0, .int .i64 a0_1], .agg #[.int .i64 a1_0, .int .i64 a1_1]] w fun e w' => e = .returned (.bool r) ∧ Below w.heap.size w w' := by
 have hu23 := Try.underlying23
 have HB := Aside0.mk (Below.refl w.heap.size w)
 have H : ((frac_Add.f a0_0 a0_1 a1_0 a1_1).bind fun bt352 => ((accountingref03_Add.f k a0_0 a0_1 a1_0 a1_1).bind fun bt356 => (if (!(bt352.1 == bt356.1) || (!(bt352.2.1 == bt356.2.1))) = true then (accountinglaw03_FracArith.j0 k true a0_0 a0_1 a1_0 a1_1) else (accountinglaw03_FracArith.j0 k (bt352.2.2 != bt356.2.2) a0_0 a0_1 a1_0 a1_1)))) = some r := h
 clear h
 replace H := Option.bind_eq_some_iff.mp H
 obtain ⟨⟨t352, t353, t354⟩, A30, H⟩ := H
 replace H : ((accountingref03_Add.f k a0_0 a0_1 a1_0 a1_1).bind fun bt356 => (if (!(t352 == bt356.1) || (!(t353 == bt356.2.1))) = true then (accountinglaw03_FracArith.j0 k true a0_0 a0_1 a1_0 a1_1) else (accountinglaw03_FracArith.j0 k (t354 != bt356.2.2) a0_0 a0_1 a1_0 a1_1))) = some r := H
 have A3 := Aside0.mk A30
 clear A30
 replace H := Option.bind_eq_some_iff.mp H
 obtain ⟨⟨t356, t357, t358⟩, A40, H⟩ := H
 replace H : (if (!(t352 == t356) || (!(t353 == t357))) = true then (accountinglaw03_FracArith.j0 k true a0_0 a0_1 a1_0 a1_1) else (accountinglaw03_FracArith.j0 k (t354 != t358) a0_0 a0_1 a1_0 a1_1)) = some r := H
 have A4 := Aside0.mk A40
 clear A40
 have HC5 := Aside0.mk H
 clear H
 go_enter Try.func10, Try.ntmps10
 go_upto_region 3 with (first | ((with_reducible refine gate_dst (N := 2) rfl ?_); refine box_event ?hg (N := 2) ?hd (cs := #[.int .i64 a0_0, .int .i64 a0_1]) (t := 23) ?hr ?_; (case hd => rfl); (case hg => rfl); (case hr => first | (go_simp; done) | (go_simp; rfl)); intro gb350 hg w6 hbox hb; have n0_ := Aside0.mk (below_step q11 hb); have n1_ := Aside0.mk (hbox); have n2_ := Aside0.mk ((q12 : w.heap.size ≤ gb350)); have n3_ := Aside0.mk ((q12 : w.heap.size ≤ gb350)); clear HB; have HB := n0_; have BK350 := n1_; have GW350 := n2_; have GE350 := n3_; clear n0_ n1_ n2_ n3_; clear hb hbox hg) | ((with_reducible refine gate_dst (N := 3) rfl ?_); refine box_event ?hg (N := 3) ?hd (cs := #[.int .i64 a1_0, .int .i64 a1_1]) (t := 23) ?hr ?_; (case hd => rfl); (case hg => rfl); (case hr => first | (go_simp; done) | (go_simp; rfl)); intro gb351 hg w7 hbox hb; have n0_ := Aside0.mk (blk_below (g := gb350) (o := .cells #[.int .i64 a0_0, .int .i64 a0_1] 23 (0, 0)) q97 hb); have n1_ := Aside0.mk (below_step q98 hb); have n2_ := Aside0.mk (hbox); have n3_ := Aside0.mk ((by rw [hg]; exact (below_size q98) : w.heap.size ≤ gb351)); have n4_ := Aside0.mk ((by rw [hg]; exact (below_size q98) : w.heap.size ≤ gb351)); have n5_ := Aside0.mk ((q99 : gb350 ≠ gb351)); have n6_ := Aside0.mk ((q100 : gb351 ≠ gb350)); clear BK350; clear HB; have BK350 := n0_; have HB := n1_; have BK351 := n2_; have GW351 := n3_; have GE351 := n4_; have NB350_351 := n5_; have NB351_350 := n6_; clear n0_ n1_ n2_ n3_ n4_ n5_ n6_; clear hb hbox hg; have hnb8 := NB350_351.out; have hnc8 := NB351_350.out; have hcz9_0 : w7.cell? ⟨gb350, 0, none⟩ = some (.int .i64 a0_0) := (blk_cell BK350.out 0).trans rfl; have hcz9_1 : w7.cell? ⟨gb350, 1, none⟩ = some (.int .i64 a0_1) := (blk_cell BK350.out 1).trans rfl; have hfz9_0 := blk_frozen BK350.out 0; have hfz9_1 := blk_frozen BK350.out 1; have hcz10_0 : w7.cell? ⟨gb351, 0, none⟩ = some (.int .i64 a1_0) := (blk_cell BK351.out 0).trans rfl; have hcz10_1 : w7.cell? ⟨gb351, 1, none⟩ = some (.int .i64 a1_1) := (blk_cell BK351.out 1).trans rfl; have hfz10_0 := blk_frozen BK351.out 0; have hfz10_1 := blk_frozen BK351.out 1) | ((with_reducible refine gate_callee (f := 25) rfl ?_); refine goesL_ (some 12) rfl rfl Try.func25 (by kernel_rfl) rfl #[.agg #[.int .i64 a0_0, .int .i64 a0_1], .agg #[.int .i64 a1_0, .int .i64 a1_1]] rfl q20 ?_; (with_reducible refine (frac_Add.calls a0_0 a0_1 a1_0 a1_1 t352 t353 t354 _ A3.out).mono ?_); rintro e w11 ⟨rfl, hb⟩; refine ⟨_, rfl, ?_⟩; have n0_ := Aside0.mk (blk_below (g := gb350) (o := .cells #[.int .i64 a0_0, .int .i64 a0_1] 23 (0, 0)) q97 hb); have n1_ := Aside0.mk (blk_below (g := gb351) (o := .cells #[.int .i64 a1_0, .int .i64 a1_1] 23 (0, 0)) q101 hb); have n2_ := Aside0.mk (below_step q102 hb); clear BK350; clear BK351; clear HB; have BK350 := n0_; have BK351 := n1_; have HB := n2_; clear n0_ n1_ n2_; (try clear hb); (try clear hb2); (try clear hk); (try clear hi)) | ((with_reducible refine gate_dst (N := 5) rfl ?_); refine box_event ?hg (N := 5) ?hd (cs := #[.int .i64 0, .int .i64 0]) (t := 23) ?hr ?_; (case hd => rfl); (case hg => rfl); (case hr => first | (go_simp; done) | (go_simp; rfl)); intro gb355 hg w12 hbox hb; have n0_ := Aside0.mk (blk_below (g := gb350) (o := .cells #[.int .i64 a0_0, .int .i64 a0_1] 23 (0, 0)) q97 hb); have n1_ := Aside0.mk (blk_below (g := gb351) (o := .cells #[.int .i64 a1_0, .int .i64 a1_1] 23 (0, 0)) q101 hb); have n2_ := Aside0.mk (below_step q102 hb); have n3_ := Aside0.mk (hbox); have n4_ := Aside0.mk ((by rw [hg]; exact (below_size q102) : w.heap.size ≤ gb355)); have n5_ := Aside0.mk ((by rw [hg]; exact (below_size q102) : w.heap.size ≤ gb355)); have n6_ := Aside0.mk ((q99 : gb350 ≠ gb355)); have n7_ := Aside0.mk ((q100 : gb355 ≠ gb350)); have n8_ := Aside0.mk ((by rw [hg]; exact Nat.ne_of_lt (blk_lt (g := gb351) (o := .cells #[.int .i64 a1_0, .int .i64 a1_1] 23 (0, 0)) q101) : gb351 ≠ gb355)); have n9_ := Aside0.mk ((by rw [hg]; exact Nat.ne_of_gt (blk_lt (g := gb351) (o := .cells #[.int .i64 a1_0, .int .i64 a1_1] 23 (0, 0)) q101) : gb355 ≠ gb351)); clear BK350; clear BK351; clear HB; have BK350 := n0_; have BK351 := n1_; have HB := n2_; have BK355 := n3_; have GW355 := n4_; have GE355 := n5_; have NB350_355 := n6_; have NB355_350 := n7_; have NB351_355 := n8_; have NB355_351 := n9_; clear n0_ n1_ n2_ n3_ n4_ n5_ n6_ n7_ n8_ n9_; clear hb hbox hg; have hnb13 := NB355_350.out; have hnc13 := NB350_355.out; have hnb14 := NB355_351.out; have hnc14 := NB351_355.out; have hcz15_0 : w12.cell? ⟨gb355, 0, none⟩ = some (.int .i64 0) := (blk_cell BK355.out 0).trans rfl; have hcz15_1 : w12.cell? ⟨gb355, 1, none⟩ = some (.int .i64 0) := (blk_cell BK355.out 1).trans rfl; have hfz15_0 := blk_frozen BK355.out 0; have hfz15_1 := blk_frozen BK355.out 1; have hcz16_0 : w12.cell? ⟨gb350, 0, none⟩ = some (.int .i64 a0_0) := (blk_cell BK350.out 0).trans rfl; have hcz16_1 : w12.cell? ⟨gb350, 1, none⟩ = some (.int .i64 a0_1) := (blk_cell BK350.out 1).trans rfl; have hfz16_0 := blk_frozen BK350.out 0; have hfz16_1 := blk_frozen BK350.out 1; have hcz17_0 : w12.cell? ⟨gb351, 0, none⟩ = some (.int .i64 a1_0) := (blk_cell BK351.out 0).trans rfl; have hcz17_1 : w12.cell? ⟨gb351, 1, none⟩ = some (.int .i64 a1_1) := (blk_cell BK351.out 1).trans rfl; have hfz17_0 := blk_frozen BK351.out 0; have hfz17_1 := blk_frozen BK351.out 1) | ((with_reducible refine gate_callee (f := 26) rfl ?_); refine goesL_ (some 18) rfl rfl Try.func26 (by kernel_rfl) rfl #[.agg #[.int .i64 a0_0, .int .i64 a0_1], .agg #[.int .i64 a1_0, .int .i64 a1_1]] rfl q20 ?_; (with_reducible refine (accountingref03_Add.calls k a0_0 a0_1 a1_0 a1_1 t356 t357 t358 _ A4.out).mono ?_); rintro e w18 ⟨rfl, hb⟩; refine ⟨_, rfl, ?_⟩; have n0_ := Aside0.mk (blk_below (g := gb350) (o := .cells #[.int .i64 a0_0, .int .i64 a0_1] 23 (0, 0)) q103 hb); have n1_ := Aside0.mk (blk_below (g := gb351) (o := .cells #[.int .i64 a1_0, .int .i64 a1_1] 23 (0, 0)) q104 hb); have n2_ := Aside0.mk (blk_below (g := gb355) (o := .cells #[.int .i64 t352, .int .i64 t353] 23 (0, 0)) (by (with_reducible repeat (first | refine blk_drewN ?_ _ | refine blk_drew ?_ | refine blk_alloc ?_ _)); refine blk_put (cs := #[.int .i64 t352, .int .i64 0]) ?_ 1 _ rfl; (with_reducible repeat (first | refine blk_drewN ?_ _ | refine blk_drew ?_ | refine blk_alloc ?_ _)); refine blk_put (cs := #[.int .i64 0, .int .i64 0]) ?_ 0 _ rfl; (with_reducible repeat (first | refine blk_drewN ?_ _ | refine blk_drew ?_ | refine blk_alloc ?_ _)); exact BK355.out) hb); have n3_ := Aside0.mk (below_step q105 hb); clear BK350; clear BK351; clear BK355; clear HB; have BK350 := n0_; have BK351 := n1_; have BK355 := n2_; have HB := n3_; clear n0_ n1_ n2_ n3_; (try clear hb); (try clear hb2); (try clear hk); (try clear hi)) | ((with_reducible refine gate_dst (N := 7) rfl ?_); refine box_event ?hg (N := 7) ?hd (cs := #[.int .i64 0, .int .i64 0]) (t := 23) ?hr ?_; (case hd => rfl); (case hg => rfl); (case hr => first | (go_simp; done) | (go_simp; rfl)); intro gb359 hg w19 hbox hb; have n0_ := Aside0.mk (blk_below (g := gb350) (o := .cells #[.int .i64 a0_0, .int .i64 a0_1] 23 (0, 0)) q97 hb); have n1_ := Aside0.mk (blk_below (g := gb351) (o := .cells #[.int .i64 a1_0, .int .i64 a1_1] 23 (0, 0)) q101 hb); have n2_ := Aside0.mk (blk_below (g := gb355) (o := .cells #[.int .i64 t352, .int .i64 t353] 23 (0, 0)) q106 hb); have n3_ := Aside0.mk (below_step q105 hb); have n4_ := Aside0.mk (hbox); have n5_ := Aside0.mk ((by rw [hg]; exact (below_size q105) : w.heap.size ≤ gb359)); have n6_ := Aside0.mk ((by rw [hg]; exact (below_size q105) : w.heap.size ≤ gb359)); have n7_ := Aside0.mk ((q99 : gb350 ≠ gb359)); have n8_ := Aside0.mk ((q100 : gb359 ≠ gb350)); have n9_ := Aside0.mk ((by rw [hg]; exact Nat.ne_of_lt (blk_lt (g := gb351) (o := .cells #[.int .i64 a1_0, .int .i64 a1_1] 23 (0, 0)) q101) : gb351 ≠ gb359)); have n10_ := Aside0.mk ((by rw [hg]; exact Nat.ne_of_gt (blk_lt (g := gb351) (o := .cells #[.int .i64 a1_0, .int .i64 a1_1] 23 (0, 0)) q101) : gb359 ≠ gb351)); have n11_ := Aside0.mk ((by rw [hg]; exact Nat.ne_of_lt (blk_lt (g := gb355) (o := .cells #[.int .i64 t352, .int .i64 t353] 23 (0, 0)) q106) : gb355 ≠ gb359)); have n12_ := Aside0.mk ((by rw [hg]; exact Nat.ne_of_gt (blk_lt (g := gb355) (o := .cells #[.int .i64 t352, .int .i64 t353] 23 (0, 0)) q106) : gb359 ≠ gb355)); clear BK350; clear BK351; clear BK355; clear HB; have BK350 := n0_; have BK351 := n1_; have BK355 := n2_; have HB := n3_; have BK359 := n4_; have GW359 := n5_; have GE359 := n6_; have NB350_359 := n7_; have NB359_350 := n8_; have NB351_359 := n9_; have NB359_351 := n10_; have NB355_359 := n11_; have NB359_355 := n12_; clear n0_ n1_ n2_ n3_ n4_ n5_ n6_ n7_ n8_ n9_ n10_ n11_ n12_; clear hb hbox hg; have hnb20 := NB359_350.out; have hnc20 := NB350_359.out; have hnb21 := NB359_351.out; have hnc21 := NB351_359.out; have hnb22 := NB359_355.out; have hnc22 := NB355_359.out; have hcz23_0 : w19.cell? ⟨gb359, 0, none⟩ = some (.int .i64 0) := (blk_cell BK359.out 0).trans rfl; have hcz23_1 : w19.cell? ⟨gb359, 1, none⟩ = some (.int .i64 0) := (blk_cell BK359.out 1).trans rfl; have hfz23_0 := blk_frozen BK359.out 0; have hfz23_1 := blk_frozen BK359.out 1))
 (try simp only [Act.put, List.setIfInBounds_toArray, List.set_cons_zero, List.set_cons_succ])
 go_cut [28] (fun v28 wc => ∃ (kq : Nat) (x28_4 : Bool), v28 = .bool x28_4 ∧ Aside0 (accountinglaw03_FracArith.j0 kq x28_4 a0_0 a0_1 a1_0 a1_1 = some r) ∧ Aside0 (kq ≤ k) ∧ Aside0 (wc.heap[gb350]? = some (.cells #[.int .i64 a0_0, .int .i64 a0_1] 23 (0, 0))) ∧ Aside0 (wc.heap[gb351]? = some (.cells #[.int .i64 a1_0, .int .i64 a1_1] 23 (0, 0))) ∧ Aside0 (wc.heap[gb355]? = some (.cells #[.int .i64 t352, .int .i64 t353] 23 (0, 0))) ∧ Aside0 (wc.heap[gb359]? = some (.cells #[.int .i64 t356, .int .i64 t357] 23 (0, 0))) ∧ Aside0 (Below w.heap.size w wc))
 case first =>
  have H := HC5.out
  clear HC5
  by_cases c24 : (!(t352 == t356) || (!(t353 == t357))) = true
  ·rw [if_pos c24] at H
   have c24b0 : (!(t352 == t356) || (!(t353 == t357))) = true := c24
   clear c24
   (first | rw [c24b0] | (simp only [i64_w, i32_w]; rw [c24b0]) | skip)
   have H' := Aside0.mk H
   clear H
   have hnb25 := NB355_350.out
   have hnc25 := NB350_355.out
   have hnb26 := NB355_351.out
   have hnc26 := NB351_355.out
   have hnb27 := NB355_359.out
   have hnc27 := NB359_355.out
   have hcz28_0 : w19.cell? ⟨gb355, 0, none⟩ = some (.int .i64 t352) := (blk_cell BK355.out 0).trans rfl
   have hcz28_1 : w19.cell? ⟨gb355, 1, none⟩ = some (.int .i64 t353) := (blk_cell BK355.out 1).trans rfl
   have hfz28_0 := blk_frozen BK355.out 0
   have hfz28_1 := blk_frozen BK355.out 1
   have hnb29 := NB359_350.out
   have hnc29 := NB350_359.out
   have hnb30 := NB359_351.out
   have hnc30 := NB351_359.out
   have hcz31_0 : w19.cell? ⟨gb359, 0, none⟩ = some (.int .i64 0) := (blk_cell BK359.out 0).trans rfl
   have hcz31_1 : w19.cell? ⟨gb359, 1, none⟩ = some (.int .i64 0) := (blk_cell BK359.out 1).trans rfl
   have hfz31_0 := blk_frozen BK359.out 0
   have hfz31_1 := blk_frozen BK359.out 1
   go_wp2
   go_meet
   case rel => exact ⟨_, (true), q9, H', ⟨by first | omega | exact Nat.le_refl _⟩, ⟨q107⟩, ⟨q108⟩, ⟨q109⟩, ⟨by (with_reducible repeat (first | refine blk_drewN ?_ _ | refine blk_drew ?_ | refine blk_alloc ?_ _)); refine blk_put (cs := #[.int .i64 t356, .int .i64 0]) ?_ 1 _ rfl; (with_reducible repeat (first | refine blk_drewN ?_ _ | refine blk_drew ?_ | refine blk_alloc ?_ _)); refine blk_put (cs := #[.int .i64 0, .int .i64 0]) ?_ 0 _ rfl; (with_reducible repeat (first | refine blk_drewN ?_ _ | refine blk_drew ?_ | refine blk_alloc ?_ _)); exact BK359.out⟩, ⟨q110⟩⟩
  ·rw [if_neg c24] at H
   have c24b0 : (!(t352 == t356) || (!(t353 == t357))) = false := by simpa using c24
   clear c24
   (first | rw [c24b0] | (simp only [i64_w, i32_w]; rw [c24b0]) | skip)
   have H' := Aside0.mk H
   clear H
   have hnb32 := NB355_350.out
   have hnc32 := NB350_355.out
   have hnb33 := NB355_351.out
   have hnc33 := NB351_355.out
   have hnb34 := NB355_359.out
   have hnc34 := NB359_355.out
   have hcz35_0 : w19.cell? ⟨gb355, 0, none⟩ = some (.int .i64 t352) := (blk_cell BK355.out 0).trans rfl
   have hcz35_1 : w19.cell? ⟨gb355, 1, none⟩ = some (.int .i64 t353) := (blk_cell BK355.out 1).trans rfl
   have hfz35_0 := blk_frozen BK355.out 0
   have hfz35_1 := blk_frozen BK355.out 1
   have hnb36 := NB359_350.out
   have hnc36 := NB350_359.out
   have hnb37 := NB359_351.out
   have hnc37 := NB351_359.out
   have hcz38_0 : w19.cell? ⟨gb359, 0, none⟩ = some (.int .i64 0) := (blk_cell BK359.out 0).trans rfl
   have hcz38_1 : w19.cell? ⟨gb359, 1, none⟩ = some (.int .i64 0) := (blk_cell BK359.out 1).trans rfl
   have hfz38_0 := blk_frozen BK359.out 0
   have hfz38_1 := blk_frozen BK359.out 1
   go_wp2
   go_meet
   case rel => exact ⟨_, ((t354 != t358)), q9, H', ⟨by first | omega | exact Nat.le_refl _⟩, ⟨q107⟩, ⟨q108⟩, ⟨q109⟩, ⟨by (with_reducible repeat (first | refine blk_drewN ?_ _ | refine blk_drew ?_ | refine blk_alloc ?_ _)); refine blk_put (cs := #[.int .i64 t356, .int .i64 0]) ?_ 1 _ rfl; (with_reducible repeat (first | refine blk_drewN ?_ _ | refine blk_drew ?_ | refine blk_alloc ?_ _)); refine blk_put (cs := #[.int .i64 0, .int .i64 0]) ?_ 0 _ rfl; (with_reducible repeat (first | refine blk_drewN ?_ _ | refine blk_drew ?_ | refine blk_alloc ?_ _)); exact BK359.out⟩, ⟨q110⟩⟩
 case rest =>
  clear HC5
  try clear c1
  try clear c2
  try clear p2
  try clear c3
  try clear c8
  try clear c10
  try clear c13
  try clear c14
  try clear c20
  try clear c21
  try clear c22
  try clear c24
  try clear c24b0
  try clear c25
  try clear c26
  try clear c27
  try clear c29
  try clear c30
  try clear c32
  try clear c33
  try clear c34
  try clear c36
  try clear c37
  try clear hcz10_0
  try clear hcz10_1
  try clear hcz15_0
  try clear hcz15_1
  try clear hcz16_0
  try clear hcz16_1
  try clear hcz17_0
  try clear hcz17_1
  try clear hcz23_0
  try clear hcz23_1
  try clear hcz28_0
  try clear hcz28_1
  try clear hcz31_0
  try clear hcz31_1
  try clear hcz35_0
  try clear hcz35_1
  try clear hcz38_0
  try clear hcz38_1
  try clear hcz9_0
  try clear hcz9_1
  try clear hfz10_0
  try clear hfz10_1
  try clear hfz15_0
  try clear hfz15_1
  try clear hfz16_0
  try clear hfz16_1
  try clear hfz17_0
  try clear hfz17_1
  try clear hfz23_0
  try clear hfz23_1
  try clear hfz28_0
  try clear hfz28_1
  try clear hfz31_0
  try clear hfz31_1
  try clear hfz35_0
  try clear hfz35_1
  try clear hfz38_0
  try clear hfz38_1
  try clear hfz9_0
  try clear hfz9_1
  obtain ⟨kq, x28_4, rfl, HA, HJ4, BK350, BK351, BK355, BK359, HB⟩ := hcut
  cases kq with
  | zero => exact absurd HA.out (by simp [accountinglaw03_FracArith.j0])
  | succ kj4 =>
   have H := HA.out
   clear HA
   simp only [accountinglaw03_FracArith.j0] at H
   by_cases c39 : x28_4 = true
   ·subst c39
    have H1 : (some false) = some r := by rw [if_pos rfl] at H; exact H
    clear H
    have H := H1
    clear H1
    obtain rfl := Option.some.inj H
    go_wp2
    go_ret
    exact ⟨q13, q110⟩
   ·replace c39 := Bool.eq_false_iff.mpr c39
    subst c39
    have H1 : ((frac_Sub.f a0_0 a0_1 a1_0 a1_1).bind fun bt360 => ((accountingref03_Sub.f kj4 a0_0 a0_1 a1_0 a1_1).bind fun bt363 => (if (!(bt360.1 == bt363.1) || (!(bt360.2.1 == bt363.2.1))) = true then (accountinglaw03_FracArith.j1 kj4 true a0_0 a0_1 a1_0 a1_1) else (accountinglaw03_FracArith.j1 kj4 (bt360.2.2 != bt363.2.2) a0_0 a0_1 a1_0 a1_1)))) = some r := by rw [if_neg (show ¬ (false = true) by decide)] at H; exact H
    clear H
    have H := H1
    clear H1
    replace H := Option.bind_eq_some_iff.mp H
    obtain ⟨⟨t360, t361, t362⟩, A400, H⟩ := H
    replace H : ((accountingref03_Sub.f kj4 a0_0 a0_1 a1_0 a1_1).bind fun bt363 => (if (!(t360 == bt363.1) || (!(t361 == bt363.2.1))) = true then (accountinglaw03_FracArith.j1 kj4 true a0_0 a0_1 a1_0 a1_1) else (accountinglaw03_FracArith.j1 kj4 (t362 != bt363.2.2) a0_0 a0_1 a1_0 a1_1))) = some r := H
    have A40 := Aside0.mk A400
    clear A400
    replace H := Option.bind_eq_some_iff.mp H
    obtain ⟨⟨t363, t364, t365⟩, A410, H⟩ := H
    replace H : (if (!(t360 == t363) || (!(t361 == t364))) = true then (accountinglaw03_FracArith.j1 kj4 true a0_0 a0_1 a1_0 a1_1) else (accountinglaw03_FracArith.j1 kj4 (t362 != t365) a0_0 a0_1 a1_0 a1_1)) = some r := H
    have A41 := Aside0.mk A410
    clear A410
    have HC42 := Aside0.mk H
    clear H
    have hnb43 := NB350_351.out
    have hnc43 := NB351_350.out
    have hnb44 := NB350_355.out
    have hnc44 := NB355_350.out
    have hnb45 := NB350_359.out
    have hnc45 := NB359_350.out
    have hcz46_0 : wc.cell? ⟨gb350, 0, none⟩ = some (.int .i64 a0_0) := (blk_cell BK350.out 0).trans rfl
    have hcz46_1 : wc.cell? ⟨gb350, 1, none⟩ = some (.int .i64 a0_1) := (blk_cell BK350.out 1).trans rfl
    have hfz46_0 := blk_frozen BK350.out 0
    have hfz46_1 := blk_frozen BK350.out 1
    have hnb47 := NB351_355.out
    have hnc47 := NB355_351.out
    have hnb48 := NB351_359.out
    have hnc48 := NB359_351.out
    have hcz49_0 : wc.cell? ⟨gb351, 0, none⟩ = some (.int .i64 a1_0) := (blk_cell BK351.out 0).trans rfl
    have hcz49_1 : wc.cell? ⟨gb351, 1, none⟩ = some (.int .i64 a1_1) := (blk_cell BK351.out 1).trans rfl
    have hfz49_0 := blk_frozen BK351.out 0
    have hfz49_1 := blk_frozen BK351.out 1
    go_upto_region 7 with (first | ((with_reducible refine gate_callee (f := 24) rfl ?_); refine goesL_ (some 32) rfl rfl Try.func24 (by kernel_rfl) rfl #[.agg #[.int .i64 a0_0, .int .i64 a0_1], .agg #[.int .i64 a1_0, .int .i64 a1_1]] rfl q20 ?_; (with_reducible refine (frac_Sub.calls a0_0 a0_1 a1_0 a1_1 t360 t361 t362 _ A40.out).mono ?_); rintro e w50 ⟨rfl, hb⟩; refine ⟨_, rfl, ?_⟩; have n0_ := Aside0.mk (blk_below (g := gb350) (o := .cells #[.int .i64 a0_0, .int .i64 a0_1] 23 (0, 0)) q97 hb); have n1_ := Aside0.mk (blk_below (g := gb351) (o := .cells #[.int .i64 a1_0, .int .i64 a1_1] 23 (0, 0)) q101 hb); have n2_ := Aside0.mk (blk_below (g := gb355) (o := .cells #[.int .i64 t352, .int .i64 t353] 23 (0, 0)) q106 hb); have n3_ := Aside0.mk (blk_below (g := gb359) (o := .cells #[.int .i64 t356, .int .i64 t357] 23 (0, 0)) q111 hb); have n4_ := Aside0.mk (below_step q110 hb); clear BK350; clear BK351; clear BK355; clear BK359; clear HB; have BK350 := n0_; have BK351 := n1_; have BK355 := n2_; have BK359 := n3_; have HB := n4_; clear n0_ n1_ n2_ n3_ n4_; (try clear hb); (try clear hb2); (try clear hk); (try clear hi); have hnb51 := NB355_359.out; have hnc51 := NB359_355.out; have hcz52_0 : w50.cell? ⟨gb355, 0, none⟩ = some (.int .i64 t352) := (blk_cell BK355.out 0).trans rfl; have hcz52_1 : w50.cell? ⟨gb355, 1, none⟩ = some (.int .i64 t353) := (blk_cell BK355.out 1).trans rfl; have hfz52_0 := blk_frozen BK355.out 0; have hfz52_1 := blk_frozen BK355.out 1; have hcz53_0 : w50.cell? ⟨gb350, 0, none⟩ = some (.int .i64 a0_0) := (blk_cell BK350.out 0).trans rfl; have hcz53_1 : w50.cell? ⟨gb350, 1, none⟩ = some (.int .i64 a0_1) := (blk_cell BK350.out 1).trans rfl; have hfz53_0 := blk_frozen BK350.out 0; have hfz53_1 := blk_frozen BK350.out 1; have hcz54_0 : w50.cell? ⟨gb351, 0, none⟩ = some (.int .i64 a1_0) := (blk_cell BK351.out 0).trans rfl; have hcz54_1 : w50.cell? ⟨gb351, 1, none⟩ = some (.int .i64 a1_1) := (blk_cell BK351.out 1).trans rfl; have hfz54_0 := blk_frozen BK351.out 0; have hfz54_1 := blk_frozen BK351.out 1) | ((with_reducible refine gate_callee (f := 27) rfl ?_); refine goesL_ (some 38) rfl rfl Try.func27 (by kernel_rfl) rfl #[.agg #[.int .i64 a0_0, .int .i64 a0_1], .agg #[.int .i64 a1_0, .int .i64 a1_1]] rfl q20 ?_; (with_reducible refine (accountingref03_Sub.calls kj4 a0_0 a0_1 a1_0 a1_1 t363 t364 t365 _ A41.out).mono ?_); rintro e w55 ⟨rfl, hb⟩; refine ⟨_, rfl, ?_⟩; have n0_ := Aside0.mk (blk_below (g := gb350) (o := .cells #[.int .i64 a0_0, .int .i64 a0_1] 23 (0, 0)) q103 hb); have n1_ := Aside0.mk (blk_below (g := gb351) (o := .cells #[.int .i64 a1_0, .int .i64 a1_1] 23 (0, 0)) q104 hb); have n2_ := Aside0.mk (blk_below (g := gb355) (o := .cells #[.int .i64 t360, .int .i64 t361] 23 (0, 0)) (by (with_reducible repeat (first | refine blk_drewN ?_ _ | refine blk_drew ?_ | refine blk_alloc ?_ _)); refine blk_put (cs := #[.int .i64 t360, .int .i64 t353]) ?_ 1 _ rfl; (with_reducible repeat (first | refine blk_drewN ?_ _ | refine blk_drew ?_ | refine blk_alloc ?_ _)); refine blk_put (cs := #[.int .i64 t352, .int .i64 t353]) ?_ 0 _ rfl; (with_reducible repeat (first | refine blk_drewN ?_ _ | refine blk_drew ?_ | refine blk_alloc ?_ _)); exact BK355.out) hb); have n3_ := Aside0.mk (blk_below (g := gb359) (o := .cells #[.int .i64 t356, .int .i64 t357] 23 (0, 0)) q112 hb); have n4_ := Aside0.mk (below_step q110 hb); clear BK350; clear BK351; clear BK355; clear BK359; clear HB; have BK350 := n0_; have BK351 := n1_; have BK355 := n2_; have BK359 := n3_; have HB := n4_; clear n0_ n1_ n2_ n3_ n4_; (try clear hb); (try clear hb2); (try clear hk); (try clear hi); have hcz56_0 : w55.cell? ⟨gb359, 0, none⟩ = some (.int .i64 t356) := (blk_cell BK359.out 0).trans rfl; have hcz56_1 : w55.cell? ⟨gb359, 1, none⟩ = some (.int .i64 t357) := (blk_cell BK359.out 1).trans rfl; have hfz56_0 := blk_frozen BK359.out 0; have hfz56_1 := blk_frozen BK359.out 1))
    (try simp only [Act.put, List.setIfInBounds_toArray, List.set_cons_zero, List.set_cons_succ])
    go_cut [48] (fun v48 wc => ∃ (kq : Nat) (x48_41 : Bool), v48 = .bool x48_41 ∧ Aside0 (accountinglaw03_FracArith.j1 kq x48_41 a0_0 a0_1 a1_0 a1_1 = some r) ∧ Aside0 (kq ≤ kj4) ∧ Aside0 (wc.heap[gb350]? = some (.cells #[.int .i64 a0_0, .int .i64 a0_1] 23 (0, 0))) ∧ Aside0 (wc.heap[gb351]? = some (.cells #[.int .i64 a1_0, .int .i64 a1_1] 23 (0, 0))) ∧ Aside0 (wc.heap[gb355]? = some (.cells #[.int .i64 t360, .int .i64 t361] 23 (0, 0))) ∧ Aside0 (wc.heap[gb359]? = some (.cells #[.int .i64 t363, .int .i64 t364] 23 (0, 0))) ∧ Aside0 (Below w.heap.size w wc))
    case first =>
     have H := HC42.out
     clear HC42
     by_cases c57 : (!(t360 == t363) || (!(t361 == t364))) = true
     ·rw [if_pos c57] at H
      have c57b0 : (!(t360 == t363) || (!(t361 == t364))) = true := c57
      clear c57
      (first | rw [c57b0] | (simp only [i64_w, i32_w]; rw [c57b0]) | skip)
      have H' := Aside0.mk H
      clear H
      have hnb58 := NB355_350.out
      have hnc58 := NB350_355.out
      have hnb59 := NB355_351.out
      have hnc59 := NB351_355.out
      have hnb60 := NB355_359.out
      have hnc60 := NB359_355.out
      have hcz61_0 : w55.cell? ⟨gb355, 0, none⟩ = some (.int .i64 t360) := (blk_cell BK355.out 0).trans rfl
      have hcz61_1 : w55.cell? ⟨gb355, 1, none⟩ = some (.int .i64 t361) := (blk_cell BK355.out 1).trans rfl
      have hfz61_0 := blk_frozen BK355.out 0
      have hfz61_1 := blk_frozen BK355.out 1
      have hnb62 := NB359_350.out
      have hnc62 := NB350_359.out
      have hnb63 := NB359_351.out
      have hnc63 := NB351_359.out
      have hcz64_0 : w55.cell? ⟨gb359, 0, none⟩ = some (.int .i64 t356) := (blk_cell BK359.out 0).trans rfl
      have hcz64_1 : w55.cell? ⟨gb359, 1, none⟩ = some (.int .i64 t357) := (blk_cell BK359.out 1).trans rfl
      have hfz64_0 := blk_frozen BK359.out 0
      have hfz64_1 := blk_frozen BK359.out 1
      go_wp2
      go_meet
      case rel => exact ⟨_, (true), q9, H', ⟨q113⟩, ⟨q107⟩, ⟨q108⟩, ⟨q109⟩, ⟨by (with_reducible repeat (first | refine blk_drewN ?_ _ | refine blk_drew ?_ | refine blk_alloc ?_ _)); refine blk_put (cs := #[.int .i64 t363, .int .i64 t357]) ?_ 1 _ rfl; (with_reducible repeat (first | refine blk_drewN ?_ _ | refine blk_drew ?_ | refine blk_alloc ?_ _)); refine blk_put (cs := #[.int .i64 t356, .int .i64 t357]) ?_ 0 _ rfl; (with_reducible repeat (first | refine blk_drewN ?_ _ | refine blk_drew ?_ | refine blk_alloc ?_ _)); exact BK359.out⟩, ⟨q110⟩⟩
     ·rw [if_neg c57] at H
      have c57b0 : (!(t360 == t363) || (!(t361 == t364))) = false := by simpa using c57
      clear c57
      (first | rw [c57b0] | (simp only [i64_w, i32_w]; rw [c57b0]) | skip)
      have H' := Aside0.mk H
      clear H
      have hnb65 := NB355_350.out
      have hnc65 := NB350_355.out
      have hnb66 := NB355_351.out
      have hnc66 := NB351_355.out
      have hnb67 := NB355_359.out
      have hnc67 := NB359_355.out
      have hcz68_0 : w55.cell? ⟨gb355, 0, none⟩ = some (.int .i64 t360) := (blk_cell BK355.out 0).trans rfl
      have hcz68_1 : w55.cell? ⟨gb355, 1, none⟩ = some (.int .i64 t361) := (blk_cell BK355.out 1).trans rfl
      have hfz68_0 := blk_frozen BK355.out 0
      have hfz68_1 := blk_frozen BK355.out 1
      have hnb69 := NB359_350.out
      have hnc69 := NB350_359.out
      have hnb70 := NB359_351.out
      have hnc70 := NB351_359.out
      have hcz71_0 : w55.cell? ⟨gb359, 0, none⟩ = some (.int .i64 t356) := (blk_cell BK359.out 0).trans rfl
      have hcz71_1 : w55.cell? ⟨gb359, 1, none⟩ = some (.int .i64 t357) := (blk_cell BK359.out 1).trans rfl
      have hfz71_0 := blk_frozen BK359.out 0
      have hfz71_1 := blk_frozen BK359.out 1
      go_wp2
      go_meet
      case rel => exact ⟨_, ((t362 != t365)), q9, H', ⟨q113⟩, ⟨q107⟩, ⟨q108⟩, ⟨q109⟩, ⟨by (with_reducible repeat (first | refine blk_drewN ?_ _ | refine blk_drew ?_ | refine blk_alloc ?_ _)); refine blk_put (cs := #[.int .i64 t363, .int .i64 t357]) ?_ 1 _ rfl; (with_reducible repeat (first | refine blk_drewN ?_ _ | refine blk_drew ?_ | refine blk_alloc ?_ _)); refine blk_put (cs := #[.int .i64 t356, .int .i64 t357]) ?_ 0 _ rfl; (with_reducible repeat (first | refine blk_drewN ?_ _ | refine blk_drew ?_ | refine blk_alloc ?_ _)); exact BK359.out⟩, ⟨q110⟩⟩
    case rest =>
     clear HC42
     try clear c1
     try clear c2
     try clear p2
     try clear c3
     try clear c4
     try clear c5
     try clear c6
     try clear c7
     try clear c8
     try clear c10
     try clear c13
     try clear c14
     try clear c20
     try clear c21
     try clear c22
     try clear c24
     try clear c24b0
     try clear c25
     try clear c26
     try clear c27
     try clear c29
     try clear c30
     try clear c32
     try clear c33
     try clear c34
     try clear c36
     try clear c37
     try clear c39
     try clear c43
     try clear c44
     try clear c45
     try clear c47
     try clear c48
     try clear c51
     try clear c57
     try clear c57b0
     try clear c58
     try clear c59
     try clear c60
     try clear c62
     try clear c63
     try clear c65
     try clear c66
     try clear c67
     try clear c69
     try clear c70
     try clear hcz10_0
     try clear hcz10_1
     try clear hcz15_0
     try clear hcz15_1
     try clear hcz16_0
     try clear hcz16_1
     try clear hcz17_0
     try clear hcz17_1
     try clear hcz23_0
     try clear hcz23_1
     try clear hcz28_0
     try clear hcz28_1
     try clear hcz31_0
     try clear hcz31_1
     try clear hcz35_0
     try clear hcz35_1
     try clear hcz38_0
     try clear hcz38_1
     try clear hcz46_0
     try clear hcz46_1
     try clear hcz49_0
     try clear hcz49_1
     try clear hcz52_0
     try clear hcz52_1
     try clear hcz53_0
     try clear hcz53_1
     try clear hcz54_0
     try clear hcz54_1
     try clear hcz56_0
     try clear hcz56_1
     try clear hcz61_0
     try clear hcz61_1
     try clear hcz64_0
     try clear hcz64_1
     try clear hcz68_0
     try clear hcz68_1
     try clear hcz71_0
     try clear hcz71_1
     try clear hcz9_0
     try clear hcz9_1
     try clear hfz10_0
     try clear hfz10_1
     try clear hfz15_0
     try clear hfz15_1
     try clear hfz16_0
     try clear hfz16_1
     try clear hfz17_0
     try clear hfz17_1
     try clear hfz23_0
     try clear hfz23_1
     try clear hfz28_0
     try clear hfz28_1
     try clear hfz31_0
     try clear hfz31_1
     try clear hfz35_0
     try clear hfz35_1
     try clear hfz38_0
     try clear hfz38_1
     try clear hfz46_0
     try clear hfz46_1
     try clear hfz49_0
     try clear hfz49_1
     try clear hfz52_0
     try clear hfz52_1
     try clear hfz53_0
     try clear hfz53_1
     try clear hfz54_0
     try clear hfz54_1
     try clear hfz56_0
     try clear hfz56_1
     try clear hfz61_0
     try clear hfz61_1
     try clear hfz64_0
     try clear hfz64_1
     try clear hfz68_0
     try clear hfz68_1
     try clear hfz71_0
     try clear hfz71_1
     try clear hfz9_0
     try clear hfz9_1
     try clear p2
     obtain ⟨kq, x48_41, rfl, HA, HJ41, BK350, BK351, BK355, BK359, HB⟩ := hcut
     cases kq with
     | zero => exact absurd HA.out (by simp [accountinglaw03_FracArith.j1])
     | succ kj41 =>
      have H := HA.out
      clear HA
      simp only [accountinglaw03_FracArith.j1] at H
      by_cases c72 : x48_41 = true
      ·subst c72
       have H1 : (some false) = some r := by rw [if_pos rfl] at H; exact H
       clear H
       have H := H1
       clear H1
       obtain rfl := Option.some.inj H
       go_wp2
       go_ret
       exact ⟨q13, q110⟩
      ·replace c72 := Bool.eq_false_iff.mpr c72
       subst c72
       have H1 : ((frac_Mul.f a0_0 a0_1 a1_0 a1_1).bind fun bt366 => ((accountingref03_Mul.f kj41 a0_0 a0_1 a1_0 a1_1).bind fun bt369 => (if (!(bt366.1 == bt369.1) || (!(bt366.2.1 == bt369.2.1))) = true then (accountinglaw03_FracArith.j2 kj41 true a0_0 a0_1 a1_0 a1_1) else (accountinglaw03_FracArith.j2 kj41 (bt366.2.2 != bt369.2.2) a0_0 a0_1 a1_0 a1_1)))) = some r := by rw [if_neg (show ¬ (false = true) by decide)] at H; exact H
       clear H
       have H := H1
       clear H1
       replace H := Option.bind_eq_some_iff.mp H
       obtain ⟨⟨t366, t367, t368⟩, A730, H⟩ := H
       replace H : ((accountingref03_Mul.f kj41 a0_0 a0_1 a1_0 a1_1).bind fun bt369 => (if (!(t366 == bt369.1) || (!(t367 == bt369.2.1))) = true then (accountinglaw03_FracArith.j2 kj41 true a0_0 a0_1 a1_0 a1_1) else (accountinglaw03_FracArith.j2 kj41 (t368 != bt369.2.2) a0_0 a0_1 a1_0 a1_1))) = some r := H
       have A73 := Aside0.mk A730
       clear A730
       replace H := Option.bind_eq_some_iff.mp H
       obtain ⟨⟨t369, t370, t371⟩, A740, H⟩ := H
       replace H : (if (!(t366 == t369) || (!(t367 == t370))) = true then (accountinglaw03_FracArith.j2 kj41 true a0_0 a0_1 a1_0 a1_1) else (accountinglaw03_FracArith.j2 kj41 (t368 != t371) a0_0 a0_1 a1_0 a1_1)) = some r := H
       have A74 := Aside0.mk A740
       clear A740
       have HC75 := Aside0.mk H
       clear H
       have hnb76 := NB350_351.out
       have hnc76 := NB351_350.out
       have hnb77 := NB350_355.out
       have hnc77 := NB355_350.out
       have hnb78 := NB350_359.out
       have hnc78 := NB359_350.out
       have hcz79_0 : wc.cell? ⟨gb350, 0, none⟩ = some (.int .i64 a0_0) := (blk_cell BK350.out 0).trans rfl
       have hcz79_1 : wc.cell? ⟨gb350, 1, none⟩ = some (.int .i64 a0_1) := (blk_cell BK350.out 1).trans rfl
       have hfz79_0 := blk_frozen BK350.out 0
       have hfz79_1 := blk_frozen BK350.out 1
       have hnb80 := NB351_355.out
       have hnc80 := NB355_351.out
       have hnb81 := NB351_359.out
       have hnc81 := NB359_351.out
       have hcz82_0 : wc.cell? ⟨gb351, 0, none⟩ = some (.int .i64 a1_0) := (blk_cell BK351.out 0).trans rfl
       have hcz82_1 : wc.cell? ⟨gb351, 1, none⟩ = some (.int .i64 a1_1) := (blk_cell BK351.out 1).trans rfl
       have hfz82_0 := blk_frozen BK351.out 0
       have hfz82_1 := blk_frozen BK351.out 1
       go_upto_region 11 with (first | ((with_reducible refine gate_callee (f := 28) rfl ?_); refine goesL_ (some 52) rfl rfl Try.func28 (by kernel_rfl) rfl #[.agg #[.int .i64 a0_0, .int .i64 a0_1], .agg #[.int .i64 a1_0, .int .i64 a1_1]] rfl q20 ?_; (with_reducible refine (frac_Mul.calls a0_0 a0_1 a1_0 a1_1 t366 t367 t368 _ A73.out).mono ?_); rintro e w83 ⟨rfl, hb⟩; refine ⟨_, rfl, ?_⟩; have n0_ := Aside0.mk (blk_below (g := gb350) (o := .cells #[.int .i64 a0_0, .int .i64 a0_1] 23 (0, 0)) q97 hb); have n1_ := Aside0.mk (blk_below (g := gb351) (o := .cells #[.int .i64 a1_0, .int .i64 a1_1] 23 (0, 0)) q101 hb); have n2_ := Aside0.mk (blk_below (g := gb355) (o := .cells #[.int .i64 t360, .int .i64 t361] 23 (0, 0)) q106 hb); have n3_ := Aside0.mk (blk_below (g := gb359) (o := .cells #[.int .i64 t363, .int .i64 t364] 23 (0, 0)) q111 hb); have n4_ := Aside0.mk (below_step q110 hb); clear BK350; clear BK351; clear BK355; clear BK359; clear HB; have BK350 := n0_; have BK351 := n1_; have BK355 := n2_; have BK359 := n3_; have HB := n4_; clear n0_ n1_ n2_ n3_ n4_; (try clear hb); (try clear hb2); (try clear hk); (try clear hi); have hnb84 := NB355_359.out; have hnc84 := NB359_355.out; have hcz85_0 : w83.cell? ⟨gb355, 0, none⟩ = some (.int .i64 t360) := (blk_cell BK355.out 0).trans rfl; have hcz85_1 : w83.cell? ⟨gb355, 1, none⟩ = some (.int .i64 t361) := (blk_cell BK355.out 1).trans rfl; have hfz85_0 := blk_frozen BK355.out 0; have hfz85_1 := blk_frozen BK355.out 1; have hcz86_0 : w83.cell? ⟨gb350, 0, none⟩ = some (.int .i64 a0_0) := (blk_cell BK350.out 0).trans rfl; have hcz86_1 : w83.cell? ⟨gb350, 1, none⟩ = some (.int .i64 a0_1) := (blk_cell BK350.out 1).trans rfl; have hfz86_0 := blk_frozen BK350.out 0; have hfz86_1 := blk_frozen BK350.out 1; have hcz87_0 : w83.cell? ⟨gb351, 0, none⟩ = some (.int .i64 a1_0) := (blk_cell BK351.out 0).trans rfl; have hcz87_1 : w83.cell? ⟨gb351, 1, none⟩ = some (.int .i64 a1_1) := (blk_cell BK351.out 1).trans rfl; have hfz87_0 := blk_frozen BK351.out 0; have hfz87_1 := blk_frozen BK351.out 1) | ((with_reducible refine gate_callee (f := 29) rfl ?_); refine goesL_ (some 58) rfl rfl Try.func29 (by kernel_rfl) rfl #[.agg #[.int .i64 a0_0, .int .i64 a0_1], .agg #[.int .i64 a1_0, .int .i64 a1_1]] rfl q20 ?_; (with_reducible refine (accountingref03_Mul.calls kj41 a0_0 a0_1 a1_0 a1_1 t369 t370 t371 _ A74.out).mono ?_); rintro e w88 ⟨rfl, hb⟩; refine ⟨_, rfl, ?_⟩; have n0_ := Aside0.mk (blk_below (g := gb350) (o := .cells #[.int .i64 a0_0, .int .i64 a0_1] 23 (0, 0)) q103 hb); have n1_ := Aside0.mk (blk_below (g := gb351) (o := .cells #[.int .i64 a1_0, .int .i64 a1_1] 23 (0, 0)) q104 hb); have n2_ := Aside0.mk (blk_below (g := gb355) (o := .cells #[.int .i64 t366, .int .i64 t367] 23 (0, 0)) (by (with_reducible repeat (first | refine blk_drewN ?_ _ | refine blk_drew ?_ | refine blk_alloc ?_ _)); refine blk_put (cs := #[.int .i64 t366, .int .i64 t361]) ?_ 1 _ rfl; (with_reducible repeat (first | refine blk_drewN ?_ _ | refine blk_drew ?_ | refine blk_alloc ?_ _)); refine blk_put (cs := #[.int .i64 t360, .int .i64 t361]) ?_ 0 _ rfl; (with_reducible repeat (first | refine blk_drewN ?_ _ | refine blk_drew ?_ | refine blk_alloc ?_ _)); exact BK355.out) hb); have n3_ := Aside0.mk (blk_below (g := gb359) (o := .cells #[.int .i64 t363, .int .i64 t364] 23 (0, 0)) q112 hb); have n4_ := Aside0.mk (below_step q110 hb); clear BK350; clear BK351; clear BK355; clear BK359; clear HB; have BK350 := n0_; have BK351 := n1_; have BK355 := n2_; have BK359 := n3_; have HB := n4_; clear n0_ n1_ n2_ n3_ n4_; (try clear hb); (try clear hb2); (try clear hk); (try clear hi); have hcz89_0 : w88.cell? ⟨gb359, 0, none⟩ = some (.int .i64 t363) := (blk_cell BK359.out 0).trans rfl; have hcz89_1 : w88.cell? ⟨gb359, 1, none⟩ = some (.int .i64 t364) := (blk_cell BK359.out 1).trans rfl; have hfz89_0 := blk_frozen BK359.out 0; have hfz89_1 := blk_frozen BK359.out 1))
       (try simp only [Act.put, List.setIfInBounds_toArray, List.set_cons_zero, List.set_cons_succ])
       go_cut [68] (fun v68 wc => ∃ (kq : Nat) (x68_74 : Bool), v68 = .bool x68_74 ∧ Aside0 (accountinglaw03_FracArith.j2 kq x68_74 a0_0 a0_1 a1_0 a1_1 = some r) ∧ Aside0 (kq ≤ kj41) ∧ Aside0 (wc.heap[gb350]? = some (.cells #[.int .i64 a0_0, .int .i64 a0_1] 23 (0, 0))) ∧ Aside0 (wc.heap[gb351]? = some (.cells #[.int .i64 a1_0, .int .i64 a1_1] 23 (0, 0))) ∧ Aside0 (wc.heap[gb355]? = some (.cells #[.int .i64 t366, .int .i64 t367] 23 (0, 0))) ∧ Aside0 (wc.heap[gb359]? = some (.cells #[.int .i64 t369, .int .i64 t370] 23 (0, 0))) ∧ Aside0 (Below w.heap.size w wc))
       case first =>
        have H := HC75.out
        clear HC75
        by_cases c90 : (!(t366 == t369) || (!(t367 == t370))) = true
        ·rw [if_pos c90] at H
         have c90b0 : (!(t366 == t369) || (!(t367 == t370))) = true := c90
         clear c90
         (first | rw [c90b0] | (simp only [i64_w, i32_w]; rw [c90b0]) | skip)
         have H' := Aside0.mk H
         clear H
         have hnb91 := NB355_350.out
         have hnc91 := NB350_355.out
         have hnb92 := NB355_351.out
         have hnc92 := NB351_355.out
         have hnb93 := NB355_359.out
         have hnc93 := NB359_355.out
         have hcz94_0 : w88.cell? ⟨gb355, 0, none⟩ = some (.int .i64 t366) := (blk_cell BK355.out 0).trans rfl
         have hcz94_1 : w88.cell? ⟨gb355, 1, none⟩ = some (.int .i64 t367) := (blk_cell BK355.out 1).trans rfl
         have hfz94_0 := blk_frozen BK355.out 0
         have hfz94_1 := blk_frozen BK355.out 1
         have hnb95 := NB359_350.out
         have hnc95 := NB350_359.out
         have hnb96 := NB359_351.out
         have hnc96 := NB351_359.out
         have hcz97_0 : w88.cell? ⟨gb359, 0, none⟩ = some (.int .i64 t363) := (blk_cell BK359.out 0).trans rfl
         have hcz97_1 : w88.cell? ⟨gb359, 1, none⟩ = some (.int .i64 t364) := (blk_cell BK359.out 1).trans rfl
         have hfz97_0 := blk_frozen BK359.out 0
         have hfz97_1 := blk_frozen BK359.out 1
         go_wp2
         go_meet
         case rel => exact ⟨_, (true), q9, H', ⟨by have := HJ4.out; have := HJ41.out; first | omega | exact Nat.le_refl _⟩, ⟨q107⟩, ⟨q108⟩, ⟨q109⟩, ⟨by (with_reducible repeat (first | refine blk_drewN ?_ _ | refine blk_drew ?_ | refine blk_alloc ?_ _)); refine blk_put (cs := #[.int .i64 t369, .int .i64 t364]) ?_ 1 _ rfl; (with_reducible repeat (first | refine blk_drewN ?_ _ | refine blk_drew ?_ | refine blk_alloc ?_ _)); refine blk_put (cs := #[.int .i64 t363, .int .i64 t364]) ?_ 0 _ rfl; (with_reducible repeat (first | refine blk_drewN ?_ _ | refine blk_drew ?_ | refine blk_alloc ?_ _)); exact BK359.out⟩, ⟨q110⟩⟩
        ·rw [if_neg c90] at H
         have c90b0 : (!(t366 == t369) || (!(t367 == t370))) = false := by simpa using c90
         clear c90
         (first | rw [c90b0] | (simp only [i64_w, i32_w]; rw [c90b0]) | skip)
         have H' := Aside0.mk H
         clear H
         have hnb98 := NB355_350.out
         have hnc98 := NB350_355.out
         have hnb99 := NB355_351.out
         have hnc99 := NB351_355.out
         have hnb100 := NB355_359.out
         have hnc100 := NB359_355.out
         have hcz101_0 : w88.cell? ⟨gb355, 0, none⟩ = some (.int .i64 t366) := (blk_cell BK355.out 0).trans rfl
         have hcz101_1 : w88.cell? ⟨gb355, 1, none⟩ = some (.int .i64 t367) := (blk_cell BK355.out 1).trans rfl
         have hfz101_0 := blk_frozen BK355.out 0
         have hfz101_1 := blk_frozen BK355.out 1
         have hnb102 := NB359_350.out
         have hnc102 := NB350_359.out
         have hnb103 := NB359_351.out
         have hnc103 := NB351_359.out
         have hcz104_0 : w88.cell? ⟨gb359, 0, none⟩ = some (.int .i64 t363) := (blk_cell BK359.out 0).trans rfl
         have hcz104_1 : w88.cell? ⟨gb359, 1, none⟩ = some (.int .i64 t364) := (blk_cell BK359.out 1).trans rfl
         have hfz104_0 := blk_frozen BK359.out 0
         have hfz104_1 := blk_frozen BK359.out 1
         go_wp2
         go_meet
         case rel => exact ⟨_, ((t368 != t371)), q9, H', ⟨by have := HJ4.out; have := HJ41.out; first | omega | exact Nat.le_refl _⟩, ⟨q107⟩, ⟨q108⟩, ⟨q109⟩, ⟨by (with_reducible repeat (first | refine blk_drewN ?_ _ | refine blk_drew ?_ | refine blk_alloc ?_ _)); refine blk_put (cs := #[.int .i64 t369, .int .i64 t364]) ?_ 1 _ rfl; (with_reducible repeat (first | refine blk_drewN ?_ _ | refine blk_drew ?_ | refine blk_alloc ?_ _)); refine blk_put (cs := #[.int .i64 t363, .int .i64 t364]) ?_ 0 _ rfl; (with_reducible repeat (first | refine blk_drewN ?_ _ | refine blk_drew ?_ | refine blk_alloc ?_ _)); exact BK359.out⟩, ⟨q110⟩⟩
       case rest =>
        clear HC75
        try clear c1
        try clear c2
        try clear p2
        try clear c3
        try clear c4
        try clear c5
        try clear c6
        try clear c7
        try clear c8
        try clear c9
        try clear c10
        try clear c13
        try clear c14
        try clear c20
        try clear c21
        try clear c22
        try clear c24
        try clear c24b0
        try clear c25
        try clear c26
        try clear c27
        try clear c28
        try clear c29
        try clear c30
        try clear c32
        try clear c33
        try clear c34
        try clear c36
        try clear c37
        try clear c39
        try clear c43
        try clear c44
        try clear c45
        try clear c47
        try clear c48
        try clear c51
        try clear c57
        try clear c57b0
        try clear c58
        try clear c59
        try clear c60
        try clear c62
        try clear c63
        try clear c65
        try clear c66
        try clear c67
        try clear c69
        try clear c70
        try clear c72
        try clear c76
        try clear c77
        try clear c78
        try clear c80
        try clear c81
        try clear c84
        try clear c90
        try clear c90b0
        try clear c91
        try clear c92
        try clear c93
        try clear c95
        try clear c96
        try clear c98
        try clear c99
        try clear c100
        try clear c102
        try clear c103
        try clear hcz101_0
        try clear hcz101_1
        try clear hcz104_0
        try clear hcz104_1
        try clear hcz10_0
        try clear hcz10_1
        try clear hcz15_0
        try clear hcz15_1
        try clear hcz16_0
        try clear hcz16_1
        try clear hcz17_0
        try clear hcz17_1
        try clear hcz23_0
        try clear hcz23_1
        try clear hcz28_0
        try clear hcz28_1
        try clear hcz31_0
        try clear hcz31_1
        try clear hcz35_0
        try clear hcz35_1
        try clear hcz38_0
        try clear hcz38_1
        try clear hcz46_0
        try clear hcz46_1
        try clear hcz49_0
        try clear hcz49_1
        try clear hcz52_0
        try clear hcz52_1
        try clear hcz53_0
        try clear hcz53_1
        try clear hcz54_0
        try clear hcz54_1
        try clear hcz56_0
        try clear hcz56_1
        try clear hcz61_0
        try clear hcz61_1
        try clear hcz64_0
        try clear hcz64_1
        try clear hcz68_0
        try clear hcz68_1
        try clear hcz71_0
        try clear hcz71_1
        try clear hcz79_0
        try clear hcz79_1
        try clear hcz82_0
        try clear hcz82_1
        try clear hcz85_0
        try clear hcz85_1
        try clear hcz86_0
        try clear hcz86_1
        try clear hcz87_0
        try clear hcz87_1
        try clear hcz89_0
        try clear hcz89_1
        try clear hcz94_0
        try clear hcz94_1
        try clear hcz97_0
        try clear hcz97_1
        try clear hcz9_0
        try clear hcz9_1
        try clear hfz101_0
        try clear hfz101_1
        try clear hfz104_0
        try clear hfz104_1
        try clear hfz10_0
        try clear hfz10_1
        try clear hfz15_0
        try clear hfz15_1
        try clear hfz16_0
        try clear hfz16_1
        try clear hfz17_0
        try clear hfz17_1
        try clear hfz23_0
        try clear hfz23_1
        try clear hfz28_0
        try clear hfz28_1
        try clear hfz31_0
        try clear hfz31_1
        try clear hfz35_0
        try clear hfz35_1
        try clear hfz38_0
        try clear hfz38_1
        try clear hfz46_0
        try clear hfz46_1
        try clear hfz49_0
        try clear hfz49_1
        try clear hfz52_0
        try clear hfz52_1
        try clear hfz53_0
        try clear hfz53_1
        try clear hfz54_0
        try clear hfz54_1
        try clear hfz56_0
        try clear hfz56_1
        try clear hfz61_0
        try clear hfz61_1
        try clear hfz64_0
        try clear hfz64_1
        try clear hfz68_0
        try clear hfz68_1
        try clear hfz71_0
        try clear hfz71_1
        try clear hfz79_0
        try clear hfz79_1
        try clear hfz82_0
        try clear hfz82_1
        try clear hfz85_0
        try clear hfz85_1
        try clear hfz86_0
        try clear hfz86_1
        try clear hfz87_0
        try clear hfz87_1
        try clear hfz89_0
        try clear hfz89_1
        try clear hfz94_0
        try clear hfz94_1
        try clear hfz97_0
        try clear hfz97_1
        try clear hfz9_0
        try clear hfz9_1
        try clear p2
        obtain ⟨kq, x68_74, rfl, HA, HJ74, BK350, BK351, BK355, BK359, HB⟩ := hcut
        cases kq with
        | zero => exact absurd HA.out (by simp [accountinglaw03_FracArith.j2])
        | succ kj74 =>
         have H := HA.out
         clear HA
         simp only [accountinglaw03_FracArith.j2] at H
         by_cases c105 : x68_74 = true
         ·subst c105
          have H1 : (some false) = some r := by rw [if_pos rfl] at H; exact H
          clear H
          have H := H1
          clear H1
          obtain rfl := Option.some.inj H
          go_wp2
          go_ret
          exact ⟨q13, q110⟩
         ·replace c105 := Bool.eq_false_iff.mpr c105
          subst c105
          have H1 : ((frac_Quo.f a0_0 a0_1 a1_0 a1_1).bind fun bt372 => ((accountingref03_Quo.f kj74 a0_0 a0_1 a1_0 a1_1).bind fun bt375 => (if (bt372.1 == bt375.1 && (bt372.2.1 == bt375.2.1)) = true then (if bt372.2.2 = bt375.2.2 then ((frac_Cmp.f kj74 a0_0 a0_1 a1_0 a1_1).bind fun t378 => ((accountingref03_Cmp.f kj74 a0_0 a0_1 a1_0 a1_1).bind fun t379 => (if t378 = t379 then ((accountinglaw03_lives.f).bind fun t380 => (some t380)) else (some false)))) else (some false)) else (some false)))) = some r := by rw [if_neg (show ¬ (false = true) by decide)] at H; exact H
          clear H
          have H := H1
          clear H1
          replace H := Option.bind_eq_some_iff.mp H
          obtain ⟨⟨t372, t373, t374⟩, A1060, H⟩ := H
          replace H : ((accountingref03_Quo.f kj74 a0_0 a0_1 a1_0 a1_1).bind fun bt375 => (if (t372 == bt375.1 && (t373 == bt375.2.1)) = true then (if t374 = bt375.2.2 then ((frac_Cmp.f kj74 a0_0 a0_1 a1_0 a1_1).bind fun t378 => ((accountingref03_Cmp.f kj74 a0_0 a0_1 a1_0 a1_1).bind fun t379 => (if t378 = t379 then ((accountinglaw03_lives.f).bind fun t380 => (some t380)) else (some false)))) else (some false)) else (some false))) = some r := H
          have A106 := Aside0.mk A1060
          clear A1060
          replace H := Option.bind_eq_some_iff.mp H
          obtain ⟨⟨t375, t376, t377⟩, A1070, H⟩ := H
          replace H : (if (t372 == t375 && (t373 == t376)) = true then (if t374 = t377 then ((frac_Cmp.f kj74 a0_0 a0_1 a1_0 a1_1).bind fun t378 => ((accountingref03_Cmp.f kj74 a0_0 a0_1 a1_0 a1_1).bind fun t379 => (if t378 = t379 then ((accountinglaw03_lives.f).bind fun t380 => (some t380)) else (some false)))) else (some false)) else (some false)) = some r := H
          have A107 := Aside0.mk A1070
          clear A1070
          by_cases c108 : (t372 == t375 && (t373 == t376)) = true
          ·rw [if_pos c108] at H
           have c108b0 : (t372 == t375 && (t373 == t376)) = true := c108
           (try (have c108b1 : decide (t372 = t375 && (t373 == t376)) = true := by simpa using c108))
           (try (have c108b2 : (t372 == t375 && (t373 == t376)) = true := by simpa using c108))
           clear c108
           by_cases c109 : t374 = t377
           ·rw [if_pos c109] at H
            have c109b0 : (t374 == t377) = true := beq_iff_eq.mpr c109
            have c109b1 : (t374 != t377) = false := bne_eq_false_iff_eq.mpr c109
            clear c109
            replace H := Option.bind_eq_some_iff.mp H
            obtain ⟨t378, A1100, H⟩ := H
            replace H : ((accountingref03_Cmp.f kj74 a0_0 a0_1 a1_0 a1_1).bind fun t379 => (if t378 = t379 then ((accountinglaw03_lives.f).bind fun t380 => (some t380)) else (some false))) = some r := H
            have A110 := Aside0.mk A1100
            clear A1100
            replace H := Option.bind_eq_some_iff.mp H
            obtain ⟨t379, A1110, H⟩ := H
            replace H : (if t378 = t379 then ((accountinglaw03_lives.f).bind fun t380 => (some t380)) else (some false)) = some r := H
            have A111 := Aside0.mk A1110
            clear A1110
            by_cases c112 : t378 = t379
            ·rw [if_pos c112] at H
             have c112b0 : (t378 == t379) = true := beq_iff_eq.mpr c112
             have c112b1 : (t378 != t379) = false := bne_eq_false_iff_eq.mpr c112
             clear c112
             replace H := Option.bind_eq_some_iff.mp H
             obtain ⟨t380, A1130, H⟩ := H
             replace H : (some t380) = some r := H
             have A113 := Aside0.mk A1130
             clear A1130
             obtain rfl := Option.some.inj H
             have hnb114 := NB350_351.out
             have hnc114 := NB351_350.out
             have hnb115 := NB350_355.out
             have hnc115 := NB355_350.out
             have hnb116 := NB350_359.out
             have hnc116 := NB359_350.out
             have hcz117_0 : wc.cell? ⟨gb350, 0, none⟩ = some (.int .i64 a0_0) := (blk_cell BK350.out 0).trans rfl
             have hcz117_1 : wc.cell? ⟨gb350, 1, none⟩ = some (.int .i64 a0_1) := (blk_cell BK350.out 1).trans rfl
             have hfz117_0 := blk_frozen BK350.out 0
             have hfz117_1 := blk_frozen BK350.out 1
             have hnb118 := NB351_355.out
             have hnc118 := NB355_351.out
             have hnb119 := NB351_359.out
             have hnc119 := NB359_351.out
             have hcz120_0 : wc.cell? ⟨gb351, 0, none⟩ = some (.int .i64 a1_0) := (blk_cell BK351.out 0).trans rfl
             have hcz120_1 : wc.cell? ⟨gb351, 1, none⟩ = some (.int .i64 a1_1) := (blk_cell BK351.out 1).trans rfl
             have hfz120_0 := blk_frozen BK351.out 0
             have hfz120_1 := blk_frozen BK351.out 1
             try go_wp2_with (first | ((with_reducible refine gate_callee (f := 30) rfl ?_); refine goesL_ (some 72) rfl rfl Try.func30 (by kernel_rfl) rfl #[.agg #[.int .i64 a0_0, .int .i64 a0_1], .agg #[.int .i64 a1_0, .int .i64 a1_1]] rfl q20 ?_; (with_reducible refine (frac_Quo.calls a0_0 a0_1 a1_0 a1_1 t372 t373 t374 _ A106.out).mono ?_); rintro e w121 ⟨rfl, hb⟩; refine ⟨_, rfl, ?_⟩; have n0_ := Aside0.mk (blk_below (g := gb350) (o := .cells #[.int .i64 a0_0, .int .i64 a0_1] 23 (0, 0)) q97 hb); have n1_ := Aside0.mk (blk_below (g := gb351) (o := .cells #[.int .i64 a1_0, .int .i64 a1_1] 23 (0, 0)) q101 hb); have n2_ := Aside0.mk (blk_below (g := gb355) (o := .cells #[.int .i64 t366, .int .i64 t367] 23 (0, 0)) q106 hb); have n3_ := Aside0.mk (blk_below (g := gb359) (o := .cells #[.int .i64 t369, .int .i64 t370] 23 (0, 0)) q111 hb); have n4_ := Aside0.mk (below_step q110 hb); clear BK350; clear BK351; clear BK355; clear BK359; clear HB; have BK350 := n0_; have BK351 := n1_; have BK355 := n2_; have BK359 := n3_; have HB := n4_; clear n0_ n1_ n2_ n3_ n4_; (try clear hb); (try clear hb2); (try clear hk); (try clear hi); have hnb122 := NB355_359.out; have hnc122 := NB359_355.out; have hcz123_0 : w121.cell? ⟨gb355, 0, none⟩ = some (.int .i64 t366) := (blk_cell BK355.out 0).trans rfl; have hcz123_1 : w121.cell? ⟨gb355, 1, none⟩ = some (.int .i64 t367) := (blk_cell BK355.out 1).trans rfl; have hfz123_0 := blk_frozen BK355.out 0; have hfz123_1 := blk_frozen BK355.out 1; have hcz124_0 : w121.cell? ⟨gb350, 0, none⟩ = some (.int .i64 a0_0) := (blk_cell BK350.out 0).trans rfl; have hcz124_1 : w121.cell? ⟨gb350, 1, none⟩ = some (.int .i64 a0_1) := (blk_cell BK350.out 1).trans rfl; have hfz124_0 := blk_frozen BK350.out 0; have hfz124_1 := blk_frozen BK350.out 1; have hcz125_0 : w121.cell? ⟨gb351, 0, none⟩ = some (.int .i64 a1_0) := (blk_cell BK351.out 0).trans rfl; have hcz125_1 : w121.cell? ⟨gb351, 1, none⟩ = some (.int .i64 a1_1) := (blk_cell BK351.out 1).trans rfl; have hfz125_0 := blk_frozen BK351.out 0; have hfz125_1 := blk_frozen BK351.out 1) | ((with_reducible refine gate_callee (f := 31) rfl ?_); refine goesL_ (some 78) rfl rfl Try.func31 (by kernel_rfl) rfl #[.agg #[.int .i64 a0_0, .int .i64 a0_1], .agg #[.int .i64 a1_0, .int .i64 a1_1]] rfl q20 ?_; (with_reducible refine (accountingref03_Quo.calls kj74 a0_0 a0_1 a1_0 a1_1 t375 t376 t377 _ A107.out).mono ?_); rintro e w126 ⟨rfl, hb⟩; refine ⟨_, rfl, ?_⟩; have n0_ := Aside0.mk (blk_below (g := gb350) (o := .cells #[.int .i64 a0_0, .int .i64 a0_1] 23 (0, 0)) q103 hb); have n1_ := Aside0.mk (blk_below (g := gb351) (o := .cells #[.int .i64 a1_0, .int .i64 a1_1] 23 (0, 0)) q104 hb); have n2_ := Aside0.mk (blk_below (g := gb355) (o := .cells #[.int .i64 t372, .int .i64 t373] 23 (0, 0)) q114 hb); have n3_ := Aside0.mk (blk_below (g := gb359) (o := .cells #[.int .i64 t369, .int .i64 t370] 23 (0, 0)) q112 hb); have n4_ := Aside0.mk (below_step q110 hb); clear BK350; clear BK351; clear BK355; clear BK359; clear HB; have BK350 := n0_; have BK351 := n1_; have BK355 := n2_; have BK359 := n3_; have HB := n4_; clear n0_ n1_ n2_ n3_ n4_; (try clear hb); (try clear hb2); (try clear hk); (try clear hi); have hcz127_0 : w126.cell? ⟨gb359, 0, none⟩ = some (.int .i64 t369) := (blk_cell BK359.out 0).trans rfl; have hcz127_1 : w126.cell? ⟨gb359, 1, none⟩ = some (.int .i64 t370) := (blk_cell BK359.out 1).trans rfl; have hfz127_0 := blk_frozen BK359.out 0; have hfz127_1 := blk_frozen BK359.out 1))
             have n0_ : Aside0 (((w126.setCell ⟨gb359, 0, none⟩ (.int .i64 t375)).setCell ⟨gb359, 1, none⟩ (.int .i64 t376)).heap[gb350]? = some (.cells #[.int .i64 a0_0, .int .i64 a0_1] 23 (0, 0))) := ⟨q107⟩
             have n1_ : Aside0 (((w126.setCell ⟨gb359, 0, none⟩ (.int .i64 t375)).setCell ⟨gb359, 1, none⟩ (.int .i64 t376)).heap[gb351]? = some (.cells #[.int .i64 a1_0, .int .i64 a1_1] 23 (0, 0))) := ⟨q108⟩
             have n2_ : Aside0 (((w126.setCell ⟨gb359, 0, none⟩ (.int .i64 t375)).setCell ⟨gb359, 1, none⟩ (.int .i64 t376)).heap[gb355]? = some (.cells #[.int .i64 t372, .int .i64 t373] 23 (0, 0))) := ⟨q109⟩
             have n3_ : Aside0 (((w126.setCell ⟨gb359, 0, none⟩ (.int .i64 t375)).setCell ⟨gb359, 1, none⟩ (.int .i64 t376)).heap[gb359]? = some (.cells #[.int .i64 t375, .int .i64 t376] 23 (0, 0))) := ⟨q115⟩
             have n4_ : Aside0 (Below w.heap.size w ((w126.setCell ⟨gb359, 0, none⟩ (.int .i64 t375)).setCell ⟨gb359, 1, none⟩ (.int .i64 t376))) := ⟨q110⟩
             (try clear BK350)
             (try clear BK351)
             (try clear BK355)
             (try clear BK359)
             (try clear HB)
             generalize ((w126.setCell ⟨gb359, 0, none⟩ (.int .i64 t375)).setCell ⟨gb359, 1, none⟩ (.int .i64 t376)) = w128 at n0_ n1_ n2_ n3_ n4_ ⊢
             have BK350 := n0_
             have BK351 := n1_
             have BK355 := n2_
             have BK359 := n3_
             have HB := n4_
             clear n0_ n1_ n2_ n3_ n4_
             have n0_ := Aside0.mk (blk_drew BK350.out)
             have n1_ := Aside0.mk (blk_drew BK351.out)
             have n2_ := Aside0.mk (blk_drew BK355.out)
             have n3_ := Aside0.mk (blk_drew BK359.out)
             have n4_ := Aside0.mk (below_drew1 HB.out)
             clear BK350
             clear BK351
             clear BK355
             clear BK359
             clear HB
             have BK350 := n0_
             have BK351 := n1_
             have BK355 := n2_
             have BK359 := n3_
             have HB := n4_
             clear n0_ n1_ n2_ n3_ n4_
             refine start_ (n := 21) (S := fun w' => w'.cell? ⟨gb355, 0, none⟩ = some (.int .i64 t372) ∧ w'.cell? ⟨gb355, 1, none⟩ = some (.int .i64 t373) ∧ w'.cell? ⟨gb359, 0, none⟩ = some (.int .i64 t375) ∧ w'.cell? ⟨gb359, 1, none⟩ = some (.int .i64 t376) ∧ w'.cell? ⟨gb350, 0, none⟩ = some (.int .i64 a0_0) ∧ w'.cell? ⟨gb350, 1, none⟩ = some (.int .i64 a0_1) ∧ w'.cell? ⟨gb351, 0, none⟩ = some (.int .i64 a1_0) ∧ w'.cell? ⟨gb351, 1, none⟩ = some (.int .i64 a1_1)) (ds := []) #[false, false, false, false, false, false, false, false, false, false, false, false, false, false, false, false, false, false, false, false, false] (by kernel_rfl) rfl rfl ⟨(blk_cell BK355.out 0).trans rfl, (blk_cell BK355.out 1).trans rfl, (blk_cell BK359.out 0).trans rfl, (blk_cell BK359.out 1).trans rfl, (blk_cell BK350.out 0).trans rfl, (blk_cell BK350.out 1).trans rfl, (blk_cell BK351.out 0).trans rfl, (blk_cell BK351.out 1).trans rfl⟩ (fun hHeld => ?_); refine with_tabW accountinglaw03_FracArith.tab15 accountinglaw03_FracArith.bits15 (fun HT_ HW_ => ?_)
             generalize w128.drew = w129 at BK350 BK351 BK355 BK359 HB hHeld ⊢
             refine take_ (i := 0) (N := some 81) (v := ?_) (a' := ?_) #[true, false, false, false, false, false, false, false, false, false, false, false, false, false, false, false, false, false, false, false, false] rfl rfl (take_ofW HT_.out HW_.out (by kernel_rfl)) (fun _ _ _ h => h) (Or.inl ⟨by rfl, ?_⟩) hHeld ?_ ?_
             rotate_left
             ·rintro w' ⟨s0, s1, s2, s3, s4, s5, s6, s7⟩
              go_simp
              with_reducible rfl
             rotate_left
             ·simp only [Act.put, List.setIfInBounds_toArray, List.set_cons_zero, List.set_cons_succ, i64_w, i32_w]
              rfl
             refine take_ (i := 1) (N := some 82) (v := ?_) (a' := ?_) #[true, true, false, false, false, false, false, false, false, false, false, false, false, false, false, false, false, false, false, false, false] rfl rfl (take_ofW HT_.out HW_.out (by kernel_rfl)) (fun _ _ _ h => h) (Or.inl ⟨by rfl, ?_⟩) hHeld ?_ ?_
             rotate_left
             ·rintro w' ⟨s0, s1, s2, s3, s4, s5, s6, s7⟩
              go_simp
              with_reducible rfl
             rotate_left
             ·simp only [Act.put, List.setIfInBounds_toArray, List.set_cons_zero, List.set_cons_succ, i64_w, i32_w]
              rfl
             refine pure_ (i := 2) (N := some 83) (v := ?_) (a' := ?_) #[true, true, true, false, false, false, false, false, false, false, false, false, false, false, false, false, false, false, false, false, false] rfl rfl (any_of HT_.out (by kernel_rfl)) (fun _ _ _ h => h) (Or.inl ⟨by rfl, ?_⟩) ?_ ?_
             rotate_left
             ·intro w'
              go_simp
              with_reducible rfl
             rotate_left
             ·simp only [Act.put, List.setIfInBounds_toArray, List.set_cons_zero, List.set_cons_succ, i64_w, i32_w]
              rfl
             refine pure_ (i := 3) (N := some 84) (v := ?_) (a' := ?_) #[true, true, true, true, false, false, false, false, false, false, false, false, false, false, false, false, false, false, false, false, false] rfl rfl (any_of HT_.out (by kernel_rfl)) (fun _ _ _ h => h) (Or.inl ⟨by rfl, ?_⟩) ?_ ?_
             rotate_left
             ·intro w'
              go_simp
              with_reducible rfl
             rotate_left
             ·simp only [Act.put, List.setIfInBounds_toArray, List.set_cons_zero, List.set_cons_succ, i64_w, i32_w]
              rfl
             refine pure_ (i := 4) (N := some 85) (v := ?_) (a' := ?_) #[true, true, true, true, true, false, false, false, false, false, false, false, false, false, false, false, false, false, false, false, false] rfl rfl (any_of HT_.out (by kernel_rfl)) (fun _ _ _ h => h) (Or.inl ⟨by rfl, ?_⟩) ?_ ?_
             rotate_left
             ·intro w'
              go_simp
              with_reducible rfl
             rotate_left
             ·simp only [Act.put, List.setIfInBounds_toArray, List.set_cons_zero, List.set_cons_succ, i64_w, i32_w]
              rfl
             refine pure_ (i := 5) (N := some 86) (v := ?_) (a' := ?_) #[true, true, true, true, true, true, false, false, false, false, false, false, false, false, false, false, false, false, false, false, false] rfl rfl (any_of HT_.out (by kernel_rfl)) (fun _ _ _ h => h) (Or.inl ⟨by rfl, ?_⟩) ?_ ?_
             rotate_left
             ·intro w'
              go_simp
              with_reducible rfl
             rotate_left
             ·simp only [Act.put, List.setIfInBounds_toArray, List.set_cons_zero, List.set_cons_succ, i64_w, i32_w]
              rfl
             refine pure_ (i := 6) (N := some 87) (v := ?_) (a' := ?_) #[true, true, true, true, true, true, true, false, false, false, false, false, false, false, false, false, false, false, false, false, false] rfl rfl (any_of HT_.out (by kernel_rfl)) (fun _ _ _ h => h) (Or.inl ⟨by rfl, ?_⟩) ?_ ?_
             rotate_left
             ·intro w'
              go_simp
              with_reducible rfl
             rotate_left
             ·simp only [Act.put, List.setIfInBounds_toArray, List.set_cons_zero, List.set_cons_succ, i64_w, i32_w]
              rfl
             refine pure_ (i := 7) (N := some 88) (v := ?_) (a' := ?_) #[true, true, true, true, true, true, true, true, false, false, false, false, false, false, false, false, false, false, false, false, false] rfl rfl (any_of HT_.out (by kernel_rfl)) (fun _ _ _ h => h) (Or.inl ⟨by rfl, ?_⟩) ?_ ?_
             rotate_left
             ·intro w'
              go_simp
              with_reducible rfl
             rotate_left
             ·simp only [Act.put, List.setIfInBounds_toArray, List.set_cons_zero, List.set_cons_succ, i64_w, i32_w]
              rfl
             refine pure_ (i := 8) (N := some 89) (v := ?_) (a' := ?_) #[true, true, true, true, true, true, true, true, true, false, false, false, false, false, false, false, false, false, false, false, false] rfl rfl (any_of HT_.out (by kernel_rfl)) (fun _ _ _ h => h) (Or.inl ⟨by rfl, ?_⟩) ?_ ?_
             rotate_left
             ·intro w'
              go_simp
              with_reducible rfl
             rotate_left
             ·simp only [Act.put, List.setIfInBounds_toArray, List.set_cons_zero, List.set_cons_succ, i64_w, i32_w]
              rfl
             refine take_ (i := 9) (N := some 90) (v := ?_) (a' := ?_) #[true, true, true, true, true, true, true, true, true, true, false, false, false, false, false, false, false, false, false, false, false] rfl rfl (take_ofW HT_.out HW_.out (by kernel_rfl)) (fun _ _ _ h => h) (Or.inl ⟨by rfl, ?_⟩) hHeld ?_ ?_
             rotate_left
             ·rintro w' ⟨s0, s1, s2, s3, s4, s5, s6, s7⟩
              go_simp
              with_reducible rfl
             rotate_left
             ·simp only [Act.put, List.setIfInBounds_toArray, List.set_cons_zero, List.set_cons_succ, i64_w, i32_w]
              rfl
             refine take_ (i := 10) (N := some 91) (v := ?_) (a' := ?_) #[true, true, true, true, true, true, true, true, true, true, true, false, false, false, false, false, false, false, false, false, false] rfl rfl (take_ofW HT_.out HW_.out (by kernel_rfl)) (fun _ _ _ h => h) (Or.inl ⟨by rfl, ?_⟩) hHeld ?_ ?_
             rotate_left
             ·rintro w' ⟨s0, s1, s2, s3, s4, s5, s6, s7⟩
              go_simp
              with_reducible rfl
             rotate_left
             ·simp only [Act.put, List.setIfInBounds_toArray, List.set_cons_zero, List.set_cons_succ, i64_w, i32_w]
              rfl
             refine take_ (i := 12) (N := some 93) (v := ?_) (a' := ?_) #[true, true, true, true, true, true, true, true, true, true, true, false, true, false, false, false, false, false, false, false, false] rfl rfl (take_ofW HT_.out HW_.out (by kernel_rfl)) (fun _ _ _ h => h) (Or.inl ⟨by rfl, ?_⟩) hHeld ?_ ?_
             rotate_left
             ·rintro w' ⟨s0, s1, s2, s3, s4, s5, s6, s7⟩
              go_simp
              with_reducible rfl
             rotate_left
             ·simp only [Act.put, List.setIfInBounds_toArray, List.set_cons_zero, List.set_cons_succ, i64_w, i32_w]
              rfl
             refine take_ (i := 13) (N := some 94) (v := ?_) (a' := ?_) #[true, true, true, true, true, true, true, true, true, true, true, false, true, true, false, false, false, false, false, false, false] rfl rfl (take_ofW HT_.out HW_.out (by kernel_rfl)) (fun _ _ _ h => h) (Or.inl ⟨by rfl, ?_⟩) hHeld ?_ ?_
             rotate_left
             ·rintro w' ⟨s0, s1, s2, s3, s4, s5, s6, s7⟩
              go_simp
              with_reducible rfl
             rotate_left
             ·simp only [Act.put, List.setIfInBounds_toArray, List.set_cons_zero, List.set_cons_succ, i64_w, i32_w]
              rfl
             refine one_ (i := 11) (N := some 92) #[true, true, true, true, true, true, true, true, true, true, true, true, true, true, false, false, false, false, false, false, false] rfl rfl (one_of HT_.out (by kernel_rfl)) (by decide) (fun K hK => ?_)
             refine goes_ Try.func23 (by kernel_rfl) rfl #[.agg #[.int .i64 a0_0, .int .i64 a0_1], .agg #[.int .i64 a1_0, .int .i64 a1_1]] (by rfl) rfl rfl q20 ?_
             with_reducible refine (frac_Cmp.calls kj74 a0_0 a0_1 a1_0 a1_1 t378 _ A110.out).mono ?_
             rintro e w130 ⟨rfl, hb⟩
             refine ⟨_, rfl, ?_⟩
             have n0_ := Aside0.mk (blk_below (g := gb350) (o := .cells #[.int .i64 a0_0, .int .i64 a0_1] 23 (0, 0)) q97 hb)
             have n1_ := Aside0.mk (blk_below (g := gb351) (o := .cells #[.int .i64 a1_0, .int .i64 a1_1] 23 (0, 0)) q101 hb)
             have n2_ := Aside0.mk (blk_below (g := gb355) (o := .cells #[.int .i64 t372, .int .i64 t373] 23 (0, 0)) q106 hb)
             have n3_ := Aside0.mk (blk_below (g := gb359) (o := .cells #[.int .i64 t375, .int .i64 t376] 23 (0, 0)) q111 hb)
             have n4_ := Aside0.mk (below_step q110 hb)
             clear BK350
             clear BK351
             clear BK355
             clear BK359
             clear HB
             have BK350 := n0_
             have BK351 := n1_
             have BK355 := n2_
             have BK359 := n3_
             have HB := n4_
             clear n0_ n1_ n2_ n3_ n4_
             (try clear hb)
             (try clear hb2)
             (try clear hk)
             (try clear hi)
             refine hK.out _ _ ⟨(blk_cell BK355.out 0).trans rfl, (blk_cell BK355.out 1).trans rfl, (blk_cell BK359.out 0).trans rfl, (blk_cell BK359.out 1).trans rfl, (blk_cell BK350.out 0).trans rfl, (blk_cell BK350.out 1).trans rfl, (blk_cell BK351.out 0).trans rfl, (blk_cell BK351.out 1).trans rfl⟩ (fun hHeld => ?_)
             clear hK K
             refine norm_ (a' := ?_) ?_ ?_
             rotate_left
             ·show Act.put _ (some 92) _ = _
              simp only [Act.put, List.setIfInBounds_toArray, List.set_cons_zero, List.set_cons_succ, i64_w, i32_w]
              rfl
             refine one_ (i := 14) (N := some 95) #[true, true, true, true, true, true, true, true, true, true, true, true, true, true, true, false, false, false, false, false, false] rfl rfl (one_of HT_.out (by kernel_rfl)) (by decide) (fun K hK => ?_)
             refine goes_ Try.func32 (by kernel_rfl) rfl #[.agg #[.int .i64 a0_0, .int .i64 a0_1], .agg #[.int .i64 a1_0, .int .i64 a1_1]] (by rfl) rfl rfl q20 ?_
             with_reducible refine (accountingref03_Cmp.calls kj74 a0_0 a0_1 a1_0 a1_1 t379 _ A111.out).mono ?_
             rintro e w131 ⟨rfl, hb⟩
             refine ⟨_, rfl, ?_⟩
             have n0_ := Aside0.mk (blk_below (g := gb350) (o := .cells #[.int .i64 a0_0, .int .i64 a0_1] 23 (0, 0)) q97 hb)
             have n1_ := Aside0.mk (blk_below (g := gb351) (o := .cells #[.int .i64 a1_0, .int .i64 a1_1] 23 (0, 0)) q101 hb)
             have n2_ := Aside0.mk (blk_below (g := gb355) (o := .cells #[.int .i64 t372, .int .i64 t373] 23 (0, 0)) q106 hb)
             have n3_ := Aside0.mk (blk_below (g := gb359) (o := .cells #[.int .i64 t375, .int .i64 t376] 23 (0, 0)) q111 hb)
             have n4_ := Aside0.mk (below_step q110 hb)
             clear BK350
             clear BK351
             clear BK355
             clear BK359
             clear HB
             have BK350 := n0_
             have BK351 := n1_
             have BK355 := n2_
             have BK359 := n3_
             have HB := n4_
             clear n0_ n1_ n2_ n3_ n4_
             (try clear hb)
             (try clear hb2)
             (try clear hk)
             (try clear hi)
             refine hK.out _ _ ⟨(blk_cell BK355.out 0).trans rfl, (blk_cell BK355.out 1).trans rfl, (blk_cell BK359.out 0).trans rfl, (blk_cell BK359.out 1).trans rfl, (blk_cell BK350.out 0).trans rfl, (blk_cell BK350.out 1).trans rfl, (blk_cell BK351.out 0).trans rfl, (blk_cell BK351.out 1).trans rfl⟩ (fun hHeld => ?_)
             clear hK K
             refine norm_ (a' := ?_) ?_ ?_
             rotate_left
             ·show Act.put _ (some 95) _ = _
              simp only [Act.put, List.setIfInBounds_toArray, List.set_cons_zero, List.set_cons_succ, i64_w, i32_w]
              rfl
             refine pure_ (i := 15) (N := some 96) (v := ?_) (a' := ?_) #[true, true, true, true, true, true, true, true, true, true, true, true, true, true, true, true, false, false, false, false, false] rfl rfl (any_of HT_.out (by kernel_rfl)) (fun _ _ _ h => h) (Or.inl ⟨by rfl, ?_⟩) ?_ ?_
             rotate_left
             ·intro w'
              go_simp
              with_reducible rfl
             rotate_left
             ·simp only [Act.put, List.setIfInBounds_toArray, List.set_cons_zero, List.set_cons_succ, i64_w, i32_w]
              rfl
             refine pure_ (i := 16) (N := some 97) (v := ?_) (a' := ?_) #[true, true, true, true, true, true, true, true, true, true, true, true, true, true, true, true, true, false, false, false, false] rfl rfl (any_of HT_.out (by kernel_rfl)) (fun _ _ _ h => h) (Or.inl ⟨by rfl, ?_⟩) ?_ ?_
             rotate_left
             ·intro w'
              go_simp
              with_reducible rfl
             rotate_left
             ·simp only [Act.put, List.setIfInBounds_toArray, List.set_cons_zero, List.set_cons_succ, i64_w, i32_w]
              rfl
             refine pure_ (i := 17) (N := some 98) (v := ?_) (a' := ?_) #[true, true, true, true, true, true, true, true, true, true, true, true, true, true, true, true, true, true, false, false, false] rfl rfl (any_of HT_.out (by kernel_rfl)) (fun _ _ _ h => h) (Or.inl ⟨by rfl, ?_⟩) ?_ ?_
             rotate_left
             ·intro w'
              go_simp
              with_reducible rfl
             rotate_left
             ·simp only [Act.put, List.setIfInBounds_toArray, List.set_cons_zero, List.set_cons_succ, i64_w, i32_w]
              rfl
             refine one_ (i := 18) (N := some 99) #[true, true, true, true, true, true, true, true, true, true, true, true, true, true, true, true, true, true, true, false, false] rfl rfl (one_of HT_.out (by kernel_rfl)) (by decide) (fun K hK => ?_)
             refine goes_ Try.func14 (by kernel_rfl) rfl #[] (by rfl) rfl rfl q20 ?_
             with_reducible refine (accountinglaw03_lives.calls  t380 _ A113.out).mono ?_
             rintro e w132 ⟨rfl, hb⟩
             refine ⟨_, rfl, ?_⟩
             have n0_ := Aside0.mk (blk_below (g := gb350) (o := .cells #[.int .i64 a0_0, .int .i64 a0_1] 23 (0, 0)) q97 hb)
             have n1_ := Aside0.mk (blk_below (g := gb351) (o := .cells #[.int .i64 a1_0, .int .i64 a1_1] 23 (0, 0)) q101 hb)
             have n2_ := Aside0.mk (blk_below (g := gb355) (o := .cells #[.int .i64 t372, .int .i64 t373] 23 (0, 0)) q106 hb)
             have n3_ := Aside0.mk (blk_below (g := gb359) (o := .cells #[.int .i64 t375, .int .i64 t376] 23 (0, 0)) q111 hb)
             have n4_ := Aside0.mk (below_step q110 hb)
             clear BK350
             clear BK351
             clear BK355
             clear BK359
             clear HB
             have BK350 := n0_
             have BK351 := n1_
             have BK355 := n2_
             have BK359 := n3_
             have HB := n4_
             clear n0_ n1_ n2_ n3_ n4_
             (try clear hb)
             (try clear hb2)
             (try clear hk)
             (try clear hi)
             refine hK.out _ _ ⟨(blk_cell BK355.out 0).trans rfl, (blk_cell BK355.out 1).trans rfl, (blk_cell BK359.out 0).trans rfl, (blk_cell BK359.out 1).trans rfl, (blk_cell BK350.out 0).trans rfl, (blk_cell BK350.out 1).trans rfl, (blk_cell BK351.out 0).trans rfl, (blk_cell BK351.out 1).trans rfl⟩ (fun hHeld => ?_)
             clear hK K
             refine norm_ (a' := ?_) ?_ ?_
             rotate_left
             ·show Act.put _ (some 99) _ = _
              simp only [Act.put, List.setIfInBounds_toArray, List.set_cons_zero, List.set_cons_succ, i64_w, i32_w]
              rfl
             refine pure_ (i := 19) (N := some 100) (v := ?_) (a' := ?_) #[true, true, true, true, true, true, true, true, true, true, true, true, true, true, true, true, true, true, true, true, false] rfl rfl (any_of HT_.out (by kernel_rfl)) (fun _ _ _ h => h) (Or.inl ⟨by rfl, ?_⟩) ?_ ?_
             rotate_left
             ·intro w'
              go_simp
              with_reducible rfl
             rotate_left
             ·simp only [Act.put, List.setIfInBounds_toArray, List.set_cons_zero, List.set_cons_succ, i64_w, i32_w]
              rfl
             refine pure_ (i := 20) (N := some 4) (v := ?_) (a' := ?_) #[true, true, true, true, true, true, true, true, true, true, true, true, true, true, true, true, true, true, true, true, true] rfl rfl (any_of HT_.out (by kernel_rfl)) (fun _ _ _ h => h) (Or.inl ⟨by rfl, ?_⟩) ?_ ?_
             rotate_left
             ·intro w'
              go_simp
              with_reducible rfl
             rotate_left
             ·simp only [Act.put, List.setIfInBounds_toArray, List.set_cons_zero, List.set_cons_succ, i64_w, i32_w]
              rfl
             refine done_ (done_of HT_.out (by kernel_rfl)) ?_
             try go_wp2
             go_ret
             exact ⟨q13, q110⟩
            ·rw [if_neg c112] at H
             have c112b0 : (t378 == t379) = false := beq_eq_false_iff_ne.mpr c112
             have c112b1 : (t378 != t379) = true := bne_iff_ne.mpr c112
             obtain rfl := Option.some.inj H
             have hnb133 := NB350_351.out
             have hnc133 := NB351_350.out
             have hnb134 := NB350_355.out
             have hnc134 := NB355_350.out
             have hnb135 := NB350_359.out
             have hnc135 := NB359_350.out
             have hcz136_0 : wc.cell? ⟨gb350, 0, none⟩ = some (.int .i64 a0_0) := (blk_cell BK350.out 0).trans rfl
             have hcz136_1 : wc.cell? ⟨gb350, 1, none⟩ = some (.int .i64 a0_1) := (blk_cell BK350.out 1).trans rfl
             have hfz136_0 := blk_frozen BK350.out 0
             have hfz136_1 := blk_frozen BK350.out 1
             have hnb137 := NB351_355.out
             have hnc137 := NB355_351.out
             have hnb138 := NB351_359.out
             have hnc138 := NB359_351.out
             have hcz139_0 : wc.cell? ⟨gb351, 0, none⟩ = some (.int .i64 a1_0) := (blk_cell BK351.out 0).trans rfl
             have hcz139_1 : wc.cell? ⟨gb351, 1, none⟩ = some (.int .i64 a1_1) := (blk_cell BK351.out 1).trans rfl
             have hfz139_0 := blk_frozen BK351.out 0
             have hfz139_1 := blk_frozen BK351.out 1
             try go_wp2_with (first | ((with_reducible refine gate_callee (f := 30) rfl ?_); refine goesL_ (some 72) rfl rfl Try.func30 (by kernel_rfl) rfl #[.agg #[.int .i64 a0_0, .int .i64 a0_1], .agg #[.int .i64 a1_0, .int .i64 a1_1]] rfl q20 ?_; (with_reducible refine (frac_Quo.calls a0_0 a0_1 a1_0 a1_1 t372 t373 t374 _ A106.out).mono ?_); rintro e w140 ⟨rfl, hb⟩; refine ⟨_, rfl, ?_⟩; have n0_ := Aside0.mk (blk_below (g := gb350) (o := .cells #[.int .i64 a0_0, .int .i64 a0_1] 23 (0, 0)) q97 hb); have n1_ := Aside0.mk (blk_below (g := gb351) (o := .cells #[.int .i64 a1_0, .int .i64 a1_1] 23 (0, 0)) q101 hb); have n2_ := Aside0.mk (blk_below (g := gb355) (o := .cells #[.int .i64 t366, .int .i64 t367] 23 (0, 0)) q106 hb); have n3_ := Aside0.mk (blk_below (g := gb359) (o := .cells #[.int .i64 t369, .int .i64 t370] 23 (0, 0)) q111 hb); have n4_ := Aside0.mk (below_step q110 hb); clear BK350; clear BK351; clear BK355; clear BK359; clear HB; have BK350 := n0_; have BK351 := n1_; have BK355 := n2_; have BK359 := n3_; have HB := n4_; clear n0_ n1_ n2_ n3_ n4_; (try clear hb); (try clear hb2); (try clear hk); (try clear hi); have hnb141 := NB355_359.out; have hnc141 := NB359_355.out; have hcz142_0 : w140.cell? ⟨gb355, 0, none⟩ = some (.int .i64 t366) := (blk_cell BK355.out 0).trans rfl; have hcz142_1 : w140.cell? ⟨gb355, 1, none⟩ = some (.int .i64 t367) := (blk_cell BK355.out 1).trans rfl; have hfz142_0 := blk_frozen BK355.out 0; have hfz142_1 := blk_frozen BK355.out 1; have hcz143_0 : w140.cell? ⟨gb350, 0, none⟩ = some (.int .i64 a0_0) := (blk_cell BK350.out 0).trans rfl; have hcz143_1 : w140.cell? ⟨gb350, 1, none⟩ = some (.int .i64 a0_1) := (blk_cell BK350.out 1).trans rfl; have hfz143_0 := blk_frozen BK350.out 0; have hfz143_1 := blk_frozen BK350.out 1; have hcz144_0 : w140.cell? ⟨gb351, 0, none⟩ = some (.int .i64 a1_0) := (blk_cell BK351.out 0).trans rfl; have hcz144_1 : w140.cell? ⟨gb351, 1, none⟩ = some (.int .i64 a1_1) := (blk_cell BK351.out 1).trans rfl; have hfz144_0 := blk_frozen BK351.out 0; have hfz144_1 := blk_frozen BK351.out 1) | ((with_reducible refine gate_callee (f := 31) rfl ?_); refine goesL_ (some 78) rfl rfl Try.func31 (by kernel_rfl) rfl #[.agg #[.int .i64 a0_0, .int .i64 a0_1], .agg #[.int .i64 a1_0, .int .i64 a1_1]] rfl q20 ?_; (with_reducible refine (accountingref03_Quo.calls kj74 a0_0 a0_1 a1_0 a1_1 t375 t376 t377 _ A107.out).mono ?_); rintro e w145 ⟨rfl, hb⟩; refine ⟨_, rfl, ?_⟩; have n0_ := Aside0.mk (blk_below (g := gb350) (o := .cells #[.int .i64 a0_0, .int .i64 a0_1] 23 (0, 0)) q103 hb); have n1_ := Aside0.mk (blk_below (g := gb351) (o := .cells #[.int .i64 a1_0, .int .i64 a1_1] 23 (0, 0)) q104 hb); have n2_ := Aside0.mk (blk_below (g := gb355) (o := .cells #[.int .i64 t372, .int .i64 t373] 23 (0, 0)) q114 hb); have n3_ := Aside0.mk (blk_below (g := gb359) (o := .cells #[.int .i64 t369, .int .i64 t370] 23 (0, 0)) q112 hb); have n4_ := Aside0.mk (below_step q110 hb); clear BK350; clear BK351; clear BK355; clear BK359; clear HB; have BK350 := n0_; have BK351 := n1_; have BK355 := n2_; have BK359 := n3_; have HB := n4_; clear n0_ n1_ n2_ n3_ n4_; (try clear hb); (try clear hb2); (try clear hk); (try clear hi); have hcz146_0 : w145.cell? ⟨gb359, 0, none⟩ = some (.int .i64 t369) := (blk_cell BK359.out 0).trans rfl; have hcz146_1 : w145.cell? ⟨gb359, 1, none⟩ = some (.int .i64 t370) := (blk_cell BK359.out 1).trans rfl; have hfz146_0 := blk_frozen BK359.out 0; have hfz146_1 := blk_frozen BK359.out 1))
             have n0_ : Aside0 (((w145.setCell ⟨gb359, 0, none⟩ (.int .i64 t375)).setCell ⟨gb359, 1, none⟩ (.int .i64 t376)).heap[gb350]? = some (.cells #[.int .i64 a0_0, .int .i64 a0_1] 23 (0, 0))) := ⟨q107⟩
             have n1_ : Aside0 (((w145.setCell ⟨gb359, 0, none⟩ (.int .i64 t375)).setCell ⟨gb359, 1, none⟩ (.int .i64 t376)).heap[gb351]? = some (.cells #[.int .i64 a1_0, .int .i64 a1_1] 23 (0, 0))) := ⟨q108⟩
             have n2_ : Aside0 (((w145.setCell ⟨gb359, 0, none⟩ (.int .i64 t375)).setCell ⟨gb359, 1, none⟩ (.int .i64 t376)).heap[gb355]? = some (.cells #[.int .i64 t372, .int .i64 t373] 23 (0, 0))) := ⟨q109⟩
             have n3_ : Aside0 (((w145.setCell ⟨gb359, 0, none⟩ (.int .i64 t375)).setCell ⟨gb359, 1, none⟩ (.int .i64 t376)).heap[gb359]? = some (.cells #[.int .i64 t375, .int .i64 t376] 23 (0, 0))) := ⟨q115⟩
             have n4_ : Aside0 (Below w.heap.size w ((w145.setCell ⟨gb359, 0, none⟩ (.int .i64 t375)).setCell ⟨gb359, 1, none⟩ (.int .i64 t376))) := ⟨q110⟩
             (try clear BK350)
             (try clear BK351)
             (try clear BK355)
             (try clear BK359)
             (try clear HB)
             generalize ((w145.setCell ⟨gb359, 0, none⟩ (.int .i64 t375)).setCell ⟨gb359, 1, none⟩ (.int .i64 t376)) = w147 at n0_ n1_ n2_ n3_ n4_ ⊢
             have BK350 := n0_
             have BK351 := n1_
             have BK355 := n2_
             have BK359 := n3_
             have HB := n4_
             clear n0_ n1_ n2_ n3_ n4_
             have n0_ := Aside0.mk (blk_drew BK350.out)
             have n1_ := Aside0.mk (blk_drew BK351.out)
             have n2_ := Aside0.mk (blk_drew BK355.out)
             have n3_ := Aside0.mk (blk_drew BK359.out)
             have n4_ := Aside0.mk (below_drew1 HB.out)
             clear BK350
             clear BK351
             clear BK355
             clear BK359
             clear HB
             have BK350 := n0_
             have BK351 := n1_
             have BK355 := n2_
             have BK359 := n3_
             have HB := n4_
             clear n0_ n1_ n2_ n3_ n4_
             refine start_ (n := 21) (S := fun w' => w'.cell? ⟨gb355, 0, none⟩ = some (.int .i64 t372) ∧ w'.cell? ⟨gb355, 1, none⟩ = some (.int .i64 t373) ∧ w'.cell? ⟨gb359, 0, none⟩ = some (.int .i64 t375) ∧ w'.cell? ⟨gb359, 1, none⟩ = some (.int .i64 t376) ∧ w'.cell? ⟨gb350, 0, none⟩ = some (.int .i64 a0_0) ∧ w'.cell? ⟨gb350, 1, none⟩ = some (.int .i64 a0_1) ∧ w'.cell? ⟨gb351, 0, none⟩ = some (.int .i64 a1_0) ∧ w'.cell? ⟨gb351, 1, none⟩ = some (.int .i64 a1_1)) (ds := []) #[false, false, false, false, false, false, false, false, false, false, false, false, false, false, false, false, false, false, false, false, false] (by kernel_rfl) rfl rfl ⟨(blk_cell BK355.out 0).trans rfl, (blk_cell BK355.out 1).trans rfl, (blk_cell BK359.out 0).trans rfl, (blk_cell BK359.out 1).trans rfl, (blk_cell BK350.out 0).trans rfl, (blk_cell BK350.out 1).trans rfl, (blk_cell BK351.out 0).trans rfl, (blk_cell BK351.out 1).trans rfl⟩ (fun hHeld => ?_); refine with_tabW accountinglaw03_FracArith.tab15 accountinglaw03_FracArith.bits15 (fun HT_ HW_ => ?_)
             generalize w147.drew = w148 at BK350 BK351 BK355 BK359 HB hHeld ⊢
             refine take_ (i := 0) (N := some 81) (v := ?_) (a' := ?_) #[true, false, false, false, false, false, false, false, false, false, false, false, false, false, false, false, false, false, false, false, false] rfl rfl (take_ofW HT_.out HW_.out (by kernel_rfl)) (fun _ _ _ h => h) (Or.inl ⟨by rfl, ?_⟩) hHeld ?_ ?_
             rotate_left
             ·rintro w' ⟨s0, s1, s2, s3, s4, s5, s6, s7⟩
              go_simp
              with_reducible rfl
             rotate_left
             ·simp only [Act.put, List.setIfInBounds_toArray, List.set_cons_zero, List.set_cons_succ, i64_w, i32_w]
              rfl
             refine take_ (i := 1) (N := some 82) (v := ?_) (a' := ?_) #[true, true, false, false, false, false, false, false, false, false, false, false, false, false, false, false, false, false, false, false, false] rfl rfl (take_ofW HT_.out HW_.out (by kernel_rfl)) (fun _ _ _ h => h) (Or.inl ⟨by rfl, ?_⟩) hHeld ?_ ?_
             rotate_left
             ·rintro w' ⟨s0, s1, s2, s3, s4, s5, s6, s7⟩
              go_simp
              with_reducible rfl
             rotate_left
             ·simp only [Act.put, List.setIfInBounds_toArray, List.set_cons_zero, List.set_cons_succ, i64_w, i32_w]
              rfl
             refine pure_ (i := 2) (N := some 83) (v := ?_) (a' := ?_) #[true, true, true, false, false, false, false, false, false, false, false, false, false, false, false, false, false, false, false, false, false] rfl rfl (any_of HT_.out (by kernel_rfl)) (fun _ _ _ h => h) (Or.inl ⟨by rfl, ?_⟩) ?_ ?_
             rotate_left
             ·intro w'
              go_simp
              with_reducible rfl
             rotate_left
             ·simp only [Act.put, List.setIfInBounds_toArray, List.set_cons_zero, List.set_cons_succ, i64_w, i32_w]
              rfl
             refine pure_ (i := 3) (N := some 84) (v := ?_) (a' := ?_) #[true, true, true, true, false, false, false, false, false, false, false, false, false, false, false, false, false, false, false, false, false] rfl rfl (any_of HT_.out (by kernel_rfl)) (fun _ _ _ h => h) (Or.inl ⟨by rfl, ?_⟩) ?_ ?_
             rotate_left
             ·intro w'
              go_simp
              with_reducible rfl
             rotate_left
             ·simp only [Act.put, List.setIfInBounds_toArray, List.set_cons_zero, List.set_cons_succ, i64_w, i32_w]
              rfl
             refine pure_ (i := 4) (N := some 85) (v := ?_) (a' := ?_) #[true, true, true, true, true, false, false, false, false, false, false, false, false, false, false, false, false, false, false, false, false] rfl rfl (any_of HT_.out (by kernel_rfl)) (fun _ _ _ h => h) (Or.inl ⟨by rfl, ?_⟩) ?_ ?_
             rotate_left
             ·intro w'
              go_simp
              with_reducible rfl
             rotate_left
             ·simp only [Act.put, List.setIfInBounds_toArray, List.set_cons_zero, List.set_cons_succ, i64_w, i32_w]
              rfl
             refine pure_ (i := 5) (N := some 86) (v := ?_) (a' := ?_) #[true, true, true, true, true, true, false, false, false, false, false, false, false, false, false, false, false, false, false, false, false] rfl rfl (any_of HT_.out (by kernel_rfl)) (fun _ _ _ h => h) (Or.inl ⟨by rfl, ?_⟩) ?_ ?_
             rotate_left
             ·intro w'
              go_simp
              with_reducible rfl
             rotate_left
             ·simp only [Act.put, List.setIfInBounds_toArray, List.set_cons_zero, List.set_cons_succ, i64_w, i32_w]
              rfl
             refine pure_ (i := 6) (N := some 87) (v := ?_) (a' := ?_) #[true, true, true, true, true, true, true, false, false, false, false, false, false, false, false, false, false, false, false, false, false] rfl rfl (any_of HT_.out (by kernel_rfl)) (fun _ _ _ h => h) (Or.inl ⟨by rfl, ?_⟩) ?_ ?_
             rotate_left
             ·intro w'
              go_simp
              with_reducible rfl
             rotate_left
             ·simp only [Act.put, List.setIfInBounds_toArray, List.set_cons_zero, List.set_cons_succ, i64_w, i32_w]
              rfl
             refine pure_ (i := 7) (N := some 88) (v := ?_) (a' := ?_) #[true, true, true, true, true, true, true, true, false, false, false, false, false, false, false, false, false, false, false, false, false] rfl rfl (any_of HT_.out (by kernel_rfl)) (fun _ _ _ h => h) (Or.inl ⟨by rfl, ?_⟩) ?_ ?_
             rotate_left
             ·intro w'
              go_simp
              with_reducible rfl
             rotate_left
             ·simp only [Act.put, List.setIfInBounds_toArray, List.set_cons_zero, List.set_cons_succ, i64_w, i32_w]
              rfl
             refine pure_ (i := 8) (N := some 89) (v := ?_) (a' := ?_) #[true, true, true, true, true, true, true, true, true, false, false, false, false, false, false, false, false, false, false, false, false] rfl rfl (any_of HT_.out (by kernel_rfl)) (fun _ _ _ h => h) (Or.inl ⟨by rfl, ?_⟩) ?_ ?_
             rotate_left
             ·intro w'
              go_simp
              with_reducible rfl
             rotate_left
             ·simp only [Act.put, List.setIfInBounds_toArray, List.set_cons_zero, List.set_cons_succ, i64_w, i32_w]
              rfl
             refine take_ (i := 9) (N := some 90) (v := ?_) (a' := ?_) #[true, true, true, true, true, true, true, true, true, true, false, false, false, false, false, false, false, false, false, false, false] rfl rfl (take_ofW HT_.out HW_.out (by kernel_rfl)) (fun _ _ _ h => h) (Or.inl ⟨by rfl, ?_⟩) hHeld ?_ ?_
             rotate_left
             ·rintro w' ⟨s0, s1, s2, s3, s4, s5, s6, s7⟩
              go_simp
              with_reducible rfl
             rotate_left
             ·simp only [Act.put, List.setIfInBounds_toArray, List.set_cons_zero, List.set_cons_succ, i64_w, i32_w]
              rfl
             refine take_ (i := 10) (N := some 91) (v := ?_) (a' := ?_) #[true, true, true, true, true, true, true, true, true, true, true, false, false, false, false, false, false, false, false, false, false] rfl rfl (take_ofW HT_.out HW_.out (by kernel_rfl)) (fun _ _ _ h => h) (Or.inl ⟨by rfl, ?_⟩) hHeld ?_ ?_
             rotate_left
             ·rintro w' ⟨s0, s1, s2, s3, s4, s5, s6, s7⟩
              go_simp
              with_reducible rfl
             rotate_left
             ·simp only [Act.put, List.setIfInBounds_toArray, List.set_cons_zero, List.set_cons_succ, i64_w, i32_w]
              rfl
             refine take_ (i := 12) (N := some 93) (v := ?_) (a' := ?_) #[true, true, true, true, true, true, true, true, true, true, true, false, true, false, false, false, false, false, false, false, false] rfl rfl (take_ofW HT_.out HW_.out (by kernel_rfl)) (fun _ _ _ h => h) (Or.inl ⟨by rfl, ?_⟩) hHeld ?_ ?_
             rotate_left
             ·rintro w' ⟨s0, s1, s2, s3, s4, s5, s6, s7⟩
              go_simp
              with_reducible rfl
             rotate_left
             ·simp only [Act.put, List.setIfInBounds_toArray, List.set_cons_zero, List.set_cons_succ, i64_w, i32_w]
              rfl
             refine take_ (i := 13) (N := some 94) (v := ?_) (a' := ?_) #[true, true, true, true, true, true, true, true, true, true, true, false, true, true, false, false, false, false, false, false, false] rfl rfl (take_ofW HT_.out HW_.out (by kernel_rfl)) (fun _ _ _ h => h) (Or.inl ⟨by rfl, ?_⟩) hHeld ?_ ?_
             rotate_left
             ·rintro w' ⟨s0, s1, s2, s3, s4, s5, s6, s7⟩
              go_simp
              with_reducible rfl
             rotate_left
             ·simp only [Act.put, List.setIfInBounds_toArray, List.set_cons_zero, List.set_cons_succ, i64_w, i32_w]
              rfl
             refine one_ (i := 11) (N := some 92) #[true, true, true, true, true, true, true, true, true, true, true, true, true, true, false, false, false, false, false, false, false] rfl rfl (one_of HT_.out (by kernel_rfl)) (by decide) (fun K hK => ?_)
             refine goes_ Try.func23 (by kernel_rfl) rfl #[.agg #[.int .i64 a0_0, .int .i64 a0_1], .agg #[.int .i64 a1_0, .int .i64 a1_1]] (by rfl) rfl rfl q20 ?_
             with_reducible refine (frac_Cmp.calls kj74 a0_0 a0_1 a1_0 a1_1 t378 _ A110.out).mono ?_
             rintro e w149 ⟨rfl, hb⟩
             refine ⟨_, rfl, ?_⟩
             have n0_ := Aside0.mk (blk_below (g := gb350) (o := .cells #[.int .i64 a0_0, .int .i64 a0_1] 23 (0, 0)) q97 hb)
             have n1_ := Aside0.mk (blk_below (g := gb351) (o := .cells #[.int .i64 a1_0, .int .i64 a1_1] 23 (0, 0)) q101 hb)
             have n2_ := Aside0.mk (blk_below (g := gb355) (o := .cells #[.int .i64 t372, .int .i64 t373] 23 (0, 0)) q106 hb)
             have n3_ := Aside0.mk (blk_below (g := gb359) (o := .cells #[.int .i64 t375, .int .i64 t376] 23 (0, 0)) q111 hb)
             have n4_ := Aside0.mk (below_step q110 hb)
             clear BK350
             clear BK351
             clear BK355
             clear BK359
             clear HB
             have BK350 := n0_
             have BK351 := n1_
             have BK355 := n2_
             have BK359 := n3_
             have HB := n4_
             clear n0_ n1_ n2_ n3_ n4_
             (try clear hb)
             (try clear hb2)
             (try clear hk)
             (try clear hi)
             refine hK.out _ _ ⟨(blk_cell BK355.out 0).trans rfl, (blk_cell BK355.out 1).trans rfl, (blk_cell BK359.out 0).trans rfl, (blk_cell BK359.out 1).trans rfl, (blk_cell BK350.out 0).trans rfl, (blk_cell BK350.out 1).trans rfl, (blk_cell BK351.out 0).trans rfl, (blk_cell BK351.out 1).trans rfl⟩ (fun hHeld => ?_)
             clear hK K
             refine norm_ (a' := ?_) ?_ ?_
             rotate_left
             ·show Act.put _ (some 92) _ = _
              simp only [Act.put, List.setIfInBounds_toArray, List.set_cons_zero, List.set_cons_succ, i64_w, i32_w]
              rfl
             refine one_ (i := 14) (N := some 95) #[true, true, true, true, true, true, true, true, true, true, true, true, true, true, true, false, false, false, false, false, false] rfl rfl (one_of HT_.out (by kernel_rfl)) (by decide) (fun K hK => ?_)
             refine goes_ Try.func32 (by kernel_rfl) rfl #[.agg #[.int .i64 a0_0, .int .i64 a0_1], .agg #[.int .i64 a1_0, .int .i64 a1_1]] (by rfl) rfl rfl q20 ?_
             with_reducible refine (accountingref03_Cmp.calls kj74 a0_0 a0_1 a1_0 a1_1 t379 _ A111.out).mono ?_
             rintro e w150 ⟨rfl, hb⟩
             refine ⟨_, rfl, ?_⟩
             have n0_ := Aside0.mk (blk_below (g := gb350) (o := .cells #[.int .i64 a0_0, .int .i64 a0_1] 23 (0, 0)) q97 hb)
             have n1_ := Aside0.mk (blk_below (g := gb351) (o := .cells #[.int .i64 a1_0, .int .i64 a1_1] 23 (0, 0)) q101 hb)
             have n2_ := Aside0.mk (blk_below (g := gb355) (o := .cells #[.int .i64 t372, .int .i64 t373] 23 (0, 0)) q106 hb)
             have n3_ := Aside0.mk (blk_below (g := gb359) (o := .cells #[.int .i64 t375, .int .i64 t376] 23 (0, 0)) q111 hb)
             have n4_ := Aside0.mk (below_step q110 hb)
             clear BK350
             clear BK351
             clear BK355
             clear BK359
             clear HB
             have BK350 := n0_
             have BK351 := n1_
             have BK355 := n2_
             have BK359 := n3_
             have HB := n4_
             clear n0_ n1_ n2_ n3_ n4_
             (try clear hb)
             (try clear hb2)
             (try clear hk)
             (try clear hi)
             refine hK.out _ _ ⟨(blk_cell BK355.out 0).trans rfl, (blk_cell BK355.out 1).trans rfl, (blk_cell BK359.out 0).trans rfl, (blk_cell BK359.out 1).trans rfl, (blk_cell BK350.out 0).trans rfl, (blk_cell BK350.out 1).trans rfl, (blk_cell BK351.out 0).trans rfl, (blk_cell BK351.out 1).trans rfl⟩ (fun hHeld => ?_)
             clear hK K
             refine norm_ (a' := ?_) ?_ ?_
             rotate_left
             ·show Act.put _ (some 95) _ = _
              simp only [Act.put, List.setIfInBounds_toArray, List.set_cons_zero, List.set_cons_succ, i64_w, i32_w]
              rfl
             refine pure_ (i := 15) (N := some 96) (v := ?_) (a' := ?_) #[true, true, true, true, true, true, true, true, true, true, true, true, true, true, true, true, false, false, false, false, false] rfl rfl (any_of HT_.out (by kernel_rfl)) (fun _ _ _ h => h) (Or.inl ⟨by rfl, ?_⟩) ?_ ?_
             rotate_left
             ·intro w'
              go_simp
              with_reducible rfl
             rotate_left
             ·simp only [Act.put, List.setIfInBounds_toArray, List.set_cons_zero, List.set_cons_succ, i64_w, i32_w]
              rfl
             refine pure_ (i := 16) (N := some 97) (v := ?_) (a' := ?_) #[true, true, true, true, true, true, true, true, true, true, true, true, true, true, true, true, true, false, false, false, false] rfl rfl (any_of HT_.out (by kernel_rfl)) (fun _ _ _ h => h) (Or.inl ⟨by rfl, ?_⟩) ?_ ?_
             rotate_left
             ·intro w'
              go_simp
              with_reducible rfl
             rotate_left
             ·simp only [Act.put, List.setIfInBounds_toArray, List.set_cons_zero, List.set_cons_succ, i64_w, i32_w]
              rfl
             refine pure_ (i := 17) (N := some 98) (v := ?_) (a' := ?_) #[true, true, true, true, true, true, true, true, true, true, true, true, true, true, true, true, true, true, false, false, false] rfl rfl (any_of HT_.out (by kernel_rfl)) (fun _ _ _ h => h) (Or.inl ⟨by rfl, ?_⟩) ?_ ?_
             rotate_left
             ·intro w'
              go_simp
              with_reducible rfl
             rotate_left
             ·simp only [Act.put, List.setIfInBounds_toArray, List.set_cons_zero, List.set_cons_succ, i64_w, i32_w]
              rfl
             refine pure_ (i := 18) (N := some 99) (v := undef) (a' := ?_) #[true, true, true, true, true, true, true, true, true, true, true, true, true, true, true, true, true, true, true, false, false] rfl rfl (any_of HT_.out (by kernel_rfl)) (fun _ _ _ h => h) (Or.inr ⟨by rfl, rfl⟩) ?_ ?_
             rotate_left
             ·simp only [Act.put, List.setIfInBounds_toArray, List.set_cons_zero, List.set_cons_succ, i64_w, i32_w]
              rfl
             refine pure_ (i := 19) (N := some 100) (v := ?_) (a' := ?_) #[true, true, true, true, true, true, true, true, true, true, true, true, true, true, true, true, true, true, true, true, false] rfl rfl (any_of HT_.out (by kernel_rfl)) (fun _ _ _ h => h) (Or.inl ⟨by rfl, ?_⟩) ?_ ?_
             rotate_left
             ·intro w'
              go_simp
              with_reducible rfl
             rotate_left
             ·simp only [Act.put, List.setIfInBounds_toArray, List.set_cons_zero, List.set_cons_succ, i64_w, i32_w]
              rfl
             refine pure_ (i := 20) (N := some 4) (v := ?_) (a' := ?_) #[true, true, true, true, true, true, true, true, true, true, true, true, true, true, true, true, true, true, true, true, true] rfl rfl (any_of HT_.out (by kernel_rfl)) (fun _ _ _ h => h) (Or.inl ⟨by rfl, ?_⟩) ?_ ?_
             rotate_left
             ·intro w'
              go_simp
              with_reducible rfl
             rotate_left
             ·simp only [Act.put, List.setIfInBounds_toArray, List.set_cons_zero, List.set_cons_succ, i64_w, i32_w]
              rfl
             refine done_ (done_of HT_.out (by kernel_rfl)) ?_
             try go_wp2
             go_ret
             exact ⟨q13, q110⟩
           ·rw [if_neg c109] at H
            have c109b0 : (t374 == t377) = false := beq_eq_false_iff_ne.mpr c109
            have c109b1 : (t374 != t377) = true := bne_iff_ne.mpr c109
            obtain rfl := Option.some.inj H
            have hnb151 := NB350_351.out
            have hnc151 := NB351_350.out
            have hnb152 := NB350_355.out
            have hnc152 := NB355_350.out
            have hnb153 := NB350_359.out
            have hnc153 := NB359_350.out
            have hcz154_0 : wc.cell? ⟨gb350, 0, none⟩ = some (.int .i64 a0_0) := (blk_cell BK350.out 0).trans rfl
            have hcz154_1 : wc.cell? ⟨gb350, 1, none⟩ = some (.int .i64 a0_1) := (blk_cell BK350.out 1).trans rfl
            have hfz154_0 := blk_frozen BK350.out 0
            have hfz154_1 := blk_frozen BK350.out 1
            have hnb155 := NB351_355.out
            have hnc155 := NB355_351.out
            have hnb156 := NB351_359.out
            have hnc156 := NB359_351.out
            have hcz157_0 : wc.cell? ⟨gb351, 0, none⟩ = some (.int .i64 a1_0) := (blk_cell BK351.out 0).trans rfl
            have hcz157_1 : wc.cell? ⟨gb351, 1, none⟩ = some (.int .i64 a1_1) := (blk_cell BK351.out 1).trans rfl
            have hfz157_0 := blk_frozen BK351.out 0
            have hfz157_1 := blk_frozen BK351.out 1
            try go_wp2_with (first | ((with_reducible refine gate_callee (f := 30) rfl ?_); refine goesL_ (some 72) rfl rfl Try.func30 (by kernel_rfl) rfl #[.agg #[.int .i64 a0_0, .int .i64 a0_1], .agg #[.int .i64 a1_0, .int .i64 a1_1]] rfl q20 ?_; (with_reducible refine (frac_Quo.calls a0_0 a0_1 a1_0 a1_1 t372 t373 t374 _ A106.out).mono ?_); rintro e w158 ⟨rfl, hb⟩; refine ⟨_, rfl, ?_⟩; have n0_ := Aside0.mk (blk_below (g := gb350) (o := .cells #[.int .i64 a0_0, .int .i64 a0_1] 23 (0, 0)) q97 hb); have n1_ := Aside0.mk (blk_below (g := gb351) (o := .cells #[.int .i64 a1_0, .int .i64 a1_1] 23 (0, 0)) q101 hb); have n2_ := Aside0.mk (blk_below (g := gb355) (o := .cells #[.int .i64 t366, .int .i64 t367] 23 (0, 0)) q106 hb); have n3_ := Aside0.mk (blk_below (g := gb359) (o := .cells #[.int .i64 t369, .int .i64 t370] 23 (0, 0)) q111 hb); have n4_ := Aside0.mk (below_step q110 hb); clear BK350; clear BK351; clear BK355; clear BK359; clear HB; have BK350 := n0_; have BK351 := n1_; have BK355 := n2_; have BK359 := n3_; have HB := n4_; clear n0_ n1_ n2_ n3_ n4_; (try clear hb); (try clear hb2); (try clear hk); (try clear hi); have hnb159 := NB355_359.out; have hnc159 := NB359_355.out; have hcz160_0 : w158.cell? ⟨gb355, 0, none⟩ = some (.int .i64 t366) := (blk_cell BK355.out 0).trans rfl; have hcz160_1 : w158.cell? ⟨gb355, 1, none⟩ = some (.int .i64 t367) := (blk_cell BK355.out 1).trans rfl; have hfz160_0 := blk_frozen BK355.out 0; have hfz160_1 := blk_frozen BK355.out 1; have hcz161_0 : w158.cell? ⟨gb350, 0, none⟩ = some (.int .i64 a0_0) := (blk_cell BK350.out 0).trans rfl; have hcz161_1 : w158.cell? ⟨gb350, 1, none⟩ = some (.int .i64 a0_1) := (blk_cell BK350.out 1).trans rfl; have hfz161_0 := blk_frozen BK350.out 0; have hfz161_1 := blk_frozen BK350.out 1; have hcz162_0 : w158.cell? ⟨gb351, 0, none⟩ = some (.int .i64 a1_0) := (blk_cell BK351.out 0).trans rfl; have hcz162_1 : w158.cell? ⟨gb351, 1, none⟩ = some (.int .i64 a1_1) := (blk_cell BK351.out 1).trans rfl; have hfz162_0 := blk_frozen BK351.out 0; have hfz162_1 := blk_frozen BK351.out 1) | ((with_reducible refine gate_callee (f := 31) rfl ?_); refine goesL_ (some 78) rfl rfl Try.func31 (by kernel_rfl) rfl #[.agg #[.int .i64 a0_0, .int .i64 a0_1], .agg #[.int .i64 a1_0, .int .i64 a1_1]] rfl q20 ?_; (with_reducible refine (accountingref03_Quo.calls kj74 a0_0 a0_1 a1_0 a1_1 t375 t376 t377 _ A107.out).mono ?_); rintro e w163 ⟨rfl, hb⟩; refine ⟨_, rfl, ?_⟩; have n0_ := Aside0.mk (blk_below (g := gb350) (o := .cells #[.int .i64 a0_0, .int .i64 a0_1] 23 (0, 0)) q103 hb); have n1_ := Aside0.mk (blk_below (g := gb351) (o := .cells #[.int .i64 a1_0, .int .i64 a1_1] 23 (0, 0)) q104 hb); have n2_ := Aside0.mk (blk_below (g := gb355) (o := .cells #[.int .i64 t372, .int .i64 t373] 23 (0, 0)) q114 hb); have n3_ := Aside0.mk (blk_below (g := gb359) (o := .cells #[.int .i64 t369, .int .i64 t370] 23 (0, 0)) q112 hb); have n4_ := Aside0.mk (below_step q110 hb); clear BK350; clear BK351; clear BK355; clear BK359; clear HB; have BK350 := n0_; have BK351 := n1_; have BK355 := n2_; have BK359 := n3_; have HB := n4_; clear n0_ n1_ n2_ n3_ n4_; (try clear hb); (try clear hb2); (try clear hk); (try clear hi); have hcz164_0 : w163.cell? ⟨gb359, 0, none⟩ = some (.int .i64 t369) := (blk_cell BK359.out 0).trans rfl; have hcz164_1 : w163.cell? ⟨gb359, 1, none⟩ = some (.int .i64 t370) := (blk_cell BK359.out 1).trans rfl; have hfz164_0 := blk_frozen BK359.out 0; have hfz164_1 := blk_frozen BK359.out 1))
            have n0_ : Aside0 (((w163.setCell ⟨gb359, 0, none⟩ (.int .i64 t375)).setCell ⟨gb359, 1, none⟩ (.int .i64 t376)).heap[gb350]? = some (.cells #[.int .i64 a0_0, .int .i64 a0_1] 23 (0, 0))) := ⟨q107⟩
            have n1_ : Aside0 (((w163.setCell ⟨gb359, 0, none⟩ (.int .i64 t375)).setCell ⟨gb359, 1, none⟩ (.int .i64 t376)).heap[gb351]? = some (.cells #[.int .i64 a1_0, .int .i64 a1_1] 23 (0, 0))) := ⟨q108⟩
            have n2_ : Aside0 (((w163.setCell ⟨gb359, 0, none⟩ (.int .i64 t375)).setCell ⟨gb359, 1, none⟩ (.int .i64 t376)).heap[gb355]? = some (.cells #[.int .i64 t372, .int .i64 t373] 23 (0, 0))) := ⟨q109⟩
            have n3_ : Aside0 (((w163.setCell ⟨gb359, 0, none⟩ (.int .i64 t375)).setCell ⟨gb359, 1, none⟩ (.int .i64 t376)).heap[gb359]? = some (.cells #[.int .i64 t375, .int .i64 t376] 23 (0, 0))) := ⟨q115⟩
            have n4_ : Aside0 (Below w.heap.size w ((w163.setCell ⟨gb359, 0, none⟩ (.int .i64 t375)).setCell ⟨gb359, 1, none⟩ (.int .i64 t376))) := ⟨q110⟩
            (try clear BK350)
            (try clear BK351)
            (try clear BK355)
            (try clear BK359)
            (try clear HB)
            generalize ((w163.setCell ⟨gb359, 0, none⟩ (.int .i64 t375)).setCell ⟨gb359, 1, none⟩ (.int .i64 t376)) = w165 at n0_ n1_ n2_ n3_ n4_ ⊢
            have BK350 := n0_
            have BK351 := n1_
            have BK355 := n2_
            have BK359 := n3_
            have HB := n4_
            clear n0_ n1_ n2_ n3_ n4_
            have n0_ := Aside0.mk (blk_drew BK350.out)
            have n1_ := Aside0.mk (blk_drew BK351.out)
            have n2_ := Aside0.mk (blk_drew BK355.out)
            have n3_ := Aside0.mk (blk_drew BK359.out)
            have n4_ := Aside0.mk (below_drew1 HB.out)
            clear BK350
            clear BK351
            clear BK355
            clear BK359
            clear HB
            have BK350 := n0_
            have BK351 := n1_
            have BK355 := n2_
            have BK359 := n3_
            have HB := n4_
            clear n0_ n1_ n2_ n3_ n4_
            refine start_ (n := 21) (S := fun w' => w'.cell? ⟨gb355, 0, none⟩ = some (.int .i64 t372) ∧ w'.cell? ⟨gb355, 1, none⟩ = some (.int .i64 t373) ∧ w'.cell? ⟨gb359, 0, none⟩ = some (.int .i64 t375) ∧ w'.cell? ⟨gb359, 1, none⟩ = some (.int .i64 t376)) (ds := []) #[false, false, false, false, false, false, false, false, false, false, false, false, false, false, false, false, false, false, false, false, false] (by kernel_rfl) rfl rfl ⟨(blk_cell BK355.out 0).trans rfl, (blk_cell BK355.out 1).trans rfl, (blk_cell BK359.out 0).trans rfl, (blk_cell BK359.out 1).trans rfl⟩ (fun hHeld => ?_); refine with_tabW accountinglaw03_FracArith.tab15 accountinglaw03_FracArith.bits15 (fun HT_ HW_ => ?_)
            generalize w165.drew = w166 at BK350 BK351 BK355 BK359 HB hHeld ⊢
            refine take_ (i := 0) (N := some 81) (v := ?_) (a' := ?_) #[true, false, false, false, false, false, false, false, false, false, false, false, false, false, false, false, false, false, false, false, false] rfl rfl (take_ofW HT_.out HW_.out (by kernel_rfl)) (fun _ _ _ h => h) (Or.inl ⟨by rfl, ?_⟩) hHeld ?_ ?_
            rotate_left
            ·rintro w' ⟨s0, s1, s2, s3⟩
             go_simp
             with_reducible rfl
            rotate_left
            ·simp only [Act.put, List.setIfInBounds_toArray, List.set_cons_zero, List.set_cons_succ, i64_w, i32_w]
             rfl
            refine take_ (i := 1) (N := some 82) (v := ?_) (a' := ?_) #[true, true, false, false, false, false, false, false, false, false, false, false, false, false, false, false, false, false, false, false, false] rfl rfl (take_ofW HT_.out HW_.out (by kernel_rfl)) (fun _ _ _ h => h) (Or.inl ⟨by rfl, ?_⟩) hHeld ?_ ?_
            rotate_left
            ·rintro w' ⟨s0, s1, s2, s3⟩
             go_simp
             with_reducible rfl
            rotate_left
            ·simp only [Act.put, List.setIfInBounds_toArray, List.set_cons_zero, List.set_cons_succ, i64_w, i32_w]
             rfl
            refine pure_ (i := 2) (N := some 83) (v := ?_) (a' := ?_) #[true, true, true, false, false, false, false, false, false, false, false, false, false, false, false, false, false, false, false, false, false] rfl rfl (any_of HT_.out (by kernel_rfl)) (fun _ _ _ h => h) (Or.inl ⟨by rfl, ?_⟩) ?_ ?_
            rotate_left
            ·intro w'
             go_simp
             with_reducible rfl
            rotate_left
            ·simp only [Act.put, List.setIfInBounds_toArray, List.set_cons_zero, List.set_cons_succ, i64_w, i32_w]
             rfl
            refine pure_ (i := 3) (N := some 84) (v := ?_) (a' := ?_) #[true, true, true, true, false, false, false, false, false, false, false, false, false, false, false, false, false, false, false, false, false] rfl rfl (any_of HT_.out (by kernel_rfl)) (fun _ _ _ h => h) (Or.inl ⟨by rfl, ?_⟩) ?_ ?_
            rotate_left
            ·intro w'
             go_simp
             with_reducible rfl
            rotate_left
            ·simp only [Act.put, List.setIfInBounds_toArray, List.set_cons_zero, List.set_cons_succ, i64_w, i32_w]
             rfl
            refine pure_ (i := 4) (N := some 85) (v := ?_) (a' := ?_) #[true, true, true, true, true, false, false, false, false, false, false, false, false, false, false, false, false, false, false, false, false] rfl rfl (any_of HT_.out (by kernel_rfl)) (fun _ _ _ h => h) (Or.inl ⟨by rfl, ?_⟩) ?_ ?_
            rotate_left
            ·intro w'
             go_simp
             with_reducible rfl
            rotate_left
            ·simp only [Act.put, List.setIfInBounds_toArray, List.set_cons_zero, List.set_cons_succ, i64_w, i32_w]
             rfl
            refine pure_ (i := 5) (N := some 86) (v := ?_) (a' := ?_) #[true, true, true, true, true, true, false, false, false, false, false, false, false, false, false, false, false, false, false, false, false] rfl rfl (any_of HT_.out (by kernel_rfl)) (fun _ _ _ h => h) (Or.inl ⟨by rfl, ?_⟩) ?_ ?_
            rotate_left
            ·intro w'
             go_simp
             with_reducible rfl
            rotate_left
            ·simp only [Act.put, List.setIfInBounds_toArray, List.set_cons_zero, List.set_cons_succ, i64_w, i32_w]
             rfl
            refine pure_ (i := 6) (N := some 87) (v := ?_) (a' := ?_) #[true, true, true, true, true, true, true, false, false, false, false, false, false, false, false, false, false, false, false, false, false] rfl rfl (any_of HT_.out (by kernel_rfl)) (fun _ _ _ h => h) (Or.inl ⟨by rfl, ?_⟩) ?_ ?_
            rotate_left
            ·intro w'
             go_simp
             with_reducible rfl
            rotate_left
            ·simp only [Act.put, List.setIfInBounds_toArray, List.set_cons_zero, List.set_cons_succ, i64_w, i32_w]
             rfl
            refine pure_ (i := 7) (N := some 88) (v := ?_) (a' := ?_) #[true, true, true, true, true, true, true, true, false, false, false, false, false, false, false, false, false, false, false, false, false] rfl rfl (any_of HT_.out (by kernel_rfl)) (fun _ _ _ h => h) (Or.inl ⟨by rfl, ?_⟩) ?_ ?_
            rotate_left
            ·intro w'
             go_simp
             with_reducible rfl
            rotate_left
            ·simp only [Act.put, List.setIfInBounds_toArray, List.set_cons_zero, List.set_cons_succ, i64_w, i32_w]
             rfl
            refine pure_ (i := 8) (N := some 89) (v := ?_) (a' := ?_) #[true, true, true, true, true, true, true, true, true, false, false, false, false, false, false, false, false, false, false, false, false] rfl rfl (any_of HT_.out (by kernel_rfl)) (fun _ _ _ h => h) (Or.inl ⟨by rfl, ?_⟩) ?_ ?_
            rotate_left
            ·intro w'
             go_simp
             with_reducible rfl
            rotate_left
            ·simp only [Act.put, List.setIfInBounds_toArray, List.set_cons_zero, List.set_cons_succ, i64_w, i32_w]
             rfl
            refine pure_ (i := 9) (N := some 90) (v := undef) (a' := ?_) #[true, true, true, true, true, true, true, true, true, true, false, false, false, false, false, false, false, false, false, false, false] rfl rfl (any_of HT_.out (by kernel_rfl)) (fun _ _ _ h => h) (Or.inr ⟨by rfl, rfl⟩) ?_ ?_
            rotate_left
            ·simp only [Act.put, List.setIfInBounds_toArray, List.set_cons_zero, List.set_cons_succ, i64_w, i32_w]
             rfl
            refine pure_ (i := 10) (N := some 91) (v := undef) (a' := ?_) #[true, true, true, true, true, true, true, true, true, true, true, false, false, false, false, false, false, false, false, false, false] rfl rfl (any_of HT_.out (by kernel_rfl)) (fun _ _ _ h => h) (Or.inr ⟨by rfl, rfl⟩) ?_ ?_
            rotate_left
            ·simp only [Act.put, List.setIfInBounds_toArray, List.set_cons_zero, List.set_cons_succ, i64_w, i32_w]
             rfl
            refine pure_ (i := 11) (N := some 92) (v := undef) (a' := ?_) #[true, true, true, true, true, true, true, true, true, true, true, true, false, false, false, false, false, false, false, false, false] rfl rfl (any_of HT_.out (by kernel_rfl)) (fun _ _ _ h => h) (Or.inr ⟨by rfl, rfl⟩) ?_ ?_
            rotate_left
            ·simp only [Act.put, List.setIfInBounds_toArray, List.set_cons_zero, List.set_cons_succ, i64_w, i32_w]
             rfl
            refine pure_ (i := 12) (N := some 93) (v := undef) (a' := ?_) #[true, true, true, true, true, true, true, true, true, true, true, true, true, false, false, false, false, false, false, false, false] rfl rfl (any_of HT_.out (by kernel_rfl)) (fun _ _ _ h => h) (Or.inr ⟨by rfl, rfl⟩) ?_ ?_
            rotate_left
            ·simp only [Act.put, List.setIfInBounds_toArray, List.set_cons_zero, List.set_cons_succ, i64_w, i32_w]
             rfl
            refine pure_ (i := 13) (N := some 94) (v := undef) (a' := ?_) #[true, true, true, true, true, true, true, true, true, true, true, true, true, true, false, false, false, false, false, false, false] rfl rfl (any_of HT_.out (by kernel_rfl)) (fun _ _ _ h => h) (Or.inr ⟨by rfl, rfl⟩) ?_ ?_
            rotate_left
            ·simp only [Act.put, List.setIfInBounds_toArray, List.set_cons_zero, List.set_cons_succ, i64_w, i32_w]
             rfl
            refine pure_ (i := 14) (N := some 95) (v := undef) (a' := ?_) #[true, true, true, true, true, true, true, true, true, true, true, true, true, true, true, false, false, false, false, false, false] rfl rfl (any_of HT_.out (by kernel_rfl)) (fun _ _ _ h => h) (Or.inr ⟨by rfl, rfl⟩) ?_ ?_
            rotate_left
            ·simp only [Act.put, List.setIfInBounds_toArray, List.set_cons_zero, List.set_cons_succ, i64_w, i32_w]
             rfl
            refine pure_ (i := 15) (N := some 96) (v := undef) (a' := ?_) #[true, true, true, true, true, true, true, true, true, true, true, true, true, true, true, true, false, false, false, false, false] rfl rfl (any_of HT_.out (by kernel_rfl)) (fun _ _ _ h => h) (Or.inr ⟨by rfl, rfl⟩) ?_ ?_
            rotate_left
            ·simp only [Act.put, List.setIfInBounds_toArray, List.set_cons_zero, List.set_cons_succ, i64_w, i32_w]
             rfl
            refine pure_ (i := 16) (N := some 97) (v := ?_) (a' := ?_) #[true, true, true, true, true, true, true, true, true, true, true, true, true, true, true, true, true, false, false, false, false] rfl rfl (any_of HT_.out (by kernel_rfl)) (fun _ _ _ h => h) (Or.inl ⟨by rfl, ?_⟩) ?_ ?_
            rotate_left
            ·intro w'
             go_simp
             with_reducible rfl
            rotate_left
            ·simp only [Act.put, List.setIfInBounds_toArray, List.set_cons_zero, List.set_cons_succ, i64_w, i32_w]
             rfl
            refine pure_ (i := 17) (N := some 98) (v := ?_) (a' := ?_) #[true, true, true, true, true, true, true, true, true, true, true, true, true, true, true, true, true, true, false, false, false] rfl rfl (any_of HT_.out (by kernel_rfl)) (fun _ _ _ h => h) (Or.inl ⟨by rfl, ?_⟩) ?_ ?_
            rotate_left
            ·intro w'
             go_simp
             with_reducible rfl
            rotate_left
            ·simp only [Act.put, List.setIfInBounds_toArray, List.set_cons_zero, List.set_cons_succ, i64_w, i32_w]
             rfl
            refine pure_ (i := 18) (N := some 99) (v := undef) (a' := ?_) #[true, true, true, true, true, true, true, true, true, true, true, true, true, true, true, true, true, true, true, false, false] rfl rfl (any_of HT_.out (by kernel_rfl)) (fun _ _ _ h => h) (Or.inr ⟨by rfl, rfl⟩) ?_ ?_
            rotate_left
            ·simp only [Act.put, List.setIfInBounds_toArray, List.set_cons_zero, List.set_cons_succ, i64_w, i32_w]
             rfl
            refine pure_ (i := 19) (N := some 100) (v := ?_) (a' := ?_) #[true, true, true, true, true, true, true, true, true, true, true, true, true, true, true, true, true, true, true, true, false] rfl rfl (any_of HT_.out (by kernel_rfl)) (fun _ _ _ h => h) (Or.inl ⟨by rfl, ?_⟩) ?_ ?_
            rotate_left
            ·intro w'
             go_simp
             with_reducible rfl
            rotate_left
            ·simp only [Act.put, List.setIfInBounds_toArray, List.set_cons_zero, List.set_cons_succ, i64_w, i32_w]
             rfl
            refine pure_ (i := 20) (N := some 4) (v := ?_) (a' := ?_) #[true, true, true, true, true, true, true, true, true, true, true, true, true, true, true, true, true, true, true, true, true] rfl rfl (any_of HT_.out (by kernel_rfl)) (fun _ _ _ h => h) (Or.inl ⟨by rfl, ?_⟩) ?_ ?_
            rotate_left
            ·intro w'
             go_simp
             with_reducible rfl
            rotate_left
            ·simp only [Act.put, List.setIfInBounds_toArray, List.set_cons_zero, List.set_cons_succ, i64_w, i32_w]
             rfl
            refine done_ (done_of HT_.out (by kernel_rfl)) ?_
            try go_wp2
            go_ret
            exact ⟨q13, q110⟩
          ·rw [if_neg c108] at H
           have c108b0 : (t372 == t375 && (t373 == t376)) = false := by simpa using c108
           (try (have c108b1 : decide (t372 = t375 && (t373 == t376)) = false := by simpa using c108))
           (try (have c108b2 : (t372 == t375 && (t373 == t376)) = false := by simpa using c108))
           (try (have c108b3 : ¬ (t372 = t375 && (t373 == t376)) := by simpa using c108))
           clear c108
           obtain rfl := Option.some.inj H
           have hnb167 := NB350_351.out
           have hnc167 := NB351_350.out
           have hnb168 := NB350_355.out
           have hnc168 := NB355_350.out
           have hnb169 := NB350_359.out
           have hnc169 := NB359_350.out
           have hcz170_0 : wc.cell? ⟨gb350, 0, none⟩ = some (.int .i64 a0_0) := (blk_cell BK350.out 0).trans rfl
           have hcz170_1 : wc.cell? ⟨gb350, 1, none⟩ = some (.int .i64 a0_1) := (blk_cell BK350.out 1).trans rfl
           have hfz170_0 := blk_frozen BK350.out 0
           have hfz170_1 := blk_frozen BK350.out 1
           have hnb171 := NB351_355.out
           have hnc171 := NB355_351.out
           have hnb172 := NB351_359.out
           have hnc172 := NB359_351.out
           have hcz173_0 : wc.cell? ⟨gb351, 0, none⟩ = some (.int .i64 a1_0) := (blk_cell BK351.out 0).trans rfl
           have hcz173_1 : wc.cell? ⟨gb351, 1, none⟩ = some (.int .i64 a1_1) := (blk_cell BK351.out 1).trans rfl
           have hfz173_0 := blk_frozen BK351.out 0
           have hfz173_1 := blk_frozen BK351.out 1
           try go_wp2_with (first | ((with_reducible refine gate_callee (f := 30) rfl ?_); refine goesL_ (some 72) rfl rfl Try.func30 (by kernel_rfl) rfl #[.agg #[.int .i64 a0_0, .int .i64 a0_1], .agg #[.int .i64 a1_0, .int .i64 a1_1]] rfl q20 ?_; (with_reducible refine (frac_Quo.calls a0_0 a0_1 a1_0 a1_1 t372 t373 t374 _ A106.out).mono ?_); rintro e w174 ⟨rfl, hb⟩; refine ⟨_, rfl, ?_⟩; have n0_ := Aside0.mk (blk_below (g := gb350) (o := .cells #[.int .i64 a0_0, .int .i64 a0_1] 23 (0, 0)) q97 hb); have n1_ := Aside0.mk (blk_below (g := gb351) (o := .cells #[.int .i64 a1_0, .int .i64 a1_1] 23 (0, 0)) q101 hb); have n2_ := Aside0.mk (blk_below (g := gb355) (o := .cells #[.int .i64 t366, .int .i64 t367] 23 (0, 0)) q106 hb); have n3_ := Aside0.mk (blk_below (g := gb359) (o := .cells #[.int .i64 t369, .int .i64 t370] 23 (0, 0)) q111 hb); have n4_ := Aside0.mk (below_step q110 hb); clear BK350; clear BK351; clear BK355; clear BK359; clear HB; have BK350 := n0_; have BK351 := n1_; have BK355 := n2_; have BK359 := n3_; have HB := n4_; clear n0_ n1_ n2_ n3_ n4_; (try clear hb); (try clear hb2); (try clear hk); (try clear hi); have hnb175 := NB355_359.out; have hnc175 := NB359_355.out; have hcz176_0 : w174.cell? ⟨gb355, 0, none⟩ = some (.int .i64 t366) := (blk_cell BK355.out 0).trans rfl; have hcz176_1 : w174.cell? ⟨gb355, 1, none⟩ = some (.int .i64 t367) := (blk_cell BK355.out 1).trans rfl; have hfz176_0 := blk_frozen BK355.out 0; have hfz176_1 := blk_frozen BK355.out 1; have hcz177_0 : w174.cell? ⟨gb350, 0, none⟩ = some (.int .i64 a0_0) := (blk_cell BK350.out 0).trans rfl; have hcz177_1 : w174.cell? ⟨gb350, 1, none⟩ = some (.int .i64 a0_1) := (blk_cell BK350.out 1).trans rfl; have hfz177_0 := blk_frozen BK350.out 0; have hfz177_1 := blk_frozen BK350.out 1; have hcz178_0 : w174.cell? ⟨gb351, 0, none⟩ = some (.int .i64 a1_0) := (blk_cell BK351.out 0).trans rfl; have hcz178_1 : w174.cell? ⟨gb351, 1, none⟩ = some (.int .i64 a1_1) := (blk_cell BK351.out 1).trans rfl; have hfz178_0 := blk_frozen BK351.out 0; have hfz178_1 := blk_frozen BK351.out 1) | ((with_reducible refine gate_callee (f := 31) rfl ?_); refine goesL_ (some 78) rfl rfl Try.func31 (by kernel_rfl) rfl #[.agg #[.int .i64 a0_0, .int .i64 a0_1], .agg #[.int .i64 a1_0, .int .i64 a1_1]] rfl q20 ?_; (with_reducible refine (accountingref03_Quo.calls kj74 a0_0 a0_1 a1_0 a1_1 t375 t376 t377 _ A107.out).mono ?_); rintro e w179 ⟨rfl, hb⟩; refine ⟨_, rfl, ?_⟩; have n0_ := Aside0.mk (blk_below (g := gb350) (o := .cells #[.int .i64 a0_0, .int .i64 a0_1] 23 (0, 0)) q103 hb); have n1_ := Aside0.mk (blk_below (g := gb351) (o := .cells #[.int .i64 a1_0, .int .i64 a1_1] 23 (0, 0)) q104 hb); have n2_ := Aside0.mk (blk_below (g := gb355) (o := .cells #[.int .i64 t372, .int .i64 t373] 23 (0, 0)) q114 hb); have n3_ := Aside0.mk (blk_below (g := gb359) (o := .cells #[.int .i64 t369, .int .i64 t370] 23 (0, 0)) q112 hb); have n4_ := Aside0.mk (below_step q110 hb); clear BK350; clear BK351; clear BK355; clear BK359; clear HB; have BK350 := n0_; have BK351 := n1_; have BK355 := n2_; have BK359 := n3_; have HB := n4_; clear n0_ n1_ n2_ n3_ n4_; (try clear hb); (try clear hb2); (try clear hk); (try clear hi); have hcz180_0 : w179.cell? ⟨gb359, 0, none⟩ = some (.int .i64 t369) := (blk_cell BK359.out 0).trans rfl; have hcz180_1 : w179.cell? ⟨gb359, 1, none⟩ = some (.int .i64 t370) := (blk_cell BK359.out 1).trans rfl; have hfz180_0 := blk_frozen BK359.out 0; have hfz180_1 := blk_frozen BK359.out 1))
           have n0_ : Aside0 (((w179.setCell ⟨gb359, 0, none⟩ (.int .i64 t375)).setCell ⟨gb359, 1, none⟩ (.int .i64 t376)).heap[gb350]? = some (.cells #[.int .i64 a0_0, .int .i64 a0_1] 23 (0, 0))) := ⟨q107⟩
           have n1_ : Aside0 (((w179.setCell ⟨gb359, 0, none⟩ (.int .i64 t375)).setCell ⟨gb359, 1, none⟩ (.int .i64 t376)).heap[gb351]? = some (.cells #[.int .i64 a1_0, .int .i64 a1_1] 23 (0, 0))) := ⟨q108⟩
           have n2_ : Aside0 (((w179.setCell ⟨gb359, 0, none⟩ (.int .i64 t375)).setCell ⟨gb359, 1, none⟩ (.int .i64 t376)).heap[gb355]? = some (.cells #[.int .i64 t372, .int .i64 t373] 23 (0, 0))) := ⟨q109⟩
           have n3_ : Aside0 (((w179.setCell ⟨gb359, 0, none⟩ (.int .i64 t375)).setCell ⟨gb359, 1, none⟩ (.int .i64 t376)).heap[gb359]? = some (.cells #[.int .i64 t375, .int .i64 t376] 23 (0, 0))) := ⟨q115⟩
           have n4_ : Aside0 (Below w.heap.size w ((w179.setCell ⟨gb359, 0, none⟩ (.int .i64 t375)).setCell ⟨gb359, 1, none⟩ (.int .i64 t376))) := ⟨q110⟩
           (try clear BK350)
           (try clear BK351)
           (try clear BK355)
           (try clear BK359)
           (try clear HB)
           generalize ((w179.setCell ⟨gb359, 0, none⟩ (.int .i64 t375)).setCell ⟨gb359, 1, none⟩ (.int .i64 t376)) = w181 at n0_ n1_ n2_ n3_ n4_ ⊢
           have BK350 := n0_
           have BK351 := n1_
           have BK355 := n2_
           have BK359 := n3_
           have HB := n4_
           clear n0_ n1_ n2_ n3_ n4_
           have n0_ := Aside0.mk (blk_drew BK350.out)
           have n1_ := Aside0.mk (blk_drew BK351.out)
           have n2_ := Aside0.mk (blk_drew BK355.out)
           have n3_ := Aside0.mk (blk_drew BK359.out)
           have n4_ := Aside0.mk (below_drew1 HB.out)
           clear BK350
           clear BK351
           clear BK355
           clear BK359
           clear HB
           have BK350 := n0_
           have BK351 := n1_
           have BK355 := n2_
           have BK359 := n3_
           have HB := n4_
           clear n0_ n1_ n2_ n3_ n4_
           refine start_ (n := 21) (S := fun w' => w'.cell? ⟨gb355, 0, none⟩ = some (.int .i64 t372) ∧ w'.cell? ⟨gb355, 1, none⟩ = some (.int .i64 t373) ∧ w'.cell? ⟨gb359, 0, none⟩ = some (.int .i64 t375) ∧ w'.cell? ⟨gb359, 1, none⟩ = some (.int .i64 t376)) (ds := []) #[false, false, false, false, false, false, false, false, false, false, false, false, false, false, false, false, false, false, false, false, false] (by kernel_rfl) rfl rfl ⟨(blk_cell BK355.out 0).trans rfl, (blk_cell BK355.out 1).trans rfl, (blk_cell BK359.out 0).trans rfl, (blk_cell BK359.out 1).trans rfl⟩ (fun hHeld => ?_); refine with_tabW accountinglaw03_FracArith.tab15 accountinglaw03_FracArith.bits15 (fun HT_ HW_ => ?_)
           generalize w181.drew = w182 at BK350 BK351 BK355 BK359 HB hHeld ⊢
           refine take_ (i := 0) (N := some 81) (v := ?_) (a' := ?_) #[true, false, false, false, false, false, false, false, false, false, false, false, false, false, false, false, false, false, false, false, false] rfl rfl (take_ofW HT_.out HW_.out (by kernel_rfl)) (fun _ _ _ h => h) (Or.inl ⟨by rfl, ?_⟩) hHeld ?_ ?_
           rotate_left
           ·rintro w' ⟨s0, s1, s2, s3⟩
            go_simp
            with_reducible rfl
           rotate_left
           ·simp only [Act.put, List.setIfInBounds_toArray, List.set_cons_zero, List.set_cons_succ, i64_w, i32_w]
            rfl
           refine take_ (i := 1) (N := some 82) (v := ?_) (a' := ?_) #[true, true, false, false, false, false, false, false, false, false, false, false, false, false, false, false, false, false, false, false, false] rfl rfl (take_ofW HT_.out HW_.out (by kernel_rfl)) (fun _ _ _ h => h) (Or.inl ⟨by rfl, ?_⟩) hHeld ?_ ?_
           rotate_left
           ·rintro w' ⟨s0, s1, s2, s3⟩
            go_simp
            with_reducible rfl
           rotate_left
           ·simp only [Act.put, List.setIfInBounds_toArray, List.set_cons_zero, List.set_cons_succ, i64_w, i32_w]
            rfl
           refine pure_ (i := 2) (N := some 83) (v := ?_) (a' := ?_) #[true, true, true, false, false, false, false, false, false, false, false, false, false, false, false, false, false, false, false, false, false] rfl rfl (any_of HT_.out (by kernel_rfl)) (fun _ _ _ h => h) (Or.inl ⟨by rfl, ?_⟩) ?_ ?_
           rotate_left
           ·intro w'
            go_simp
            with_reducible rfl
           rotate_left
           ·simp only [Act.put, List.setIfInBounds_toArray, List.set_cons_zero, List.set_cons_succ, i64_w, i32_w]
            rfl
           refine pure_ (i := 3) (N := some 84) (v := ?_) (a' := ?_) #[true, true, true, true, false, false, false, false, false, false, false, false, false, false, false, false, false, false, false, false, false] rfl rfl (any_of HT_.out (by kernel_rfl)) (fun _ _ _ h => h) (Or.inl ⟨by rfl, ?_⟩) ?_ ?_
           rotate_left
           ·intro w'
            go_simp
            with_reducible rfl
           rotate_left
           ·simp only [Act.put, List.setIfInBounds_toArray, List.set_cons_zero, List.set_cons_succ, i64_w, i32_w]
            rfl
           refine pure_ (i := 4) (N := some 85) (v := undef) (a' := ?_) #[true, true, true, true, true, false, false, false, false, false, false, false, false, false, false, false, false, false, false, false, false] rfl rfl (any_of HT_.out (by kernel_rfl)) (fun _ _ _ h => h) (Or.inr ⟨by rfl, rfl⟩) ?_ ?_
           rotate_left
           ·simp only [Act.put, List.setIfInBounds_toArray, List.set_cons_zero, List.set_cons_succ, i64_w, i32_w]
            rfl
           refine pure_ (i := 5) (N := some 86) (v := undef) (a' := ?_) #[true, true, true, true, true, true, false, false, false, false, false, false, false, false, false, false, false, false, false, false, false] rfl rfl (any_of HT_.out (by kernel_rfl)) (fun _ _ _ h => h) (Or.inr ⟨by rfl, rfl⟩) ?_ ?_
           rotate_left
           ·simp only [Act.put, List.setIfInBounds_toArray, List.set_cons_zero, List.set_cons_succ, i64_w, i32_w]
            rfl
           refine pure_ (i := 6) (N := some 87) (v := undef) (a' := ?_) #[true, true, true, true, true, true, true, false, false, false, false, false, false, false, false, false, false, false, false, false, false] rfl rfl (any_of HT_.out (by kernel_rfl)) (fun _ _ _ h => h) (Or.inr ⟨by rfl, rfl⟩) ?_ ?_
           rotate_left
           ·simp only [Act.put, List.setIfInBounds_toArray, List.set_cons_zero, List.set_cons_succ, i64_w, i32_w]
            rfl
           refine pure_ (i := 7) (N := some 88) (v := ?_) (a' := ?_) #[true, true, true, true, true, true, true, true, false, false, false, false, false, false, false, false, false, false, false, false, false] rfl rfl (any_of HT_.out (by kernel_rfl)) (fun _ _ _ h => h) (Or.inl ⟨by rfl, ?_⟩) ?_ ?_
           rotate_left
           ·intro w'
            go_simp
            with_reducible rfl
           rotate_left
           ·simp only [Act.put, List.setIfInBounds_toArray, List.set_cons_zero, List.set_cons_succ, i64_w, i32_w]
            rfl
           refine pure_ (i := 8) (N := some 89) (v := ?_) (a' := ?_) #[true, true, true, true, true, true, true, true, true, false, false, false, false, false, false, false, false, false, false, false, false] rfl rfl (any_of HT_.out (by kernel_rfl)) (fun _ _ _ h => h) (Or.inl ⟨by rfl, ?_⟩) ?_ ?_
           rotate_left
           ·intro w'
            go_simp
            with_reducible rfl
           rotate_left
           ·simp only [Act.put, List.setIfInBounds_toArray, List.set_cons_zero, List.set_cons_succ, i64_w, i32_w]
            rfl
           refine pure_ (i := 9) (N := some 90) (v := undef) (a' := ?_) #[true, true, true, true, true, true, true, true, true, true, false, false, false, false, false, false, false, false, false, false, false] rfl rfl (any_of HT_.out (by kernel_rfl)) (fun _ _ _ h => h) (Or.inr ⟨by rfl, rfl⟩) ?_ ?_
           rotate_left
           ·simp only [Act.put, List.setIfInBounds_toArray, List.set_cons_zero, List.set_cons_succ, i64_w, i32_w]
            rfl
           refine pure_ (i := 10) (N := some 91) (v := undef) (a' := ?_) #[true, true, true, true, true, true, true, true, true, true, true, false, false, false, false, false, false, false, false, false, false] rfl rfl (any_of HT_.out (by kernel_rfl)) (fun _ _ _ h => h) (Or.inr ⟨by rfl, rfl⟩) ?_ ?_
           rotate_left
           ·simp only [Act.put, List.setIfInBounds_toArray, List.set_cons_zero, List.set_cons_succ, i64_w, i32_w]
            rfl
           refine pure_ (i := 11) (N := some 92) (v := undef) (a' := ?_) #[true, true, true, true, true, true, true, true, true, true, true, true, false, false, false, false, false, false, false, false, false] rfl rfl (any_of HT_.out (by kernel_rfl)) (fun _ _ _ h => h) (Or.inr ⟨by rfl, rfl⟩) ?_ ?_
           rotate_left
           ·simp only [Act.put, List.setIfInBounds_toArray, List.set_cons_zero, List.set_cons_succ, i64_w, i32_w]
            rfl
           refine pure_ (i := 12) (N := some 93) (v := undef) (a' := ?_) #[true, true, true, true, true, true, true, true, true, true, true, true, true, false, false, false, false, false, false, false, false] rfl rfl (any_of HT_.out (by kernel_rfl)) (fun _ _ _ h => h) (Or.inr ⟨by rfl, rfl⟩) ?_ ?_
           rotate_left
           ·simp only [Act.put, List.setIfInBounds_toArray, List.set_cons_zero, List.set_cons_succ, i64_w, i32_w]
            rfl
           refine pure_ (i := 13) (N := some 94) (v := undef) (a' := ?_) #[true, true, true, true, true, true, true, true, true, true, true, true, true, true, false, false, false, false, false, false, false] rfl rfl (any_of HT_.out (by kernel_rfl)) (fun _ _ _ h => h) (Or.inr ⟨by rfl, rfl⟩) ?_ ?_
           rotate_left
           ·simp only [Act.put, List.setIfInBounds_toArray, List.set_cons_zero, List.set_cons_succ, i64_w, i32_w]
            rfl
           refine pure_ (i := 14) (N := some 95) (v := undef) (a' := ?_) #[true, true, true, true, true, true, true, true, true, true, true, true, true, true, true, false, false, false, false, false, false] rfl rfl (any_of HT_.out (by kernel_rfl)) (fun _ _ _ h => h) (Or.inr ⟨by rfl, rfl⟩) ?_ ?_
           rotate_left
           ·simp only [Act.put, List.setIfInBounds_toArray, List.set_cons_zero, List.set_cons_succ, i64_w, i32_w]
            rfl
           refine pure_ (i := 15) (N := some 96) (v := undef) (a' := ?_) #[true, true, true, true, true, true, true, true, true, true, true, true, true, true, true, true, false, false, false, false, false] rfl rfl (any_of HT_.out (by kernel_rfl)) (fun _ _ _ h => h) (Or.inr ⟨by rfl, rfl⟩) ?_ ?_
           rotate_left
           ·simp only [Act.put, List.setIfInBounds_toArray, List.set_cons_zero, List.set_cons_succ, i64_w, i32_w]
            rfl
           refine pure_ (i := 16) (N := some 97) (v := ?_) (a' := ?_) #[true, true, true, true, true, true, true, true, true, true, true, true, true, true, true, true, true, false, false, false, false] rfl rfl (any_of HT_.out (by kernel_rfl)) (fun _ _ _ h => h) (Or.inl ⟨by rfl, ?_⟩) ?_ ?_
           rotate_left
           ·intro w'
            go_simp
            with_reducible rfl
           rotate_left
           ·simp only [Act.put, List.setIfInBounds_toArray, List.set_cons_zero, List.set_cons_succ, i64_w, i32_w]
            rfl
           refine pure_ (i := 17) (N := some 98) (v := ?_) (a' := ?_) #[true, true, true, true, true, true, true, true, true, true, true, true, true, true, true, true, true, true, false, false, false] rfl rfl (any_of HT_.out (by kernel_rfl)) (fun _ _ _ h => h) (Or.inl ⟨by rfl, ?_⟩) ?_ ?_
           rotate_left
           ·intro w'
            go_simp
            with_reducible rfl
           rotate_left
           ·simp only [Act.put, List.setIfInBounds_toArray, List.set_cons_zero, List.set_cons_succ, i64_w, i32_w]
            rfl
           refine pure_ (i := 18) (N := some 99) (v := undef) (a' := ?_) #[true, true, true, true, true, true, true, true, true, true, true, true, true, true, true, true, true, true, true, false, false] rfl rfl (any_of HT_.out (by kernel_rfl)) (fun _ _ _ h => h) (Or.inr ⟨by rfl, rfl⟩) ?_ ?_
           rotate_left
           ·simp only [Act.put, List.setIfInBounds_toArray, List.set_cons_zero, List.set_cons_succ, i64_w, i32_w]
            rfl
           refine pure_ (i := 19) (N := some 100) (v := ?_) (a' := ?_) #[true, true, true, true, true, true, true, true, true, true, true, true, true, true, true, true, true, true, true, true, false] rfl rfl (any_of HT_.out (by kernel_rfl)) (fun _ _ _ h => h) (Or.inl ⟨by rfl, ?_⟩) ?_ ?_
           rotate_left
           ·intro w'
            go_simp
            with_reducible rfl
           rotate_left
           ·simp only [Act.put, List.setIfInBounds_toArray, List.set_cons_zero, List.set_cons_succ, i64_w, i32_w]
            rfl
           refine pure_ (i := 20) (N := some 4) (v := ?_) (a' := ?_) #[true, true, true, true, true, true, true, true, true, true, true, true, true, true, true, true, true, true, true, true, true] rfl rfl (any_of HT_.out (by kernel_rfl)) (fun _ _ _ h => h) (Or.inl ⟨by rfl, ?_⟩) ?_ ?_
           rotate_left
           ·intro w'
            go_simp
            with_reducible rfl
           rotate_left
           ·simp only [Act.put, List.setIfInBounds_toArray, List.set_cons_zero, List.set_cons_succ, i64_w, i32_w]
            rfl
           refine done_ (done_of HT_.out (by kernel_rfl)) ?_
           try go_wp2
           go_ret
           exact ⟨q13, q110⟩

end Go.Proofs.Ytoenhagbgfkihaa.A
