-- By gen.py, a program of this session's, over the print's forms: not the print's own text.
import Derived.Test.YtoenhagbgfkihaaAx0
import Derived.Test.YtoenhagbgfkihaaQ
import Derived.Test.YtoenhagbgfkihaaAx2
namespace Go.Proofs.Ytoenhagbgfkihaa.A
open Go.RowKit Go.Proofs.Ytoenhagbgfkihaa.B Go.Proofs.YtoenhagbgfkihaaW.PrintWords Go.Proofs.YtoenhagbgfkihaaW.PrintLast Go.Proofs.YtoenhagbgfkihaaW.PrintMore
attribute [local go_sem] max2_int min2_int max_two min_two max_three min_three max_four min_four   -- for this text's walks alone
set_option linter.unusedVariables false
set_option linter.unusedSimpArgs false

/-! ### frac_Sub: function 24 (by hand) -/
set_option maxHeartbeats 1600000 in
theorem opSub_any (a b c d : Int) (w : World) :
  Calls Try.prog 51 #[.agg #[.int .i64 a, .int .i64 b], .agg #[.int .i64 c, .int .i64 d]] w fun e w' => e = .returned (.agg #[.int .i64 (wrap64 (wrap64 (a * d) - wrap64 (c * b))), .int .i64 (wrap64 (b * d))]) ∧ Below w.heap.size w w' := by
 go_enter Try.func51, Try.ntmps51
 go_wp2_with fail
 exact bodyPost_ret (v := .agg #[.int .i64 (wrap64 (wrap64 (a * d) - wrap64 (c * b))), .int .i64 (wrap64 (b * d))]) (by simp [results, Try.results51, go_sem]) rfl ⟨rfl, q1⟩
set_option maxHeartbeats 6400000 in
theorem frac_Sub_any (a b c d : Int) (ha : I64 a) (hb : I64 b) (hc : I64 c) (hd : I64 d) (w : World) :
  Calls Try.prog 24 #[.agg #[.int .i64 a, .int .i64 b], .agg #[.int .i64 c, .int .i64 d]] w fun e w' => e = .returned (.tuple #[.agg #[.int .i64 (joinS a b c d (wrap64 (wrap64 (a * d) - wrap64 (c * b))) (wrap64 (b * d))).1, .int .i64 (joinS a b c d (wrap64 (wrap64 (a * d) - wrap64 (c * b))) (wrap64 (b * d))).2.1], .int .i64 (joinS a b c d (wrap64 (wrap64 (a * d) - wrap64 (c * b))) (wrap64 (b * d))).2.2]) ∧ Below w.heap.size w w' := by
 have HR1 := Aside0.mk (right_any a b ha hb)
 have HR2 := Aside0.mk (right_any c d hc hd)
 have HO := Aside0.mk (opSub_any a b c d)
 generalize hp : wrap64 (wrap64 (a * d) - wrap64 (c * b)) = p at *
 generalize hq : wrap64 (b * d) = q at *
 have HM := Aside0.mk (make_any p q (by rw [← hp]; exact i64_wrap _) (by rw [← hq]; exact i64_wrap _))
 clear hp hq ha hb hc hd
 generalize hJ : joinS a b c d p q = J
 unfold joinS at hJ
 generalize hP : (fun e w' => e = Ending.returned (.tuple #[.agg #[.int .i64 J.1, .int .i64 J.2.1], .int .i64 J.2.2]) ∧ Below w.heap.size w w') = Post
 have HJ := Aside0.mk hJ
 have HP := Aside0.mk hP
 clear hJ hP
 generalize rightS a b = r1 at *
 generalize rightS c d = r2 at *
 generalize makeS p q = m at *
 obtain ⟨m1, m2, m3⟩ := m
 dsimp only at HM
 have step : ∀ (x y z : Int), Aside0 ((x, y, z) = J) → ∀ w', Below w.heap.size w w' → Aside0 (Post (.returned (.tuple #[.agg #[.int .i64 x, .int .i64 y], .int .i64 z])) w') := by
  intro x y z h w' hb
  rw [← HP.out, ← h.out]
  exact ⟨⟨rfl, hb⟩⟩
 have HS := Aside0.mk step
 clear step HP
 go_enter Try.func24, Try.ntmps24
 go_wp2_with fail
 go_enter Try.func50, Try.ntmps50
 go_wp2_with fail
 refine (HR1.out _).mono ?_
 rintro e w1 ⟨rfl, hb1⟩
 obtain ⟨hc1, hf1⟩ := bcell hb1
 have hz1 : w.heap.size + 5 < w1.heap.size := by have := hb1.size; simp at this; omega
 have k22 : w1.cell? ⟨w.heap.size + 1 + 1, 0, none⟩ = some (.int .i64 0) := by rw [hc1 _ _ (by simp)]; go_simp
 have k23 : w1.cell? ⟨w.heap.size + 1 + 1, 1, none⟩ = some (.int .i64 0) := by rw [hc1 _ _ (by simp)]; go_simp
 have f22 : w1.frozen? ⟨w.heap.size + 1 + 1, 0, none⟩ = false := by rw [hf1 _ _ (by simp)]; go_simp
 have f23 : w1.frozen? ⟨w.heap.size + 1 + 1, 1, none⟩ = false := by rw [hf1 _ _ (by simp)]; go_simp
 have k10 : w1.cell? ⟨w.heap.size + 1 + 1 + 1, 0, none⟩ = some (.int .i64 a) := by rw [hc1 _ _ (by simp)]; go_simp
 have k11 : w1.cell? ⟨w.heap.size + 1 + 1 + 1, 1, none⟩ = some (.int .i64 b) := by rw [hc1 _ _ (by simp)]; go_simp
 have k12 : w1.cell? ⟨w.heap.size + 1 + 1 + 1 + 1, 0, none⟩ = some (.int .i64 c) := by rw [hc1 _ _ (by simp)]; go_simp
 have k13 : w1.cell? ⟨w.heap.size + 1 + 1 + 1 + 1, 1, none⟩ = some (.int .i64 d) := by rw [hc1 _ _ (by simp)]; go_simp
 have k14 : w1.cell? ⟨w.heap.size + 1 + 1 + 1 + 1 + 1, 0, none⟩ = some (.int .i64 0) := by rw [hc1 _ _ (by simp)]; go_simp
 have k15 : w1.cell? ⟨w.heap.size + 1 + 1 + 1 + 1 + 1, 1, none⟩ = some (.int .i64 0) := by rw [hc1 _ _ (by simp)]; go_simp
 have f14 : w1.frozen? ⟨w.heap.size + 1 + 1 + 1 + 1 + 1, 0, none⟩ = false := by rw [hf1 _ _ (by simp)]; go_simp
 have f15 : w1.frozen? ⟨w.heap.size + 1 + 1 + 1 + 1 + 1, 1, none⟩ = false := by rw [hf1 _ _ (by simp)]; go_simp
 have HB1 := Aside0.mk (show Below w.heap.size w w1 from ((below_alloc (below_alloc (below_alloc (below_alloc (below_alloc (below_alloc (Below.refl _ w) _) _) _) _) _) _).trans (hb1.mono (by simp; omega))))
 clear hb1 hf1 hc1
 cases r1
 ·go_wp2_with fail
  refine bodyPost_ret (v := .tuple #[.agg #[.int .i64 0, .int .i64 0], .int .i64 2]) q2 rfl ?_
  go_wp2_with fail
  refine bodyPost_ret (v := .tuple #[.agg #[.int .i64 0, .int .i64 0], .int .i64 2]) q3 rfl ?_
  exact (HS.out 0 0 2 HJ _ q4).out
 ·go_wp2_with fail
  refine (HR2.out _).mono ?_
  rintro e w2 ⟨rfl, hb2⟩
  obtain ⟨hc2, hf2⟩ := bcell hb2
  have hz2 : w.heap.size + 5 < w2.heap.size := by have := hb2.size; omega
  replace k22 : w2.cell? ⟨w.heap.size + 1 + 1, 0, none⟩ = some (.int .i64 0) := by rw [hc2 _ _ (by omega)]; exact k22
  replace k23 : w2.cell? ⟨w.heap.size + 1 + 1, 1, none⟩ = some (.int .i64 0) := by rw [hc2 _ _ (by omega)]; exact k23
  replace f22 : w2.frozen? ⟨w.heap.size + 1 + 1, 0, none⟩ = false := by rw [hf2 _ _ (by omega)]; exact f22
  replace f23 : w2.frozen? ⟨w.heap.size + 1 + 1, 1, none⟩ = false := by rw [hf2 _ _ (by omega)]; exact f23
  replace k10 : w2.cell? ⟨w.heap.size + 1 + 1 + 1, 0, none⟩ = some (.int .i64 a) := by rw [hc2 _ _ (by omega)]; exact k10
  replace k11 : w2.cell? ⟨w.heap.size + 1 + 1 + 1, 1, none⟩ = some (.int .i64 b) := by rw [hc2 _ _ (by omega)]; exact k11
  replace k12 : w2.cell? ⟨w.heap.size + 1 + 1 + 1 + 1, 0, none⟩ = some (.int .i64 c) := by rw [hc2 _ _ (by omega)]; exact k12
  replace k13 : w2.cell? ⟨w.heap.size + 1 + 1 + 1 + 1, 1, none⟩ = some (.int .i64 d) := by rw [hc2 _ _ (by omega)]; exact k13
  replace k14 : w2.cell? ⟨w.heap.size + 1 + 1 + 1 + 1 + 1, 0, none⟩ = some (.int .i64 0) := by rw [hc2 _ _ (by omega)]; exact k14
  replace k15 : w2.cell? ⟨w.heap.size + 1 + 1 + 1 + 1 + 1, 1, none⟩ = some (.int .i64 0) := by rw [hc2 _ _ (by omega)]; exact k15
  replace f14 : w2.frozen? ⟨w.heap.size + 1 + 1 + 1 + 1 + 1, 0, none⟩ = false := by rw [hf2 _ _ (by omega)]; exact f14
  replace f15 : w2.frozen? ⟨w.heap.size + 1 + 1 + 1 + 1 + 1, 1, none⟩ = false := by rw [hf2 _ _ (by omega)]; exact f15
  have HB2 := Aside0.mk (show Below w.heap.size w w2 from HB1.out.trans (hb2.mono (by omega)))
  clear hb2 hf2 hc2 HB1 hz1
  cases r2
  ·go_wp2_with fail
   refine bodyPost_ret (v := .tuple #[.agg #[.int .i64 0, .int .i64 0], .int .i64 2]) q2 rfl ?_
   go_wp2_with fail
   refine bodyPost_ret (v := .tuple #[.agg #[.int .i64 0, .int .i64 0], .int .i64 2]) q3 rfl ?_
   exact (HS.out 0 0 2 HJ _ q5).out
  ·go_wp2_with fail
   refine (HO.out _).mono ?_
   rintro e w3 ⟨rfl, hb3⟩
   obtain ⟨hc3, hf3⟩ := bcell hb3
   have hz3 : w.heap.size + 5 < w3.heap.size := by have := hb3.size; omega
   replace k22 : w3.cell? ⟨w.heap.size + 1 + 1, 0, none⟩ = some (.int .i64 0) := by rw [hc3 _ _ (by omega)]; exact k22
   replace k23 : w3.cell? ⟨w.heap.size + 1 + 1, 1, none⟩ = some (.int .i64 0) := by rw [hc3 _ _ (by omega)]; exact k23
   replace f22 : w3.frozen? ⟨w.heap.size + 1 + 1, 0, none⟩ = false := by rw [hf3 _ _ (by omega)]; exact f22
   replace f23 : w3.frozen? ⟨w.heap.size + 1 + 1, 1, none⟩ = false := by rw [hf3 _ _ (by omega)]; exact f23
   replace k14 : w3.cell? ⟨w.heap.size + 1 + 1 + 1 + 1 + 1, 0, none⟩ = some (.int .i64 0) := by rw [hc3 _ _ (by omega)]; exact k14
   replace k15 : w3.cell? ⟨w.heap.size + 1 + 1 + 1 + 1 + 1, 1, none⟩ = some (.int .i64 0) := by rw [hc3 _ _ (by omega)]; exact k15
   replace f14 : w3.frozen? ⟨w.heap.size + 1 + 1 + 1 + 1 + 1, 0, none⟩ = false := by rw [hf3 _ _ (by omega)]; exact f14
   replace f15 : w3.frozen? ⟨w.heap.size + 1 + 1 + 1 + 1 + 1, 1, none⟩ = false := by rw [hf3 _ _ (by omega)]; exact f15
   have HB3 := Aside0.mk (show Below w.heap.size w w3 from HB2.out.trans (hb3.mono (by omega)))
   clear hb3 hf3 hc3 HB2 hz2 k10 k11 k12 k13
   go_wp2_with fail
   refine (HM.out _).mono ?_
   rintro e w4 ⟨rfl, hb4⟩
   have hb34 : Below w3.heap.size w3 w4 := Below.trans (show Below w3.heap.size w3 _ from by repeat (first | exact Below.refl _ _ | apply pw_below_drewN | apply below_alloc)) (hb4.mono (by simp))
   obtain ⟨hc4, hf4⟩ := bcell hb34
   have hz4 : w.heap.size + 5 < w4.heap.size := by have := hb34.size; omega
   replace k22 : w4.cell? ⟨w.heap.size + 1 + 1, 0, none⟩ = some (.int .i64 0) := by rw [hc4 _ _ (by omega)]; exact k22
   replace k23 : w4.cell? ⟨w.heap.size + 1 + 1, 1, none⟩ = some (.int .i64 0) := by rw [hc4 _ _ (by omega)]; exact k23
   replace f22 : w4.frozen? ⟨w.heap.size + 1 + 1, 0, none⟩ = false := by rw [hf4 _ _ (by omega)]; exact f22
   replace f23 : w4.frozen? ⟨w.heap.size + 1 + 1, 1, none⟩ = false := by rw [hf4 _ _ (by omega)]; exact f23
   replace k14 : w4.cell? ⟨w.heap.size + 1 + 1 + 1 + 1 + 1, 0, none⟩ = some (.int .i64 0) := by rw [hc4 _ _ (by omega)]; exact k14
   replace k15 : w4.cell? ⟨w.heap.size + 1 + 1 + 1 + 1 + 1, 1, none⟩ = some (.int .i64 0) := by rw [hc4 _ _ (by omega)]; exact k15
   replace f14 : w4.frozen? ⟨w.heap.size + 1 + 1 + 1 + 1 + 1, 0, none⟩ = false := by rw [hf4 _ _ (by omega)]; exact f14
   replace f15 : w4.frozen? ⟨w.heap.size + 1 + 1 + 1 + 1 + 1, 1, none⟩ = false := by rw [hf4 _ _ (by omega)]; exact f15
   have HB4 := Aside0.mk (show Below w.heap.size w w4 from HB3.out.trans (hb34.mono (by omega)))
   clear hb4 hb34 hf4 hc4 HB3 hz3
   go_wp2_with fail
   refine bodyPost_ret (v := .tuple #[.agg #[.int .i64 m1, .int .i64 m2], .int .i64 m3]) q2 rfl ?_
   go_wp2_with fail
   refine bodyPost_ret (v := .tuple #[.agg #[.int .i64 m1, .int .i64 m2], .int .i64 m3]) q3 rfl ?_
   exact (HS.out m1 m2 m3 HJ _ q6).out
def frac_Sub.f (a0_0 a0_1 a1_0 a1_1 : Int) : Option (Int × Int × Int) := if I64 a0_0 ∧ I64 a0_1 ∧ I64 a1_0 ∧ I64 a1_1 then some (joinS a0_0 a0_1 a1_0 a1_1 (wrap64 (wrap64 (a0_0 * a1_1) - wrap64 (a1_0 * a0_1))) (wrap64 (a0_1 * a1_1))) else none
theorem frac_Sub.calls (a0_0 : Int) (a0_1 : Int) (a1_0 : Int) (a1_1 : Int) (r1 : Int) (r2 : Int) (r3 : Int) (w : World) (h : frac_Sub.f a0_0 a0_1 a1_0 a1_1 = some (r1, r2, r3)) :
  Calls Try.prog 24 #[.agg #[.int .i64 a0_0, .int .i64 a0_1], .agg #[.int .i64 a1_0, .int .i64 a1_1]] w fun e w' => e = .returned (.tuple #[.agg #[.int .i64 r1, .int .i64 r2], .int .i64 r3]) ∧ Below w.heap.size w w' := by
 unfold frac_Sub.f at h
 split at h
 ·rename_i hb
  have hj := frac_Sub_any a0_0 a0_1 a1_0 a1_1 hb.1 hb.2.1 hb.2.2.1 hb.2.2.2 w
  rw [Option.some.inj h] at hj
  exact hj
 ·cases h

/-! ### frac_Mul: function 28 (by hand) -/
set_option maxHeartbeats 1600000 in
theorem opMul_any (a b c d : Int) (w : World) :
  Calls Try.prog 53 #[.agg #[.int .i64 a, .int .i64 b], .agg #[.int .i64 c, .int .i64 d]] w fun e w' => e = .returned (.agg #[.int .i64 (wrap64 (a * c)), .int .i64 (wrap64 (b * d))]) ∧ Below w.heap.size w w' := by
 go_enter Try.func53, Try.ntmps53
 go_wp2_with fail
 exact bodyPost_ret (v := .agg #[.int .i64 (wrap64 (a * c)), .int .i64 (wrap64 (b * d))]) (by simp [results, Try.results53, go_sem]) rfl ⟨rfl, q1⟩
set_option maxHeartbeats 6400000 in
theorem frac_Mul_any (a b c d : Int) (ha : I64 a) (hb : I64 b) (hc : I64 c) (hd : I64 d) (w : World) :
  Calls Try.prog 28 #[.agg #[.int .i64 a, .int .i64 b], .agg #[.int .i64 c, .int .i64 d]] w fun e w' => e = .returned (.tuple #[.agg #[.int .i64 (joinS a b c d (wrap64 (a * c)) (wrap64 (b * d))).1, .int .i64 (joinS a b c d (wrap64 (a * c)) (wrap64 (b * d))).2.1], .int .i64 (joinS a b c d (wrap64 (a * c)) (wrap64 (b * d))).2.2]) ∧ Below w.heap.size w w' := by
 have HR1 := Aside0.mk (right_any a b ha hb)
 have HR2 := Aside0.mk (right_any c d hc hd)
 have HO := Aside0.mk (opMul_any a b c d)
 generalize hp : wrap64 (a * c) = p at *
 generalize hq : wrap64 (b * d) = q at *
 have HM := Aside0.mk (make_any p q (by rw [← hp]; exact i64_wrap _) (by rw [← hq]; exact i64_wrap _))
 clear hp hq ha hb hc hd
 generalize hJ : joinS a b c d p q = J
 unfold joinS at hJ
 generalize hP : (fun e w' => e = Ending.returned (.tuple #[.agg #[.int .i64 J.1, .int .i64 J.2.1], .int .i64 J.2.2]) ∧ Below w.heap.size w w') = Post
 have HJ := Aside0.mk hJ
 have HP := Aside0.mk hP
 clear hJ hP
 generalize rightS a b = r1 at *
 generalize rightS c d = r2 at *
 generalize makeS p q = m at *
 obtain ⟨m1, m2, m3⟩ := m
 dsimp only at HM
 have step : ∀ (x y z : Int), Aside0 ((x, y, z) = J) → ∀ w', Below w.heap.size w w' → Aside0 (Post (.returned (.tuple #[.agg #[.int .i64 x, .int .i64 y], .int .i64 z])) w') := by
  intro x y z h w' hb
  rw [← HP.out, ← h.out]
  exact ⟨⟨rfl, hb⟩⟩
 have HS := Aside0.mk step
 clear step HP
 go_enter Try.func28, Try.ntmps28
 go_wp2_with fail
 go_enter Try.func50, Try.ntmps50
 go_wp2_with fail
 refine (HR1.out _).mono ?_
 rintro e w1 ⟨rfl, hb1⟩
 obtain ⟨hc1, hf1⟩ := bcell hb1
 have hz1 : w.heap.size + 5 < w1.heap.size := by have := hb1.size; simp at this; omega
 have k22 : w1.cell? ⟨w.heap.size + 1 + 1, 0, none⟩ = some (.int .i64 0) := by rw [hc1 _ _ (by simp)]; go_simp
 have k23 : w1.cell? ⟨w.heap.size + 1 + 1, 1, none⟩ = some (.int .i64 0) := by rw [hc1 _ _ (by simp)]; go_simp
 have f22 : w1.frozen? ⟨w.heap.size + 1 + 1, 0, none⟩ = false := by rw [hf1 _ _ (by simp)]; go_simp
 have f23 : w1.frozen? ⟨w.heap.size + 1 + 1, 1, none⟩ = false := by rw [hf1 _ _ (by simp)]; go_simp
 have k10 : w1.cell? ⟨w.heap.size + 1 + 1 + 1, 0, none⟩ = some (.int .i64 a) := by rw [hc1 _ _ (by simp)]; go_simp
 have k11 : w1.cell? ⟨w.heap.size + 1 + 1 + 1, 1, none⟩ = some (.int .i64 b) := by rw [hc1 _ _ (by simp)]; go_simp
 have k12 : w1.cell? ⟨w.heap.size + 1 + 1 + 1 + 1, 0, none⟩ = some (.int .i64 c) := by rw [hc1 _ _ (by simp)]; go_simp
 have k13 : w1.cell? ⟨w.heap.size + 1 + 1 + 1 + 1, 1, none⟩ = some (.int .i64 d) := by rw [hc1 _ _ (by simp)]; go_simp
 have k14 : w1.cell? ⟨w.heap.size + 1 + 1 + 1 + 1 + 1, 0, none⟩ = some (.int .i64 0) := by rw [hc1 _ _ (by simp)]; go_simp
 have k15 : w1.cell? ⟨w.heap.size + 1 + 1 + 1 + 1 + 1, 1, none⟩ = some (.int .i64 0) := by rw [hc1 _ _ (by simp)]; go_simp
 have f14 : w1.frozen? ⟨w.heap.size + 1 + 1 + 1 + 1 + 1, 0, none⟩ = false := by rw [hf1 _ _ (by simp)]; go_simp
 have f15 : w1.frozen? ⟨w.heap.size + 1 + 1 + 1 + 1 + 1, 1, none⟩ = false := by rw [hf1 _ _ (by simp)]; go_simp
 have HB1 := Aside0.mk (show Below w.heap.size w w1 from ((below_alloc (below_alloc (below_alloc (below_alloc (below_alloc (below_alloc (Below.refl _ w) _) _) _) _) _) _).trans (hb1.mono (by simp; omega))))
 clear hb1 hf1 hc1
 cases r1
 ·go_wp2_with fail
  refine bodyPost_ret (v := .tuple #[.agg #[.int .i64 0, .int .i64 0], .int .i64 2]) q2 rfl ?_
  go_wp2_with fail
  refine bodyPost_ret (v := .tuple #[.agg #[.int .i64 0, .int .i64 0], .int .i64 2]) q7 rfl ?_
  exact (HS.out 0 0 2 HJ _ q4).out
 ·go_wp2_with fail
  refine (HR2.out _).mono ?_
  rintro e w2 ⟨rfl, hb2⟩
  obtain ⟨hc2, hf2⟩ := bcell hb2
  have hz2 : w.heap.size + 5 < w2.heap.size := by have := hb2.size; omega
  replace k22 : w2.cell? ⟨w.heap.size + 1 + 1, 0, none⟩ = some (.int .i64 0) := by rw [hc2 _ _ (by omega)]; exact k22
  replace k23 : w2.cell? ⟨w.heap.size + 1 + 1, 1, none⟩ = some (.int .i64 0) := by rw [hc2 _ _ (by omega)]; exact k23
  replace f22 : w2.frozen? ⟨w.heap.size + 1 + 1, 0, none⟩ = false := by rw [hf2 _ _ (by omega)]; exact f22
  replace f23 : w2.frozen? ⟨w.heap.size + 1 + 1, 1, none⟩ = false := by rw [hf2 _ _ (by omega)]; exact f23
  replace k10 : w2.cell? ⟨w.heap.size + 1 + 1 + 1, 0, none⟩ = some (.int .i64 a) := by rw [hc2 _ _ (by omega)]; exact k10
  replace k11 : w2.cell? ⟨w.heap.size + 1 + 1 + 1, 1, none⟩ = some (.int .i64 b) := by rw [hc2 _ _ (by omega)]; exact k11
  replace k12 : w2.cell? ⟨w.heap.size + 1 + 1 + 1 + 1, 0, none⟩ = some (.int .i64 c) := by rw [hc2 _ _ (by omega)]; exact k12
  replace k13 : w2.cell? ⟨w.heap.size + 1 + 1 + 1 + 1, 1, none⟩ = some (.int .i64 d) := by rw [hc2 _ _ (by omega)]; exact k13
  replace k14 : w2.cell? ⟨w.heap.size + 1 + 1 + 1 + 1 + 1, 0, none⟩ = some (.int .i64 0) := by rw [hc2 _ _ (by omega)]; exact k14
  replace k15 : w2.cell? ⟨w.heap.size + 1 + 1 + 1 + 1 + 1, 1, none⟩ = some (.int .i64 0) := by rw [hc2 _ _ (by omega)]; exact k15
  replace f14 : w2.frozen? ⟨w.heap.size + 1 + 1 + 1 + 1 + 1, 0, none⟩ = false := by rw [hf2 _ _ (by omega)]; exact f14
  replace f15 : w2.frozen? ⟨w.heap.size + 1 + 1 + 1 + 1 + 1, 1, none⟩ = false := by rw [hf2 _ _ (by omega)]; exact f15
  have HB2 := Aside0.mk (show Below w.heap.size w w2 from HB1.out.trans (hb2.mono (by omega)))
  clear hb2 hf2 hc2 HB1 hz1
  cases r2
  ·go_wp2_with fail
   refine bodyPost_ret (v := .tuple #[.agg #[.int .i64 0, .int .i64 0], .int .i64 2]) q2 rfl ?_
   go_wp2_with fail
   refine bodyPost_ret (v := .tuple #[.agg #[.int .i64 0, .int .i64 0], .int .i64 2]) q7 rfl ?_
   exact (HS.out 0 0 2 HJ _ q5).out
  ·go_wp2_with fail
   refine (HO.out _).mono ?_
   rintro e w3 ⟨rfl, hb3⟩
   obtain ⟨hc3, hf3⟩ := bcell hb3
   have hz3 : w.heap.size + 5 < w3.heap.size := by have := hb3.size; omega
   replace k22 : w3.cell? ⟨w.heap.size + 1 + 1, 0, none⟩ = some (.int .i64 0) := by rw [hc3 _ _ (by omega)]; exact k22
   replace k23 : w3.cell? ⟨w.heap.size + 1 + 1, 1, none⟩ = some (.int .i64 0) := by rw [hc3 _ _ (by omega)]; exact k23
   replace f22 : w3.frozen? ⟨w.heap.size + 1 + 1, 0, none⟩ = false := by rw [hf3 _ _ (by omega)]; exact f22
   replace f23 : w3.frozen? ⟨w.heap.size + 1 + 1, 1, none⟩ = false := by rw [hf3 _ _ (by omega)]; exact f23
   replace k14 : w3.cell? ⟨w.heap.size + 1 + 1 + 1 + 1 + 1, 0, none⟩ = some (.int .i64 0) := by rw [hc3 _ _ (by omega)]; exact k14
   replace k15 : w3.cell? ⟨w.heap.size + 1 + 1 + 1 + 1 + 1, 1, none⟩ = some (.int .i64 0) := by rw [hc3 _ _ (by omega)]; exact k15
   replace f14 : w3.frozen? ⟨w.heap.size + 1 + 1 + 1 + 1 + 1, 0, none⟩ = false := by rw [hf3 _ _ (by omega)]; exact f14
   replace f15 : w3.frozen? ⟨w.heap.size + 1 + 1 + 1 + 1 + 1, 1, none⟩ = false := by rw [hf3 _ _ (by omega)]; exact f15
   have HB3 := Aside0.mk (show Below w.heap.size w w3 from HB2.out.trans (hb3.mono (by omega)))
   clear hb3 hf3 hc3 HB2 hz2 k10 k11 k12 k13
   go_wp2_with fail
   refine (HM.out _).mono ?_
   rintro e w4 ⟨rfl, hb4⟩
   have hb34 : Below w3.heap.size w3 w4 := Below.trans (show Below w3.heap.size w3 _ from by repeat (first | exact Below.refl _ _ | apply pw_below_drewN | apply below_alloc)) (hb4.mono (by simp))
   obtain ⟨hc4, hf4⟩ := bcell hb34
   have hz4 : w.heap.size + 5 < w4.heap.size := by have := hb34.size; omega
   replace k22 : w4.cell? ⟨w.heap.size + 1 + 1, 0, none⟩ = some (.int .i64 0) := by rw [hc4 _ _ (by omega)]; exact k22
   replace k23 : w4.cell? ⟨w.heap.size + 1 + 1, 1, none⟩ = some (.int .i64 0) := by rw [hc4 _ _ (by omega)]; exact k23
   replace f22 : w4.frozen? ⟨w.heap.size + 1 + 1, 0, none⟩ = false := by rw [hf4 _ _ (by omega)]; exact f22
   replace f23 : w4.frozen? ⟨w.heap.size + 1 + 1, 1, none⟩ = false := by rw [hf4 _ _ (by omega)]; exact f23
   replace k14 : w4.cell? ⟨w.heap.size + 1 + 1 + 1 + 1 + 1, 0, none⟩ = some (.int .i64 0) := by rw [hc4 _ _ (by omega)]; exact k14
   replace k15 : w4.cell? ⟨w.heap.size + 1 + 1 + 1 + 1 + 1, 1, none⟩ = some (.int .i64 0) := by rw [hc4 _ _ (by omega)]; exact k15
   replace f14 : w4.frozen? ⟨w.heap.size + 1 + 1 + 1 + 1 + 1, 0, none⟩ = false := by rw [hf4 _ _ (by omega)]; exact f14
   replace f15 : w4.frozen? ⟨w.heap.size + 1 + 1 + 1 + 1 + 1, 1, none⟩ = false := by rw [hf4 _ _ (by omega)]; exact f15
   have HB4 := Aside0.mk (show Below w.heap.size w w4 from HB3.out.trans (hb34.mono (by omega)))
   clear hb4 hb34 hf4 hc4 HB3 hz3
   go_wp2_with fail
   refine bodyPost_ret (v := .tuple #[.agg #[.int .i64 m1, .int .i64 m2], .int .i64 m3]) q2 rfl ?_
   go_wp2_with fail
   refine bodyPost_ret (v := .tuple #[.agg #[.int .i64 m1, .int .i64 m2], .int .i64 m3]) q7 rfl ?_
   exact (HS.out m1 m2 m3 HJ _ q6).out
def frac_Mul.f (a0_0 a0_1 a1_0 a1_1 : Int) : Option (Int × Int × Int) := if I64 a0_0 ∧ I64 a0_1 ∧ I64 a1_0 ∧ I64 a1_1 then some (joinS a0_0 a0_1 a1_0 a1_1 (wrap64 (a0_0 * a1_0)) (wrap64 (a0_1 * a1_1))) else none
theorem frac_Mul.calls (a0_0 : Int) (a0_1 : Int) (a1_0 : Int) (a1_1 : Int) (r1 : Int) (r2 : Int) (r3 : Int) (w : World) (h : frac_Mul.f a0_0 a0_1 a1_0 a1_1 = some (r1, r2, r3)) :
  Calls Try.prog 28 #[.agg #[.int .i64 a0_0, .int .i64 a0_1], .agg #[.int .i64 a1_0, .int .i64 a1_1]] w fun e w' => e = .returned (.tuple #[.agg #[.int .i64 r1, .int .i64 r2], .int .i64 r3]) ∧ Below w.heap.size w w' := by
 unfold frac_Mul.f at h
 split at h
 ·rename_i hb
  have hj := frac_Mul_any a0_0 a0_1 a1_0 a1_1 hb.1 hb.2.1 hb.2.2.1 hb.2.2.2 w
  rw [Option.some.inj h] at hj
  exact hj
 ·cases h

/-! ### frac_Quo: function 30 (by hand) -/
set_option maxHeartbeats 1600000 in
theorem opQuo_any (a b c d : Int) (w : World) :
  Calls Try.prog 54 #[.agg #[.int .i64 a, .int .i64 b], .agg #[.int .i64 c, .int .i64 d]] w fun e w' => e = .returned (.agg #[.int .i64 (wrap64 (a * d)), .int .i64 (wrap64 (b * c))]) ∧ Below w.heap.size w w' := by
 go_enter Try.func54, Try.ntmps54
 go_wp2_with fail
 exact bodyPost_ret (v := .agg #[.int .i64 (wrap64 (a * d)), .int .i64 (wrap64 (b * c))]) (by simp [results, Try.results54, go_sem]) rfl ⟨rfl, q1⟩
set_option maxHeartbeats 6400000 in
theorem frac_Quo_any (a b c d : Int) (ha : I64 a) (hb : I64 b) (hc : I64 c) (hd : I64 d) (w : World) :
  Calls Try.prog 30 #[.agg #[.int .i64 a, .int .i64 b], .agg #[.int .i64 c, .int .i64 d]] w fun e w' => e = .returned (.tuple #[.agg #[.int .i64 (joinS a b c d (wrap64 (a * d)) (wrap64 (b * c))).1, .int .i64 (joinS a b c d (wrap64 (a * d)) (wrap64 (b * c))).2.1], .int .i64 (joinS a b c d (wrap64 (a * d)) (wrap64 (b * c))).2.2]) ∧ Below w.heap.size w w' := by
 have HR1 := Aside0.mk (right_any a b ha hb)
 have HR2 := Aside0.mk (right_any c d hc hd)
 have HO := Aside0.mk (opQuo_any a b c d)
 generalize hp : wrap64 (a * d) = p at *
 generalize hq : wrap64 (b * c) = q at *
 have HM := Aside0.mk (make_any p q (by rw [← hp]; exact i64_wrap _) (by rw [← hq]; exact i64_wrap _))
 clear hp hq ha hb hc hd
 generalize hJ : joinS a b c d p q = J
 unfold joinS at hJ
 generalize hP : (fun e w' => e = Ending.returned (.tuple #[.agg #[.int .i64 J.1, .int .i64 J.2.1], .int .i64 J.2.2]) ∧ Below w.heap.size w w') = Post
 have HJ := Aside0.mk hJ
 have HP := Aside0.mk hP
 clear hJ hP
 generalize rightS a b = r1 at *
 generalize rightS c d = r2 at *
 generalize makeS p q = m at *
 obtain ⟨m1, m2, m3⟩ := m
 dsimp only at HM
 have step : ∀ (x y z : Int), Aside0 ((x, y, z) = J) → ∀ w', Below w.heap.size w w' → Aside0 (Post (.returned (.tuple #[.agg #[.int .i64 x, .int .i64 y], .int .i64 z])) w') := by
  intro x y z h w' hb
  rw [← HP.out, ← h.out]
  exact ⟨⟨rfl, hb⟩⟩
 have HS := Aside0.mk step
 clear step HP
 go_enter Try.func30, Try.ntmps30
 go_wp2_with fail
 go_enter Try.func50, Try.ntmps50
 go_wp2_with fail
 refine (HR1.out _).mono ?_
 rintro e w1 ⟨rfl, hb1⟩
 obtain ⟨hc1, hf1⟩ := bcell hb1
 have hz1 : w.heap.size + 5 < w1.heap.size := by have := hb1.size; simp at this; omega
 have k22 : w1.cell? ⟨w.heap.size + 1 + 1, 0, none⟩ = some (.int .i64 0) := by rw [hc1 _ _ (by simp)]; go_simp
 have k23 : w1.cell? ⟨w.heap.size + 1 + 1, 1, none⟩ = some (.int .i64 0) := by rw [hc1 _ _ (by simp)]; go_simp
 have f22 : w1.frozen? ⟨w.heap.size + 1 + 1, 0, none⟩ = false := by rw [hf1 _ _ (by simp)]; go_simp
 have f23 : w1.frozen? ⟨w.heap.size + 1 + 1, 1, none⟩ = false := by rw [hf1 _ _ (by simp)]; go_simp
 have k10 : w1.cell? ⟨w.heap.size + 1 + 1 + 1, 0, none⟩ = some (.int .i64 a) := by rw [hc1 _ _ (by simp)]; go_simp
 have k11 : w1.cell? ⟨w.heap.size + 1 + 1 + 1, 1, none⟩ = some (.int .i64 b) := by rw [hc1 _ _ (by simp)]; go_simp
 have k12 : w1.cell? ⟨w.heap.size + 1 + 1 + 1 + 1, 0, none⟩ = some (.int .i64 c) := by rw [hc1 _ _ (by simp)]; go_simp
 have k13 : w1.cell? ⟨w.heap.size + 1 + 1 + 1 + 1, 1, none⟩ = some (.int .i64 d) := by rw [hc1 _ _ (by simp)]; go_simp
 have k14 : w1.cell? ⟨w.heap.size + 1 + 1 + 1 + 1 + 1, 0, none⟩ = some (.int .i64 0) := by rw [hc1 _ _ (by simp)]; go_simp
 have k15 : w1.cell? ⟨w.heap.size + 1 + 1 + 1 + 1 + 1, 1, none⟩ = some (.int .i64 0) := by rw [hc1 _ _ (by simp)]; go_simp
 have f14 : w1.frozen? ⟨w.heap.size + 1 + 1 + 1 + 1 + 1, 0, none⟩ = false := by rw [hf1 _ _ (by simp)]; go_simp
 have f15 : w1.frozen? ⟨w.heap.size + 1 + 1 + 1 + 1 + 1, 1, none⟩ = false := by rw [hf1 _ _ (by simp)]; go_simp
 have HB1 := Aside0.mk (show Below w.heap.size w w1 from ((below_alloc (below_alloc (below_alloc (below_alloc (below_alloc (below_alloc (Below.refl _ w) _) _) _) _) _) _).trans (hb1.mono (by simp; omega))))
 clear hb1 hf1 hc1
 cases r1
 ·go_wp2_with fail
  refine bodyPost_ret (v := .tuple #[.agg #[.int .i64 0, .int .i64 0], .int .i64 2]) q2 rfl ?_
  go_wp2_with fail
  refine bodyPost_ret (v := .tuple #[.agg #[.int .i64 0, .int .i64 0], .int .i64 2]) q8 rfl ?_
  exact (HS.out 0 0 2 HJ _ q4).out
 ·go_wp2_with fail
  refine (HR2.out _).mono ?_
  rintro e w2 ⟨rfl, hb2⟩
  obtain ⟨hc2, hf2⟩ := bcell hb2
  have hz2 : w.heap.size + 5 < w2.heap.size := by have := hb2.size; omega
  replace k22 : w2.cell? ⟨w.heap.size + 1 + 1, 0, none⟩ = some (.int .i64 0) := by rw [hc2 _ _ (by omega)]; exact k22
  replace k23 : w2.cell? ⟨w.heap.size + 1 + 1, 1, none⟩ = some (.int .i64 0) := by rw [hc2 _ _ (by omega)]; exact k23
  replace f22 : w2.frozen? ⟨w.heap.size + 1 + 1, 0, none⟩ = false := by rw [hf2 _ _ (by omega)]; exact f22
  replace f23 : w2.frozen? ⟨w.heap.size + 1 + 1, 1, none⟩ = false := by rw [hf2 _ _ (by omega)]; exact f23
  replace k10 : w2.cell? ⟨w.heap.size + 1 + 1 + 1, 0, none⟩ = some (.int .i64 a) := by rw [hc2 _ _ (by omega)]; exact k10
  replace k11 : w2.cell? ⟨w.heap.size + 1 + 1 + 1, 1, none⟩ = some (.int .i64 b) := by rw [hc2 _ _ (by omega)]; exact k11
  replace k12 : w2.cell? ⟨w.heap.size + 1 + 1 + 1 + 1, 0, none⟩ = some (.int .i64 c) := by rw [hc2 _ _ (by omega)]; exact k12
  replace k13 : w2.cell? ⟨w.heap.size + 1 + 1 + 1 + 1, 1, none⟩ = some (.int .i64 d) := by rw [hc2 _ _ (by omega)]; exact k13
  replace k14 : w2.cell? ⟨w.heap.size + 1 + 1 + 1 + 1 + 1, 0, none⟩ = some (.int .i64 0) := by rw [hc2 _ _ (by omega)]; exact k14
  replace k15 : w2.cell? ⟨w.heap.size + 1 + 1 + 1 + 1 + 1, 1, none⟩ = some (.int .i64 0) := by rw [hc2 _ _ (by omega)]; exact k15
  replace f14 : w2.frozen? ⟨w.heap.size + 1 + 1 + 1 + 1 + 1, 0, none⟩ = false := by rw [hf2 _ _ (by omega)]; exact f14
  replace f15 : w2.frozen? ⟨w.heap.size + 1 + 1 + 1 + 1 + 1, 1, none⟩ = false := by rw [hf2 _ _ (by omega)]; exact f15
  have HB2 := Aside0.mk (show Below w.heap.size w w2 from HB1.out.trans (hb2.mono (by omega)))
  clear hb2 hf2 hc2 HB1 hz1
  cases r2
  ·go_wp2_with fail
   refine bodyPost_ret (v := .tuple #[.agg #[.int .i64 0, .int .i64 0], .int .i64 2]) q2 rfl ?_
   go_wp2_with fail
   refine bodyPost_ret (v := .tuple #[.agg #[.int .i64 0, .int .i64 0], .int .i64 2]) q8 rfl ?_
   exact (HS.out 0 0 2 HJ _ q5).out
  ·go_wp2_with fail
   refine (HO.out _).mono ?_
   rintro e w3 ⟨rfl, hb3⟩
   obtain ⟨hc3, hf3⟩ := bcell hb3
   have hz3 : w.heap.size + 5 < w3.heap.size := by have := hb3.size; omega
   replace k22 : w3.cell? ⟨w.heap.size + 1 + 1, 0, none⟩ = some (.int .i64 0) := by rw [hc3 _ _ (by omega)]; exact k22
   replace k23 : w3.cell? ⟨w.heap.size + 1 + 1, 1, none⟩ = some (.int .i64 0) := by rw [hc3 _ _ (by omega)]; exact k23
   replace f22 : w3.frozen? ⟨w.heap.size + 1 + 1, 0, none⟩ = false := by rw [hf3 _ _ (by omega)]; exact f22
   replace f23 : w3.frozen? ⟨w.heap.size + 1 + 1, 1, none⟩ = false := by rw [hf3 _ _ (by omega)]; exact f23
   replace k14 : w3.cell? ⟨w.heap.size + 1 + 1 + 1 + 1 + 1, 0, none⟩ = some (.int .i64 0) := by rw [hc3 _ _ (by omega)]; exact k14
   replace k15 : w3.cell? ⟨w.heap.size + 1 + 1 + 1 + 1 + 1, 1, none⟩ = some (.int .i64 0) := by rw [hc3 _ _ (by omega)]; exact k15
   replace f14 : w3.frozen? ⟨w.heap.size + 1 + 1 + 1 + 1 + 1, 0, none⟩ = false := by rw [hf3 _ _ (by omega)]; exact f14
   replace f15 : w3.frozen? ⟨w.heap.size + 1 + 1 + 1 + 1 + 1, 1, none⟩ = false := by rw [hf3 _ _ (by omega)]; exact f15
   have HB3 := Aside0.mk (show Below w.heap.size w w3 from HB2.out.trans (hb3.mono (by omega)))
   clear hb3 hf3 hc3 HB2 hz2 k10 k11 k12 k13
   go_wp2_with fail
   refine (HM.out _).mono ?_
   rintro e w4 ⟨rfl, hb4⟩
   have hb34 : Below w3.heap.size w3 w4 := Below.trans (show Below w3.heap.size w3 _ from by repeat (first | exact Below.refl _ _ | apply pw_below_drewN | apply below_alloc)) (hb4.mono (by simp))
   obtain ⟨hc4, hf4⟩ := bcell hb34
   have hz4 : w.heap.size + 5 < w4.heap.size := by have := hb34.size; omega
   replace k22 : w4.cell? ⟨w.heap.size + 1 + 1, 0, none⟩ = some (.int .i64 0) := by rw [hc4 _ _ (by omega)]; exact k22
   replace k23 : w4.cell? ⟨w.heap.size + 1 + 1, 1, none⟩ = some (.int .i64 0) := by rw [hc4 _ _ (by omega)]; exact k23
   replace f22 : w4.frozen? ⟨w.heap.size + 1 + 1, 0, none⟩ = false := by rw [hf4 _ _ (by omega)]; exact f22
   replace f23 : w4.frozen? ⟨w.heap.size + 1 + 1, 1, none⟩ = false := by rw [hf4 _ _ (by omega)]; exact f23
   replace k14 : w4.cell? ⟨w.heap.size + 1 + 1 + 1 + 1 + 1, 0, none⟩ = some (.int .i64 0) := by rw [hc4 _ _ (by omega)]; exact k14
   replace k15 : w4.cell? ⟨w.heap.size + 1 + 1 + 1 + 1 + 1, 1, none⟩ = some (.int .i64 0) := by rw [hc4 _ _ (by omega)]; exact k15
   replace f14 : w4.frozen? ⟨w.heap.size + 1 + 1 + 1 + 1 + 1, 0, none⟩ = false := by rw [hf4 _ _ (by omega)]; exact f14
   replace f15 : w4.frozen? ⟨w.heap.size + 1 + 1 + 1 + 1 + 1, 1, none⟩ = false := by rw [hf4 _ _ (by omega)]; exact f15
   have HB4 := Aside0.mk (show Below w.heap.size w w4 from HB3.out.trans (hb34.mono (by omega)))
   clear hb4 hb34 hf4 hc4 HB3 hz3
   go_wp2_with fail
   refine bodyPost_ret (v := .tuple #[.agg #[.int .i64 m1, .int .i64 m2], .int .i64 m3]) q2 rfl ?_
   go_wp2_with fail
   refine bodyPost_ret (v := .tuple #[.agg #[.int .i64 m1, .int .i64 m2], .int .i64 m3]) q8 rfl ?_
   exact (HS.out m1 m2 m3 HJ _ q6).out
def frac_Quo.f (a0_0 a0_1 a1_0 a1_1 : Int) : Option (Int × Int × Int) := if I64 a0_0 ∧ I64 a0_1 ∧ I64 a1_0 ∧ I64 a1_1 then some (joinS a0_0 a0_1 a1_0 a1_1 (wrap64 (a0_0 * a1_1)) (wrap64 (a0_1 * a1_0))) else none
theorem frac_Quo.calls (a0_0 : Int) (a0_1 : Int) (a1_0 : Int) (a1_1 : Int) (r1 : Int) (r2 : Int) (r3 : Int) (w : World) (h : frac_Quo.f a0_0 a0_1 a1_0 a1_1 = some (r1, r2, r3)) :
  Calls Try.prog 30 #[.agg #[.int .i64 a0_0, .int .i64 a0_1], .agg #[.int .i64 a1_0, .int .i64 a1_1]] w fun e w' => e = .returned (.tuple #[.agg #[.int .i64 r1, .int .i64 r2], .int .i64 r3]) ∧ Below w.heap.size w w' := by
 unfold frac_Quo.f at h
 split at h
 ·rename_i hb
  have hj := frac_Quo_any a0_0 a0_1 a1_0 a1_1 hb.1 hb.2.1 hb.2.2.1 hb.2.2.2 w
  rw [Option.some.inj h] at hj
  exact hj
 ·cases h

end Go.Proofs.Ytoenhagbgfkihaa.A
