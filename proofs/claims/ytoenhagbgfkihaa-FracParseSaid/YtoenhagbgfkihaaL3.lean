/- The fractions' reference computes what the program computes: sums, differences, products, quotients, order. -/
import Derived.Test.YtoenhagbgfkihaaAx13
import Derived.Test.YtoenhagbgfkihaaL2
namespace Go.Proofs.Ytoenhagbgfkihaa.A
open Go.RowKit Go.Proofs.Ytoenhagbgfkihaa.B Go.Proofs.YtoenhagbgfkihaaW.PrintWords Go.Proofs.YtoenhagbgfkihaaW.PrintLast Go.Proofs.YtoenhagbgfkihaaW.PrintMore
set_option linter.unusedVariables false
set_option linter.unusedSimpArgs false
theorem ref03_Add_ev (a b c d : Int) (ha : I64 a) (hb : I64 b) (hc : I64 c) (hd : I64 d) : Ev (fun k => accountingref03_Add.f k a b c d) (joinS a b c d (wrap64 (wrap64 (a * d) + wrap64 (c * b))) (wrap64 (b * d))) := by
  unfold accountingref03_Add.f joinS
  refine Ev.bind (ref03_Right_ev a b ha hb) (Ev.both (fun h1 => ?_) (fun h1 => Ev.is (by rw [if_neg h1])))
  rw [if_pos h1]
  refine Ev.bind (ref03_Right_ev c d hc hd) (Ev.both (fun h2 => ?_) (fun h2 => Ev.is (by rw [if_neg h2])))
  rw [if_pos h2]
  exact Ev.bind (ref03_Make_ev _ _ (i64_wrap _) (i64_wrap _)) (Ev.is rfl)
theorem ref03_Mul_ev (a b c d : Int) (ha : I64 a) (hb : I64 b) (hc : I64 c) (hd : I64 d) : Ev (fun k => accountingref03_Mul.f k a b c d) (joinS a b c d (wrap64 (a * c)) (wrap64 (b * d))) := by
  unfold accountingref03_Mul.f joinS
  refine Ev.bind (ref03_Right_ev a b ha hb) (Ev.both (fun h1 => ?_) (fun h1 => Ev.is (by rw [if_neg h1])))
  rw [if_pos h1]
  refine Ev.bind (ref03_Right_ev c d hc hd) (Ev.both (fun h2 => ?_) (fun h2 => Ev.is (by rw [if_neg h2])))
  rw [if_pos h2]
  exact Ev.bind (ref03_Make_ev _ _ (i64_wrap _) (i64_wrap _)) (Ev.is rfl)
theorem ref03_Quo_ev (a b c d : Int) (ha : I64 a) (hb : I64 b) (hc : I64 c) (hd : I64 d) : Ev (fun k => accountingref03_Quo.f k a b c d) (joinS a b c d (wrap64 (a * d)) (wrap64 (b * c))) := by
  unfold accountingref03_Quo.f joinS
  refine Ev.bind (ref03_Right_ev a b ha hb) (Ev.both (fun h1 => ?_) (fun h1 => Ev.is (by rw [if_neg h1])))
  rw [if_pos h1]
  refine Ev.bind (ref03_Right_ev c d hc hd) (Ev.both (fun h2 => ?_) (fun h2 => Ev.is (by rw [if_neg h2])))
  rw [if_pos h2]
  refine Ev.both (fun h3 => Ev.is ?_) (fun h3 => Ev.bind (ref03_Make_ev _ _ (i64_wrap _) (i64_wrap _)) (Ev.is rfl))
  rw [h3, Int.mul_zero, show wrap64 0 = 0 by unfold wrap64; omega]
  unfold makeS
  rw [if_pos rfl]
theorem ref03_Sub_ev (a b c d : Int) (ha : I64 a) (hb : I64 b) (hc : I64 c) (hd : I64 d) : Ev (fun k => accountingref03_Sub.f k a b c d) (joinS a b c d (wrap64 (wrap64 (a * d) - wrap64 (c * b))) (wrap64 (b * d))) := by
  unfold accountingref03_Sub.f
  refine Ev.bind (ref03_Right_ev c d hc hd) (Ev.both (fun h1 => ?_) (fun h1 => Ev.is ?_))
  · have bd := right_bounds h1
    unfold accountingref03_Neg.f
    simp only [Option.bind_some]
    have hw : wrap64 (-c) = -c := wrap64_in (by unfold I64; omega)
    rw [hw]
    refine Ev.bind (ref03_Add_ev a b (-c) d ha hb (by unfold I64; omega) hd) (Ev.is ?_)
    show joinS _ _ _ _ _ _ = _
    unfold joinS
    rw [right_neg]
    by_cases h2 : rightS a b = true
    · have be := right_bounds h2
      rw [if_pos h2, if_pos h2, if_pos h1, if_pos h1]
      congr 2
      rw [wrap_mul (x := -c) (y := b) (by omega) (by omega), wrap_mul (x := c) (y := b) (by omega) (by omega), Int.neg_mul, Int.sub_eq_add_neg]
    · rw [if_neg h2, if_neg h2]
  · unfold joinS; rw [if_neg h1]; split <;> rfl
theorem ref03_Cmp_ev (a b c d : Int) (ha : I64 a) (hb : I64 b) (hc : I64 c) (hd : I64 d) : Ev (fun k => accountingref03_Cmp.f k a b c d) (if rightS a b = true ∧ rightS c d = true then cmpS a d c b else 0) := by
  unfold accountingref03_Cmp.f
  have e : ∀ x y : Int, Ev (fun k => accountingref03_Cmp.j0 k x y true) 0 := fun x y => Ev.step (fun k => by rw [accountingref03_Cmp.j0]) (Ev.yes rfl (Ev.is rfl))
  refine Ev.bind (ref03_Right_ev a b ha hb) (Ev.both (fun h1 => ?_) (fun h1 => by rw [if_neg (fun h => h1 h.1)]; exact e _ _))
  refine Ev.bind (ref03_Right_ev c d hc hd) (Ev.both (fun h2 => ?_) (fun h2 => by rw [if_neg (fun h => h2 h.2)]; exact e _ _))
  have b1 := right_bounds h1
  have b2 := right_bounds h2
  rw [if_pos ⟨h1, h2⟩, wrap_mul (x := a) (y := d) (by omega) (by omega), wrap_mul (x := c) (y := b) (by omega) (by omega)]
  refine Ev.step (fun k => by rw [accountingref03_Cmp.j0]) ?_
  unfold cmpS
  refine Ev.both (fun h => Ev.is ?_) (fun h => Ev.both (fun h3 => Ev.is (by rw [if_pos h3])) (fun h3 => Ev.is ?_))
  · rw [beq_iff_eq] at h; rw [if_neg (by omega), if_neg (by omega)]
  · rw [beq_iff_eq] at h; rw [if_neg h3, if_pos (by omega)]
end Go.Proofs.Ytoenhagbgfkihaa.A
