-- By pack.py, a program of this session's: declarations of this seat's texts, put together for a claim.
import Derived.Test.YtelfiofnhchmbaaDoorZ13
import Derived.Test.YtelfiofnhchmbaaDoorZ15
import Derived.Test.YtelfiofnhchmbaaDoorZ16
namespace Go.Proofs.YtelfiofnhchmbaaDoor.A
open Go.RowKit Go.Proofs.YtelfiofnhchmbaaDoor.B Go.Proofs.YtelfiofnhchmbaaDoorW.PrintWords Go.Proofs.YtelfiofnhchmbaaDoorW.PrintLast Go.Proofs.YtelfiofnhchmbaaDoorW.PrintMore
theorem zq84 {P : Prop} (h : P := by (with_reducible repeat (first | refine blk_drewN ?_ _ | refine blk_drew ?_ | refine blk_alloc ?_ _)); exact BK489.out) : P := h
theorem zq85 {P : Prop} (h : P := by repeat (first | (with_reducible first | exact HB.out | apply below_alloc | apply pw_below_drewN | apply below_drew1 | refine below_set ?_ GE489.out) | exact HB.out)) : P := h
theorem zq86 {P : Prop} (h : P := by (with_reducible repeat (first | refine blk_drewN ?_ _ | refine blk_drew ?_ | refine blk_alloc ?_ _)); refine blk_far ?_ NB489_498.out _; (with_reducible repeat (first | refine blk_drewN ?_ _ | refine blk_drew ?_ | refine blk_alloc ?_ _)); refine blk_far ?_ NB489_498.out _; (with_reducible repeat (first | refine blk_drewN ?_ _ | refine blk_drew ?_ | refine blk_alloc ?_ _)); exact BK489.out) : P := h
theorem zq87 {P : Prop} (h : P := by (with_reducible repeat (first | refine blk_drewN ?_ _ | refine blk_drew ?_ | refine blk_alloc ?_ _)); refine blk_far ?_ NB494_498.out _; (with_reducible repeat (first | refine blk_drewN ?_ _ | refine blk_drew ?_ | refine blk_alloc ?_ _)); refine blk_far ?_ NB494_498.out _; (with_reducible repeat (first | refine blk_drewN ?_ _ | refine blk_drew ?_ | refine blk_alloc ?_ _)); exact BK494.out) : P := h
theorem zq88 {P : Prop} (h : P := by (with_reducible repeat (first | refine blk_drewN ?_ _ | refine blk_drew ?_ | refine blk_alloc ?_ _)); refine blk_put (cs := #[.int .i64 t495, .int .i64 0]) ?_ 1 _ rfl; (with_reducible repeat (first | refine blk_drewN ?_ _ | refine blk_drew ?_ | refine blk_alloc ?_ _)); refine blk_put (cs := #[.int .i64 0, .int .i64 0]) ?_ 0 _ rfl; (with_reducible repeat (first | refine blk_drewN ?_ _ | refine blk_drew ?_ | refine blk_alloc ?_ _)); exact BK498.out) : P := h
theorem zq89 {P : Prop} (h : P := by repeat (first | (with_reducible first | exact HB.out | apply below_alloc | apply pw_below_drewN | apply below_drew1 | refine below_set ?_ GE489.out | refine below_set ?_ GE494.out | refine below_set ?_ GE498.out) | exact HB.out)) : P := h
theorem zq90 {P : Prop} (h : P := by repeat (first | (with_reducible first | exact HB.out | exact Below.refl _ _ | apply below_alloc | apply pw_below_drewN | apply below_drew1 | refine below_set ?_ GE489.out | refine below_set ?_ GE494.out | refine below_set ?_ GE498.out) | exact HB.out)) : P := h
theorem first_of_lt {K L : Nat} (h : first K < first L) : K < L := by
  by_cases e : K < L
  · exact e
  · have := first_le (show L ≤ K by omega); omega
end Go.Proofs.YtelfiofnhchmbaaDoor.A
namespace Go.Proofs.YtelfiofnhchmbaaDoor.A
open Go.RowKit Go.Proofs.YtelfiofnhchmbaaDoor.B Go.Proofs.YtelfiofnhchmbaaDoorW.PrintWords Go.Proofs.YtelfiofnhchmbaaDoorW.PrintLast Go.Proofs.YtelfiofnhchmbaaDoorW.PrintMore
set_option linter.unusedVariables false
set_option linter.unusedSimpArgs false
theorem meS_le {n m : Int} (hn : Day n) (hm : Day m) (h : n ≤ m) : meS n ≤ meS m := by
  obtain ⟨a, b, c⟩ := mIx_is hn
  obtain ⟨a', b', c'⟩ := mIx_is hm
  have := first_of_lt (show first (mIx n) < first (mIx m + 1) by omega)
  have := first_le (show mIx n + 1 ≤ mIx m + 1 by omega)
  unfold meS; omega
end Go.Proofs.YtelfiofnhchmbaaDoor.A
namespace Go.Proofs.YtelfiofnhchmbaaDoor.A
open Go.RowKit Go.Proofs.YtelfiofnhchmbaaDoor.B Go.Proofs.YtelfiofnhchmbaaDoorW.PrintWords Go.Proofs.YtelfiofnhchmbaaDoorW.PrintLast Go.Proofs.YtelfiofnhchmbaaDoorW.PrintMore
attribute [local go_sem] max2_int min2_int max_two min_two max_three min_three max_four min_four
set_option linter.unusedVariables false
set_option linter.unusedSimpArgs false
set_option maxHeartbeats 8000000
set_option maxRecDepth 100000
mutual
def lw24_TermsLater.j0 : Nat → Int → Int → Bool → Int → Bool → List (S53) → Option (Bool)
 | 0, _, _, _, _, _, _ => none
 | k + 1, x1, x2, x34, x490000, x490001, x490002 => if x34 = true then ((lw24_lives.f).bind fun t490 => (some t490)) else ((terms_Cut.f k x490000 x490001 x490002 x1 x2).bind fun bt491 => ((terms_Cut.f k x490000 x490001 x490002 x1 (wrap64 (x2 + 1))).bind fun bt495 => (if bt491.2.2 = bt495.2.2 then (if bt491.2.2 = 0 then (lw24_TermsLater.j1 k x1 (decide ((wrap64 (bt491.1 * bt495.2.1)) < (wrap64 (bt495.1 * bt491.2.1)))) x490000 x490001 x490002) else (lw24_TermsLater.j1 k x1 false x490000 x490001 x490002)) else (lw24_TermsLater.j1 k x1 true x490000 x490001 x490002))))
def lw24_TermsLater.j1 : Nat → Int → Bool → Int → Bool → List (S53) → Option (Bool)
 | 0, _, _, _, _, _ => none
 | k + 1, x1, x70, x490000, x490001, x490002 => if x70 = true then (some false) else ((terms_Due.f k x490000 x490001 x490002 x1).bind fun bt499 => ((terms_Due.f k x490000 x490001 x490002 (wrap64 (x1 + 1))).bind fun bt501 => (if bt499.2 = 0 then (if bt501.2 = 0 then (if bt499.1 > bt501.1 then (some false) else (if bt499.1 < x1 then (some false) else ((lw24_lives.f).bind fun t503 => (some t503)))) else ((lw24_lives.f).bind fun t504 => (some t504))) else (if bt501.2 = 0 then (some false) else ((lw24_lives.f).bind fun t505 => (some t505))))))
end
def lw24_TermsLater.f (k : Nat) (a0_0 : Int) (a0_1 : Bool) (l0_2 : List (S53)) (a1 : Int) (a2 : Int) : Option (Bool) := if (l0_2.length : Int) > 20 then (lw24_TermsLater.j0 k a1 a2 true a0_0 a0_1 l0_2) else (if a1 < 0 then (lw24_TermsLater.j0 k a1 a2 true a0_0 a0_1 l0_2) else (if a1 ≥ 109572 then (lw24_TermsLater.j0 k a1 a2 true a0_0 a0_1 l0_2) else (if a2 < 0 then (lw24_TermsLater.j0 k a1 a2 true a0_0 a0_1 l0_2) else (lw24_TermsLater.j0 k a1 a2 (decide (a2 ≥ 109572)) a0_0 a0_1 l0_2))))
theorem lw24_TermsLater.calls (k : Nat) (a0_0 : Int) (a0_1 : Bool) (A0_2 : Option Addr) (c0_2 : Nat) (l0_2 : List (S53)) (a1 a2 : Int) (r : Bool) (w : World) (hr0_2 : Kd.C k53 w A0_2 l0_2.length l0_2) (hc0_2 : l0_2.length ≤ c0_2) (h : lw24_TermsLater.f k a0_0 a0_1 l0_2 a1 a2 = some r) (hG : Gl w) :
  Calls Tryd.prog 8 #[.agg #[.int .i64 a0_0, .bool a0_1, .slice A0_2 l0_2.length c0_2], .int .i64 a1, .int .i64 a2] w fun e w' => e = .returned (.bool r) ∧ Below w.heap.size w w' := by
 have HG := sd hG
 clear hG
 have hu24 := Tryd.underlying24
 have hu38 := Tryd.underlying38
 have HR0_2 := sd hr0_2
 have HC0_2 := sd hc0_2
 clear hr0_2 hc0_2
 have HB := sd (Below.refl w.heap.size w)
 have H := h
 clear h
 unfold lw24_TermsLater.f at H
 have HC4 := sd H
 clear H
 go_enter Tryd.func8, Tryd.ntmps8
 go_upto_region 1 with (first | ((with_reducible refine gate_dst (N := 3) rfl ?_); refine bxA 3 #[.int .i64 a0_0, .bool a0_1, .slice A0_2 l0_2.length c0_2] 24 ?_; intro gb489 hg w5 hbox hb; have BK489 := sd (hbox); have GW489 := gem hg HB; have GE489 := GW489; replace HB := hbm HB hb; clear hb hbox hg))
 (try simp only [Act.put, List.setIfInBounds_toArray, List.set_cons_zero, List.set_cons_succ])
 go_cut [34] (fun v34 wc => ∃ (kq : Nat) (x34_3 : Bool), v34 = .bool x34_3 ∧ Aside0 (lw24_TermsLater.j0 kq a1 a2 x34_3 a0_0 a0_1 l0_2 = some r) ∧ Aside0 (kq ≤ k) ∧ Aside0 (wc.heap[gb489]? = some (.cells #[.int .i64 a0_0, .bool a0_1, (.slice A0_2 l0_2.length c0_2)] 24 (0, 0))) ∧ Aside0 (Below w.heap.size w wc))
 case first =>
  have H := HC4.out
  clear HC4
  replace H := ifI H
  rcases H with ⟨c6, H⟩ | ⟨c6, H⟩
  ·have c6b0 : decide (20 < (l0_2.length : Int)) = true := decide_eq_true c6
   have c6b1 : decide (20 < l0_2.length) = true := decide_eq_true (by omega)
   clear c6
   (first | rw [c6b0] | (simp only [i64_w, i32_w]; rw [c6b0]) | skip)
   have H' := sd H
   clear H
   obtain ⟨_, _, _, _, _, _⟩ := bk3 BK489
   go_wp2
   go_meet
   case rel => exact ⟨_, (true), zq1, H', ⟨by first | omega | exact Nat.le_refl _⟩, ⟨zq84⟩, ⟨zq85⟩⟩
  have c6b0 : decide (20 < (l0_2.length : Int)) = false := decide_eq_false c6
  have c6b1 : decide (20 < l0_2.length) = false := decide_eq_false (by omega)
  clear c6
  (first | rw [c6b0] | (simp only [i64_w, i32_w]; rw [c6b0]) | skip)
  replace H := ifI H
  rcases H with ⟨c8, H⟩ | ⟨c8, H⟩
  ·have c8b0 : decide (a1 < 0) = true := decide_eq_true c8
   clear c8
   have H' := sd H
   clear H
   obtain ⟨_, _, _, _, _, _⟩ := bk3 BK489
   go_wp2
   go_meet
   case rel => exact ⟨_, (true), zq1, H', ⟨by first | omega | exact Nat.le_refl _⟩, ⟨zq84⟩, ⟨zq85⟩⟩
  have c8b0 : decide (a1 < 0) = false := decide_eq_false c8
  clear c8
  replace H := ifI H
  rcases H with ⟨c10, H⟩ | ⟨c10, H⟩
  ·have c10b0 : decide (109572 ≤ a1) = true := decide_eq_true c10
   clear c10
   have H' := sd H
   clear H
   obtain ⟨_, _, _, _, _, _⟩ := bk3 BK489
   go_wp2
   go_meet
   case rel => exact ⟨_, (true), zq1, H', ⟨by first | omega | exact Nat.le_refl _⟩, ⟨zq84⟩, ⟨zq85⟩⟩
  have c10b0 : decide (109572 ≤ a1) = false := decide_eq_false c10
  clear c10
  replace H := ifI H
  rcases H with ⟨c12, H⟩ | ⟨c12, H⟩
  ·have c12b0 : decide (a2 < 0) = true := decide_eq_true c12
   clear c12
   have H' := sd H
   clear H
   obtain ⟨_, _, _, _, _, _⟩ := bk3 BK489
   go_wp2
   go_meet
   case rel => exact ⟨_, (true), zq1, H', ⟨by first | omega | exact Nat.le_refl _⟩, ⟨zq84⟩, ⟨zq85⟩⟩
  have c12b0 : decide (a2 < 0) = false := decide_eq_false c12
  clear c12
  have H' := sd H
  clear H
  obtain ⟨_, _, _, _, _, _⟩ := bk3 BK489
  go_wp2
  go_meet
  case rel => exact ⟨_, (decide (a2 ≥ 109572)), zq1, H', ⟨by first | omega | exact Nat.le_refl _⟩, ⟨zq84⟩, ⟨zq85⟩⟩
 case rest =>
  clear HC4
  try clear c1
  try clear p2
  try clear c6
  try clear c6b0
  try clear c6b1
  try clear c8
  try clear c8b0
  try clear c10
  try clear c10b0
  try clear c12
  try clear c12b0
  try clear hcz11_0
  try clear hcz11_1
  try clear hcz11_2
  try clear hcz13_0
  try clear hcz13_1
  try clear hcz13_2
  try clear hcz14_0
  try clear hcz14_1
  try clear hcz14_2
  try clear hcz7_0
  try clear hcz7_1
  try clear hcz7_2
  try clear hcz9_0
  try clear hcz9_1
  try clear hcz9_2
  try clear hfz11_0
  try clear hfz11_1
  try clear hfz11_2
  try clear hfz13_0
  try clear hfz13_1
  try clear hfz13_2
  try clear hfz14_0
  try clear hfz14_1
  try clear hfz14_2
  try clear hfz7_0
  try clear hfz7_1
  try clear hfz7_2
  try clear hfz9_0
  try clear hfz9_1
  try clear hfz9_2
  obtain ⟨kq, x34_3, rfl, HA, HJ3, BK489, HB⟩ := hcut
  cases kq with
  | zero => exact absurd HA.out (by simp [lw24_TermsLater.j0])
  | succ kj3 =>
   have H := HA.out
   clear HA
   simp only [lw24_TermsLater.j0] at H
   by_cases c15 : x34_3 = true
   ·subst c15
    rw [if_pos rfl] at H
    replace H := bdI H
    obtain ⟨t490, A16, H⟩ := H
    (try dsimp only at H)
    obtain rfl := Option.some.inj H
    go_wp2_with (first | ((with_reducible refine gate_callee (f := 9) rfl ?_); refine gL 35 Tryd.func9 #[] ?_; (with_reducible refine (lw24_lives.calls  t490 _ A16.out (gl_below HG.out (by repeat (first | (with_reducible first | exact HB.out | exact Below.refl _ _ | apply below_alloc | apply pw_below_drewN | apply below_drew1 | refine below_set ?_ GE489.out) | exact HB.out)))).mono ?_); rintro e w17 ⟨rfl, hb⟩; refine ⟨_, rfl, ?_⟩; replace BK489 := bkm BK489 hb; replace HB := hbm HB hb; clear hb))
    go_ret
    exact ⟨zq8, zq85⟩
   replace c15 := Bool.eq_false_iff.mpr c15
   subst c15
   rw [if_neg Bool.false_ne_true] at H
   replace H := bdI H
   obtain ⟨⟨t491, t492, t493⟩, A18, H⟩ := H
   (try dsimp only at H)
   replace H := bdI H
   obtain ⟨⟨t495, t496, t497⟩, A19, H⟩ := H
   (try dsimp only at H)
   have HC20 := sd H
   clear H
   obtain ⟨_, _, _, _, _, _⟩ := bk3 BK489
   go_upto_region 5 with (first | ((with_reducible refine gate_callee (f := 16) rfl ?_); refine gL 40 Tryd.func16 #[.agg #[.int .i64 a0_0, .bool a0_1, .slice A0_2 l0_2.length c0_2], .int .i64 a1, .int .i64 a2] ?_; (with_reducible refine (terms_Cut.calls kj3 a0_0 a0_1 _ _ l0_2 a1 a2 t491 t492 t493 _ ?side1 ?side2 A18.out (gl_below HG.out (by repeat (first | (with_reducible first | exact HB.out | exact Below.refl _ _ | apply below_alloc | apply pw_below_drewN | apply below_drew1 | refine below_set ?_ GE489.out) | exact HB.out)))).mono ?_); (case side1 => exact zq32); (case side2 => exact HC0_2.out); rintro e w22 ⟨rfl, hb⟩; refine ⟨_, rfl, ?_⟩; replace BK489 := bkm BK489 hb; replace HB := hbm HB hb; clear hb) | ((with_reducible refine gate_dst (N := 7) rfl ?_); refine bxA 7 #[.int .i64 0, .int .i64 0] 38 ?_; intro gb494 hg w23 hbox hb; have BK494 := sd (hbox); have GW494 := gem hg HB; have GE494 := GW494; have NB489_494 := nlm hg BK489; have NB494_489 := ngm hg BK489; replace BK489 := bkm BK489 hb; replace HB := hbm HB hb; clear hb hbox hg; have hnb24 := NB494_489.out; have hnc24 := NB489_494.out; obtain ⟨_, _, _, _⟩ := bk2 BK494; obtain ⟨_, _, _, _, _, _⟩ := bk3 BK489) | ((with_reducible refine gate_callee (f := 16) rfl ?_); refine gL 48 Tryd.func16 #[.agg #[.int .i64 a0_0, .bool a0_1, .slice A0_2 l0_2.length c0_2], .int .i64 a1, .int .i64 (wrap64 (a2 + 1))] ?_; (with_reducible refine (terms_Cut.calls kj3 a0_0 a0_1 _ _ l0_2 a1 (wrap64 (a2 + 1)) t495 t496 t497 _ ?side1 ?side2 A19.out (gl_below HG.out (by repeat (first | (with_reducible first | exact HB.out | exact Below.refl _ _ | apply below_alloc | apply pw_below_drewN | apply below_drew1 | refine below_set ?_ GE489.out | refine below_set ?_ GE494.out) | exact HB.out)))).mono ?_); (case side1 => exact (by exact Kd.C_below HR0_2.out (by repeat (first | (with_reducible first | exact HB.out | apply below_alloc | apply pw_below_drewN | apply below_drew1 | refine below_set ?_ GE489.out | refine below_set ?_ GE494.out) | exact HB.out)))); (case side2 => exact HC0_2.out); rintro e w27 ⟨rfl, hb⟩; refine ⟨_, rfl, ?_⟩; replace BK489 := sd (blk_below (g := gb489) (o := .cells #[.int .i64 a0_0, .bool a0_1, .slice A0_2 l0_2.length c0_2] 24 (0, 0)) (by (with_reducible repeat (first | refine blk_drewN ?_ _ | refine blk_drew ?_ | refine blk_alloc ?_ _)); refine blk_far ?_ NB489_494.out _; (with_reducible repeat (first | refine blk_drewN ?_ _ | refine blk_drew ?_ | refine blk_alloc ?_ _)); refine blk_far ?_ NB489_494.out _; (with_reducible repeat (first | refine blk_drewN ?_ _ | refine blk_drew ?_ | refine blk_alloc ?_ _)); exact BK489.out) hb); replace BK494 := sd (blk_below (g := gb494) (o := .cells #[.int .i64 t491, .int .i64 t492] 38 (0, 0)) (by (with_reducible repeat (first | refine blk_drewN ?_ _ | refine blk_drew ?_ | refine blk_alloc ?_ _)); refine blk_put (cs := #[.int .i64 t491, .int .i64 0]) ?_ 1 _ rfl; (with_reducible repeat (first | refine blk_drewN ?_ _ | refine blk_drew ?_ | refine blk_alloc ?_ _)); refine blk_put (cs := #[.int .i64 0, .int .i64 0]) ?_ 0 _ rfl; (with_reducible repeat (first | refine blk_drewN ?_ _ | refine blk_drew ?_ | refine blk_alloc ?_ _)); exact BK494.out) hb); replace HB := hbm HB hb; clear hb) | ((with_reducible refine gate_dst (N := 9) rfl ?_); refine bxA 9 #[.int .i64 0, .int .i64 0] 38 ?_; intro gb498 hg w28 hbox hb; have BK498 := sd (hbox); have GW498 := gem hg HB; have GE498 := GW498; have NB489_498 := nlm hg BK489; have NB498_489 := ngm hg BK489; have NB494_498 := nlm hg BK494; have NB498_494 := ngm hg BK494; replace BK489 := bkm BK489 hb; replace BK494 := bkm BK494 hb; replace HB := hbm HB hb; clear hb hbox hg; have hnb29 := NB498_489.out; have hnc29 := NB489_498.out; have hnb30 := NB498_494.out; have hnc30 := NB494_498.out; obtain ⟨_, _, _, _⟩ := bk2 BK498))
   (try simp only [Act.put, List.setIfInBounds_toArray, List.set_cons_zero, List.set_cons_succ])
   go_cut [70] (fun v70 wc => ∃ (kq : Nat) (x70_19 : Bool), v70 = .bool x70_19 ∧ Aside0 (lw24_TermsLater.j1 kq a1 x70_19 a0_0 a0_1 l0_2 = some r) ∧ Aside0 (kq ≤ kj3) ∧ Aside0 (wc.heap[gb489]? = some (.cells #[.int .i64 a0_0, .bool a0_1, (.slice A0_2 l0_2.length c0_2)] 24 (0, 0))) ∧ Aside0 (wc.heap[gb494]? = some (.cells #[.int .i64 t491, .int .i64 t492] 38 (0, 0))) ∧ Aside0 (wc.heap[gb498]? = some (.cells #[.int .i64 t495, .int .i64 t496] 38 (0, 0))) ∧ Aside0 (Below w.heap.size w wc))
   case first =>
    have H := HC20.out
    clear HC20
    replace H := ifI H
    rcases H with ⟨c32, H⟩ | ⟨c32, H⟩
    ·obtain ⟨c32b0, c32b1⟩ := eqI c32
     clear c32
     (first | rw [c32b0] | (simp only [i64_w, i32_w]; rw [c32b0]) | skip)
     replace H := ifI H
     rcases H with ⟨c33, H⟩ | ⟨c33, H⟩
     ·obtain ⟨c33b0, c33b1⟩ := eqI c33
      clear c33
      have H' := sd H
      clear H
      have hnb34 := NB494_489.out
      have hnc34 := NB489_494.out
      have hnb35 := NB494_498.out
      have hnc35 := NB498_494.out
      obtain ⟨_, _, _, _⟩ := bk2 BK494
      have hnb37 := NB498_489.out
      have hnc37 := NB489_498.out
      obtain ⟨_, _, _, _⟩ := bk2 BK498
      go_wp2
      go_meet
      case rel => exact ⟨_, (decide ((wrap64 (t491 * t496)) < (wrap64 (t495 * t492)))), zq1, H', ⟨zq45⟩, ⟨zq86⟩, ⟨zq87⟩, ⟨zq88⟩, ⟨zq89⟩⟩
     obtain ⟨c33b0, c33b1⟩ := neI c33
     have H' := sd H
     clear H
     go_wp2
     go_meet
     case rel => exact ⟨_, (false), zq1, H', ⟨zq45⟩, ⟨zq86⟩, ⟨zq87⟩, ⟨zq88⟩, ⟨zq89⟩⟩
    obtain ⟨c32b0, c32b1⟩ := neI c32
    (first | rw [c32b0] | (simp only [i64_w, i32_w]; rw [c32b0]) | skip)
    have H' := sd H
    clear H
    go_wp2
    go_meet
    case rel => exact ⟨_, (true), zq1, H', ⟨zq45⟩, ⟨zq86⟩, ⟨zq87⟩, ⟨zq88⟩, ⟨zq89⟩⟩
   case rest =>
    clear HC20
    try clear c1
    try clear c2
    try clear p2
    try clear c3
    try clear c6
    try clear c6b0
    try clear c6b1
    try clear p6
    try clear c8
    try clear c8b0
    try clear c9
    try clear c10
    try clear c10b0
    try clear c12
    try clear c12b0
    try clear c15
    try clear c16
    try clear c24
    try clear c29
    try clear c30
    try clear c32
    try clear c32b0
    try clear c32b1
    try clear c33
    try clear c33b0
    try clear c33b1
    try clear c34
    try clear c35
    try clear c37
    try clear hcz11_0
    try clear hcz11_1
    try clear hcz11_2
    try clear hcz13_0
    try clear hcz13_1
    try clear hcz13_2
    try clear hcz14_0
    try clear hcz14_1
    try clear hcz14_2
    try clear hcz21_0
    try clear hcz21_1
    try clear hcz21_2
    try clear hcz25_0
    try clear hcz25_1
    try clear hcz26_0
    try clear hcz26_1
    try clear hcz26_2
    try clear hcz31_0
    try clear hcz31_1
    try clear hcz36_0
    try clear hcz36_1
    try clear hcz38_0
    try clear hcz38_1
    try clear hcz7_0
    try clear hcz7_1
    try clear hcz7_2
    try clear hcz9_0
    try clear hcz9_1
    try clear hcz9_2
    try clear hfz11_0
    try clear hfz11_1
    try clear hfz11_2
    try clear hfz13_0
    try clear hfz13_1
    try clear hfz13_2
    try clear hfz14_0
    try clear hfz14_1
    try clear hfz14_2
    try clear hfz21_0
    try clear hfz21_1
    try clear hfz21_2
    try clear hfz25_0
    try clear hfz25_1
    try clear hfz26_0
    try clear hfz26_1
    try clear hfz26_2
    try clear hfz31_0
    try clear hfz31_1
    try clear hfz36_0
    try clear hfz36_1
    try clear hfz38_0
    try clear hfz38_1
    try clear hfz7_0
    try clear hfz7_1
    try clear hfz7_2
    try clear hfz9_0
    try clear hfz9_1
    try clear hfz9_2
    try clear p2
    obtain ⟨kq, x70_19, rfl, HA, HJ19, BK489, BK494, BK498, HB⟩ := hcut
    cases kq with
    | zero => exact absurd HA.out (by simp [lw24_TermsLater.j1])
    | succ kj19 =>
     have H := HA.out
     clear HA
     simp only [lw24_TermsLater.j1] at H
     by_cases c39 : x70_19 = true
     ·subst c39
      rw [if_pos rfl] at H
      obtain rfl := Option.some.inj H
      go_wp2
      go_ret
      exact ⟨zq8, zq89⟩
     replace c39 := Bool.eq_false_iff.mpr c39
     subst c39
     rw [if_neg Bool.false_ne_true] at H
     replace H := bdI H
     obtain ⟨⟨t499, t500⟩, A40, H⟩ := H
     (try dsimp only at H)
     replace H := bdI H
     obtain ⟨⟨t501, t502⟩, A41, H⟩ := H
     (try dsimp only at H)
     replace H := ifI H
     rcases H with ⟨c42, H⟩ | ⟨c42, H⟩
     ·obtain ⟨c42b0, c42b1⟩ := eqI c42
      clear c42
      replace H := ifI H
      rcases H with ⟨c43, H⟩ | ⟨c43, H⟩
      ·obtain ⟨c43b0, c43b1⟩ := eqI c43
       clear c43
       replace H := ifI H
       rcases H with ⟨c44, H⟩ | ⟨c44, H⟩
       ·have c44b0 : decide (t501 < t499) = true := decide_eq_true c44
        clear c44
        obtain rfl := Option.some.inj H
        have hnb45 := NB489_494.out
        have hnc45 := NB494_489.out
        have hnb46 := NB489_498.out
        have hnc46 := NB498_489.out
        obtain ⟨_, _, _, _, _, _⟩ := bk3 BK489
        go_wp2_with (first | ((with_reducible refine gate_callee (f := 14) rfl ?_); refine gL 74 Tryd.func14 #[.agg #[.int .i64 a0_0, .bool a0_1, .slice A0_2 l0_2.length c0_2], .int .i64 a1] ?_; (with_reducible refine (terms_Due.calls kj19 a0_0 a0_1 _ _ l0_2 a1 t499 t500 _ ?side1 ?side2 A40.out (gl_below HG.out zq90)).mono ?_); (case side1 => exact zq32); (case side2 => exact HC0_2.out); rintro e w48 ⟨rfl, hb⟩; refine ⟨_, rfl, ?_⟩; replace BK489 := bkm BK489 hb; replace BK494 := bkm BK494 hb; replace BK498 := bkm BK498 hb; replace HB := hbm HB hb; clear hb; obtain ⟨_, _, _, _, _, _⟩ := bk3 BK489) | ((with_reducible refine gate_callee (f := 14) rfl ?_); refine gL 81 Tryd.func14 #[.agg #[.int .i64 a0_0, .bool a0_1, .slice A0_2 l0_2.length c0_2], .int .i64 (wrap64 (a1 + 1))] ?_; (with_reducible refine (terms_Due.calls kj19 a0_0 a0_1 _ _ l0_2 (wrap64 (a1 + 1)) t501 t502 _ ?side1 ?side2 A41.out (gl_below HG.out zq90)).mono ?_); (case side1 => exact zq32); (case side2 => exact HC0_2.out); rintro e w50 ⟨rfl, hb⟩; refine ⟨_, rfl, ?_⟩; replace BK489 := bkm BK489 hb; replace BK494 := bkm BK494 hb; replace BK498 := bkm BK498 hb; replace HB := hbm HB hb; clear hb))
        go_ret
        exact ⟨zq8, zq89⟩
       have c44b0 : decide (t501 < t499) = false := decide_eq_false c44
       clear c44
       replace H := ifI H
       rcases H with ⟨c51, H⟩ | ⟨c51, H⟩
       ·have c51b0 : decide (t499 < a1) = true := decide_eq_true c51
        clear c51
        obtain rfl := Option.some.inj H
        have hnb52 := NB489_494.out
        have hnc52 := NB494_489.out
        have hnb53 := NB489_498.out
        have hnc53 := NB498_489.out
        obtain ⟨_, _, _, _, _, _⟩ := bk3 BK489
        go_wp2_with (first | ((with_reducible refine gate_callee (f := 14) rfl ?_); refine gL 74 Tryd.func14 #[.agg #[.int .i64 a0_0, .bool a0_1, .slice A0_2 l0_2.length c0_2], .int .i64 a1] ?_; (with_reducible refine (terms_Due.calls kj19 a0_0 a0_1 _ _ l0_2 a1 t499 t500 _ ?side1 ?side2 A40.out (gl_below HG.out zq90)).mono ?_); (case side1 => exact zq32); (case side2 => exact HC0_2.out); rintro e w55 ⟨rfl, hb⟩; refine ⟨_, rfl, ?_⟩; replace BK489 := bkm BK489 hb; replace BK494 := bkm BK494 hb; replace BK498 := bkm BK498 hb; replace HB := hbm HB hb; clear hb; obtain ⟨_, _, _, _, _, _⟩ := bk3 BK489) | ((with_reducible refine gate_callee (f := 14) rfl ?_); refine gL 81 Tryd.func14 #[.agg #[.int .i64 a0_0, .bool a0_1, .slice A0_2 l0_2.length c0_2], .int .i64 (wrap64 (a1 + 1))] ?_; (with_reducible refine (terms_Due.calls kj19 a0_0 a0_1 _ _ l0_2 (wrap64 (a1 + 1)) t501 t502 _ ?side1 ?side2 A41.out (gl_below HG.out zq90)).mono ?_); (case side1 => exact zq32); (case side2 => exact HC0_2.out); rintro e w57 ⟨rfl, hb⟩; refine ⟨_, rfl, ?_⟩; replace BK489 := bkm BK489 hb; replace BK494 := bkm BK494 hb; replace BK498 := bkm BK498 hb; replace HB := hbm HB hb; clear hb))
        go_ret
        exact ⟨zq8, zq89⟩
       have c51b0 : decide (t499 < a1) = false := decide_eq_false c51
       clear c51
       replace H := bdI H
       obtain ⟨t503, A58, H⟩ := H
       (try dsimp only at H)
       obtain rfl := Option.some.inj H
       have hnb59 := NB489_494.out
       have hnc59 := NB494_489.out
       have hnb60 := NB489_498.out
       have hnc60 := NB498_489.out
       obtain ⟨_, _, _, _, _, _⟩ := bk3 BK489
       go_wp2_with (first | ((with_reducible refine gate_callee (f := 14) rfl ?_); refine gL 74 Tryd.func14 #[.agg #[.int .i64 a0_0, .bool a0_1, .slice A0_2 l0_2.length c0_2], .int .i64 a1] ?_; (with_reducible refine (terms_Due.calls kj19 a0_0 a0_1 _ _ l0_2 a1 t499 t500 _ ?side1 ?side2 A40.out (gl_below HG.out zq90)).mono ?_); (case side1 => exact zq32); (case side2 => exact HC0_2.out); rintro e w62 ⟨rfl, hb⟩; refine ⟨_, rfl, ?_⟩; replace BK489 := bkm BK489 hb; replace BK494 := bkm BK494 hb; replace BK498 := bkm BK498 hb; replace HB := hbm HB hb; clear hb; obtain ⟨_, _, _, _, _, _⟩ := bk3 BK489) | ((with_reducible refine gate_callee (f := 14) rfl ?_); refine gL 81 Tryd.func14 #[.agg #[.int .i64 a0_0, .bool a0_1, .slice A0_2 l0_2.length c0_2], .int .i64 (wrap64 (a1 + 1))] ?_; (with_reducible refine (terms_Due.calls kj19 a0_0 a0_1 _ _ l0_2 (wrap64 (a1 + 1)) t501 t502 _ ?side1 ?side2 A41.out (gl_below HG.out zq90)).mono ?_); (case side1 => exact zq32); (case side2 => exact HC0_2.out); rintro e w64 ⟨rfl, hb⟩; refine ⟨_, rfl, ?_⟩; replace BK489 := bkm BK489 hb; replace BK494 := bkm BK494 hb; replace BK498 := bkm BK498 hb; replace HB := hbm HB hb; clear hb) | ((with_reducible refine gate_callee (f := 9) rfl ?_); refine gL 108 Tryd.func9 #[] ?_; (with_reducible refine (lw24_lives.calls  t503 _ A58.out (gl_below HG.out zq90)).mono ?_); rintro e w65 ⟨rfl, hb⟩; refine ⟨_, rfl, ?_⟩; replace BK489 := bkm BK489 hb; replace BK494 := bkm BK494 hb; replace BK498 := bkm BK498 hb; replace HB := hbm HB hb; clear hb))
       go_ret
       exact ⟨zq8, zq89⟩
      obtain ⟨c43b0, c43b1⟩ := neI c43
      replace H := bdI H
      obtain ⟨t504, A66, H⟩ := H
      (try dsimp only at H)
      obtain rfl := Option.some.inj H
      have hnb67 := NB489_494.out
      have hnc67 := NB494_489.out
      have hnb68 := NB489_498.out
      have hnc68 := NB498_489.out
      obtain ⟨_, _, _, _, _, _⟩ := bk3 BK489
      go_wp2_with (first | ((with_reducible refine gate_callee (f := 14) rfl ?_); refine gL 74 Tryd.func14 #[.agg #[.int .i64 a0_0, .bool a0_1, .slice A0_2 l0_2.length c0_2], .int .i64 a1] ?_; (with_reducible refine (terms_Due.calls kj19 a0_0 a0_1 _ _ l0_2 a1 t499 t500 _ ?side1 ?side2 A40.out (gl_below HG.out zq90)).mono ?_); (case side1 => exact zq32); (case side2 => exact HC0_2.out); rintro e w70 ⟨rfl, hb⟩; refine ⟨_, rfl, ?_⟩; replace BK489 := bkm BK489 hb; replace BK494 := bkm BK494 hb; replace BK498 := bkm BK498 hb; replace HB := hbm HB hb; clear hb; obtain ⟨_, _, _, _, _, _⟩ := bk3 BK489) | ((with_reducible refine gate_callee (f := 14) rfl ?_); refine gL 81 Tryd.func14 #[.agg #[.int .i64 a0_0, .bool a0_1, .slice A0_2 l0_2.length c0_2], .int .i64 (wrap64 (a1 + 1))] ?_; (with_reducible refine (terms_Due.calls kj19 a0_0 a0_1 _ _ l0_2 (wrap64 (a1 + 1)) t501 t502 _ ?side1 ?side2 A41.out (gl_below HG.out zq90)).mono ?_); (case side1 => exact zq32); (case side2 => exact HC0_2.out); rintro e w72 ⟨rfl, hb⟩; refine ⟨_, rfl, ?_⟩; replace BK489 := bkm BK489 hb; replace BK494 := bkm BK494 hb; replace BK498 := bkm BK498 hb; replace HB := hbm HB hb; clear hb) | ((with_reducible refine gate_callee (f := 9) rfl ?_); refine gL 108 Tryd.func9 #[] ?_; (with_reducible refine (lw24_lives.calls  t504 _ A66.out (gl_below HG.out zq90)).mono ?_); rintro e w73 ⟨rfl, hb⟩; refine ⟨_, rfl, ?_⟩; replace BK489 := bkm BK489 hb; replace BK494 := bkm BK494 hb; replace BK498 := bkm BK498 hb; replace HB := hbm HB hb; clear hb))
      go_ret
      exact ⟨zq8, zq89⟩
     obtain ⟨c42b0, c42b1⟩ := neI c42
     replace H := ifI H
     rcases H with ⟨c74, H⟩ | ⟨c74, H⟩
     ·obtain ⟨c74b0, c74b1⟩ := eqI c74
      clear c74
      obtain rfl := Option.some.inj H
      have hnb75 := NB489_494.out
      have hnc75 := NB494_489.out
      have hnb76 := NB489_498.out
      have hnc76 := NB498_489.out
      obtain ⟨_, _, _, _, _, _⟩ := bk3 BK489
      go_wp2_with (first | ((with_reducible refine gate_callee (f := 14) rfl ?_); refine gL 74 Tryd.func14 #[.agg #[.int .i64 a0_0, .bool a0_1, .slice A0_2 l0_2.length c0_2], .int .i64 a1] ?_; (with_reducible refine (terms_Due.calls kj19 a0_0 a0_1 _ _ l0_2 a1 t499 t500 _ ?side1 ?side2 A40.out (gl_below HG.out zq90)).mono ?_); (case side1 => exact zq32); (case side2 => exact HC0_2.out); rintro e w78 ⟨rfl, hb⟩; refine ⟨_, rfl, ?_⟩; replace BK489 := bkm BK489 hb; replace BK494 := bkm BK494 hb; replace BK498 := bkm BK498 hb; replace HB := hbm HB hb; clear hb; obtain ⟨_, _, _, _, _, _⟩ := bk3 BK489) | ((with_reducible refine gate_callee (f := 14) rfl ?_); refine gL 81 Tryd.func14 #[.agg #[.int .i64 a0_0, .bool a0_1, .slice A0_2 l0_2.length c0_2], .int .i64 (wrap64 (a1 + 1))] ?_; (with_reducible refine (terms_Due.calls kj19 a0_0 a0_1 _ _ l0_2 (wrap64 (a1 + 1)) t501 t502 _ ?side1 ?side2 A41.out (gl_below HG.out zq90)).mono ?_); (case side1 => exact zq32); (case side2 => exact HC0_2.out); rintro e w80 ⟨rfl, hb⟩; refine ⟨_, rfl, ?_⟩; replace BK489 := bkm BK489 hb; replace BK494 := bkm BK494 hb; replace BK498 := bkm BK498 hb; replace HB := hbm HB hb; clear hb))
      go_ret
      exact ⟨zq8, zq89⟩
     obtain ⟨c74b0, c74b1⟩ := neI c74
     replace H := bdI H
     obtain ⟨t505, A81, H⟩ := H
     (try dsimp only at H)
     obtain rfl := Option.some.inj H
     have hnb82 := NB489_494.out
     have hnc82 := NB494_489.out
     have hnb83 := NB489_498.out
     have hnc83 := NB498_489.out
     obtain ⟨_, _, _, _, _, _⟩ := bk3 BK489
     go_wp2_with (first | ((with_reducible refine gate_callee (f := 14) rfl ?_); refine gL 74 Tryd.func14 #[.agg #[.int .i64 a0_0, .bool a0_1, .slice A0_2 l0_2.length c0_2], .int .i64 a1] ?_; (with_reducible refine (terms_Due.calls kj19 a0_0 a0_1 _ _ l0_2 a1 t499 t500 _ ?side1 ?side2 A40.out (gl_below HG.out zq90)).mono ?_); (case side1 => exact zq32); (case side2 => exact HC0_2.out); rintro e w85 ⟨rfl, hb⟩; refine ⟨_, rfl, ?_⟩; replace BK489 := bkm BK489 hb; replace BK494 := bkm BK494 hb; replace BK498 := bkm BK498 hb; replace HB := hbm HB hb; clear hb; obtain ⟨_, _, _, _, _, _⟩ := bk3 BK489) | ((with_reducible refine gate_callee (f := 14) rfl ?_); refine gL 81 Tryd.func14 #[.agg #[.int .i64 a0_0, .bool a0_1, .slice A0_2 l0_2.length c0_2], .int .i64 (wrap64 (a1 + 1))] ?_; (with_reducible refine (terms_Due.calls kj19 a0_0 a0_1 _ _ l0_2 (wrap64 (a1 + 1)) t501 t502 _ ?side1 ?side2 A41.out (gl_below HG.out zq90)).mono ?_); (case side1 => exact zq32); (case side2 => exact HC0_2.out); rintro e w87 ⟨rfl, hb⟩; refine ⟨_, rfl, ?_⟩; replace BK489 := bkm BK489 hb; replace BK494 := bkm BK494 hb; replace BK498 := bkm BK498 hb; replace HB := hbm HB hb; clear hb) | ((with_reducible refine gate_callee (f := 9) rfl ?_); refine gL 108 Tryd.func9 #[] ?_; (with_reducible refine (lw24_lives.calls  t505 _ A81.out (gl_below HG.out zq90)).mono ?_); rintro e w88 ⟨rfl, hb⟩; refine ⟨_, rfl, ?_⟩; replace BK489 := bkm BK489 hb; replace BK494 := bkm BK494 hb; replace BK498 := bkm BK498 hb; replace HB := hbm HB hb; clear hb))
     go_ret
     exact ⟨zq8, zq89⟩
end Go.Proofs.YtelfiofnhchmbaaDoor.A
namespace Go.Proofs.YtelfiofnhchmbaaDoor.A
open Go.RowKit Go.Proofs.YtelfiofnhchmbaaDoor.B Go.Proofs.YtelfiofnhchmbaaDoorW.PrintWords Go.Proofs.YtelfiofnhchmbaaDoorW.PrintLast Go.Proofs.YtelfiofnhchmbaaDoorW.PrintMore
set_option linter.unusedVariables false
theorem frac_trans {a b c d e f : Int} (hd : 0 < d) (hf : 0 ≤ f) (hb : 0 ≤ b) (h1 : a * d ≤ c * b) (h2 : c * f ≤ e * d) : a * f ≤ e * b := by
  have x1 := Int.mul_le_mul_of_nonneg_right h1 hf
  have x2 := Int.mul_le_mul_of_nonneg_right h2 hb
  refine Int.le_of_mul_le_mul_right (a := d) ?_ hd
  rw [Int.mul_right_comm a f d, Int.mul_right_comm e b d]
  rw [Int.mul_right_comm c b f] at x1
  exact Int.le_trans x1 x2
theorem due_later (n : Int) (b : Bool) (l : List S53) (d : Int) (h0 : 0 ≤ d) (h1 : d < 109572) :
    ((dueS n b l d).2 = 0 → (dueS n b l (d + 1)).2 = 0 → (dueS n b l d).1 ≤ (dueS n b l (d + 1)).1 ∧ d ≤ (dueS n b l d).1) ∧ ((dueS n b l d).2 ≠ 0 → (dueS n b l (d + 1)).2 ≠ 0) := by
  unfold dueS
  by_cases h : termsOk n l = true
  · have hn := termsOk_net h
    have a : Day d := ⟨h0, by omega⟩
    have a' : Day (d + 1) := ⟨by omega, by omega⟩
    rw [if_pos h, if_pos h, if_pos a, if_pos a']
    have hb : baseS b d ≤ baseS b (d + 1) ∧ d ≤ baseS b d := by
      unfold baseS
      have x := meS_in a
      have y := meS_le a a' (by omega)
      cases b
      · rw [if_neg (by decide), if_neg (by decide)]; omega
      · rw [if_pos rfl, if_pos rfl]; omega
    by_cases c : baseS b d + n ≤ 109572
    · rw [if_pos c]
      refine ⟨fun _ e => ?_, fun e => absurd rfl e⟩
      by_cases c' : baseS b (d + 1) + n ≤ 109572
      · rw [if_pos c']
        show baseS b d + n ≤ baseS b (d + 1) + n ∧ d ≤ baseS b d + n
        omega
      · rw [if_neg c'] at e
        exact absurd e (by decide)
    · rw [if_neg c, if_neg (show ¬ baseS b (d + 1) + n ≤ 109572 by omega)]
      exact ⟨fun e => absurd e (by decide), fun e => e⟩
  · rw [if_neg h, if_neg h]
    exact ⟨fun e => absurd e (by decide), fun e => e⟩
theorem shareS_in {a b : Int} (h : shareS a b = true) : 0 < a ∧ a ≤ 1000000 ∧ 1 ≤ b ∧ b ≤ 1000000 := by
  unfold shareS at h
  rw [Bool.and_eq_true, Bool.and_eq_true, decide_eq_true_eq, decide_eq_true_eq] at h
  have := right_bounds h.1
  omega
theorem okAt_share {l : List S53} {j : Nat} (h : okAt l j = true) : 0 < (cutAt l j).f1.f0 ∧ (cutAt l j).f1.f0 ≤ 1000000 ∧ 1 ≤ (cutAt l j).f1.f1 ∧ (cutAt l j).f1.f1 ≤ 1000000 := by
  unfold okAt at h
  rw [Bool.and_eq_true, Bool.and_eq_true] at h
  exact shareS_in h.2.1
theorem okAt_next {l : List S53} {j : Nat} (h : okAt l (j + 1) = true) : (cutAt l (j + 1)).f1.f0 * (cutAt l j).f1.f1 < (cutAt l j).f1.f0 * (cutAt l (j + 1)).f1.f1 := by
  unfold okAt at h
  rw [Bool.and_eq_true, Bool.and_eq_true, decide_eq_false (by omega), Bool.false_or] at h
  have := h.2.2
  unfold nextS at this
  rw [Bool.and_eq_true, Bool.and_eq_true, decide_eq_true_eq (p := (cutAt l (j + 1)).f1.f0 * (cutAt l (j + 1 - 1)).f1.f1 < (cutAt l (j + 1 - 1)).f1.f0 * (cutAt l (j + 1)).f1.f1)] at this
  exact this.2.2
theorem cutFrom_in (l : List S53) (day paid : Int) : ∀ d i, okFrom l i d = true → (cutFrom l day paid i d).2.2 = 0 ∧ 0 ≤ (cutFrom l day paid i d).1 ∧ (cutFrom l day paid i d).1 ≤ 1000000 ∧ 1 ≤ (cutFrom l day paid i d).2.1 ∧ (cutFrom l day paid i d).2.1 ≤ 1000000
  | 0, i, _ => ⟨rfl, (by decide : (0 : Int) ≤ 0), (by decide : (0 : Int) ≤ 1000000), (by decide : (1 : Int) ≤ 1), (by decide : (1 : Int) ≤ 1000000)⟩
  | d + 1, i, h => by
    unfold okFrom at h
    rw [Bool.and_eq_true] at h
    have hs := okAt_share h.1
    unfold cutFrom
    split
    · exact ⟨rfl, by show 0 ≤ (cutAt l i).f1.f0; omega, by show (cutAt l i).f1.f0 ≤ 1000000; omega, hs.2.2.1, hs.2.2.2⟩
    · exact cutFrom_in l day paid d (i + 1) h.2
theorem cutFrom_le (l : List S53) (day paid : Int) : ∀ d i, okAt l i = true → okFrom l (i + 1) d = true → (cutFrom l day paid (i + 1) d).1 * (cutAt l i).f1.f1 ≤ (cutAt l i).f1.f0 * (cutFrom l day paid (i + 1) d).2.1
  | 0, i, h, _ => by
    have hs := okAt_share h
    show 0 * (cutAt l i).f1.f1 ≤ (cutAt l i).f1.f0 * 1
    omega
  | d + 1, i, h, h' => by
    unfold okFrom at h'
    rw [Bool.and_eq_true] at h'
    have hn := okAt_next h'.1
    have hs := okAt_share h
    have hs' := okAt_share h'.1
    unfold cutFrom
    split
    · exact Int.le_of_lt hn
    · have r := cutFrom_in l day paid d (i + 1 + 1) h'.2
      exact frac_trans (by omega) (by omega) (by omega) (cutFrom_le l day paid d (i + 1) h'.1 h'.2) (Int.le_of_lt hn)
theorem cutFrom_later (l : List S53) (day paid : Int) : ∀ d i, okFrom l i d = true → (cutFrom l day (paid + 1) i d).1 * (cutFrom l day paid i d).2.1 ≤ (cutFrom l day paid i d).1 * (cutFrom l day (paid + 1) i d).2.1
  | 0, i, _ => Int.le_refl _
  | d + 1, i, h => by
    unfold okFrom at h
    rw [Bool.and_eq_true] at h
    unfold cutFrom
    by_cases c : paid ≤ day + (cutAt l i).f0
    · rw [if_pos c]
      by_cases c' : paid + 1 ≤ day + (cutAt l i).f0
      · rw [if_pos c']; exact Int.le_refl _
      · rw [if_neg c']; exact cutFrom_le l day (paid + 1) d i h.1 h.2
    · rw [if_neg c, if_neg (by omega)]
      exact cutFrom_later l day paid d (i + 1) h.2
theorem wmul (a b : Int) (ha : 0 ≤ a ∧ a ≤ 1000000) (hb : 0 ≤ b ∧ b ≤ 1000000) : wrap64 (a * b) = a * b := by
  have h0 := Int.mul_nonneg ha.1 hb.1
  have h1 : a * b ≤ 1000000 * 1000000 := Int.mul_le_mul ha.2 hb.2 hb.1 (by omega)
  generalize a * b = c at *
  unfold wrap64; omega
theorem cut_later (n : Int) (l : List S53) (day paid : Int) (hd : 0 ≤ day ∧ day < 109572) (hp : 0 ≤ paid ∧ paid < 109572) :
    (cutS n l day paid).2.2 = (cutS n l day (paid + 1)).2.2 ∧ ((cutS n l day paid).2.2 = 0 → ¬ wrap64 ((cutS n l day paid).1 * (cutS n l day (paid + 1)).2.1) < wrap64 ((cutS n l day (paid + 1)).1 * (cutS n l day paid).2.1)) := by
  unfold cutS
  by_cases h : termsOk n l = true
  · have e1 : Day day ∧ Day paid := ⟨⟨hd.1, by omega⟩, hp.1, by omega⟩
    have e2 : Day day ∧ Day (paid + 1) := ⟨⟨hd.1, by omega⟩, by omega, by omega⟩
    rw [if_pos h, if_pos h, if_pos e1, if_pos e2]
    have o := termsOk_from h
    have r1 := cutFrom_in l day paid _ _ o
    have r2 := cutFrom_in l day (paid + 1) _ _ o
    have r := cutFrom_later l day paid _ _ o
    refine ⟨r1.1.trans r2.1.symm, fun _ => ?_⟩
    rw [wmul _ _ (by omega) (by omega), wmul _ _ (by omega) (by omega)]
    exact Int.not_lt.mpr r
  · rw [if_neg h, if_neg h]
    exact ⟨rfl, fun e => absurd e (by decide)⟩
end Go.Proofs.YtelfiofnhchmbaaDoor.A
