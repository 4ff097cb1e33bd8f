-- By pack.py, a program of this session's: declarations of this seat's texts, put together for a claim.
import Derived.Test.YtelfiofnhchmbaaDoorZ7
import Derived.Test.YtelfiofnhchmbaaDoorZ14
import Derived.Test.YtelfiofnhchmbaaDoorZ16
namespace Go.Proofs.YtelfiofnhchmbaaDoor.A
open Go.RowKit Go.Proofs.YtelfiofnhchmbaaDoor.B Go.Proofs.YtelfiofnhchmbaaDoorW.PrintWords Go.Proofs.YtelfiofnhchmbaaDoorW.PrintLast Go.Proofs.YtelfiofnhchmbaaDoorW.PrintMore
theorem zq40 {P : Prop} (h : P := by (with_reducible repeat (first | refine blk_drewN ?_ _ | refine blk_drew ?_ | refine blk_alloc ?_ _)); exact BK358.out) : P := h
theorem zq41 {P : Prop} (h : P := by (with_reducible repeat (first | refine blk_drewN ?_ _ | refine blk_drew ?_ | refine blk_alloc ?_ _)); exact BK359.out) : P := h
theorem zq42 {P : Prop} (h : P := by repeat (first | (with_reducible first | exact HB.out | apply below_alloc | apply pw_below_drewN | apply below_drew1 | refine below_set ?_ GE358.out | refine below_set ?_ GE359.out) | exact HB.out)) : P := h
theorem zq77 {P : Prop} (h : P := by repeat (first | (with_reducible first | exact HB.out | exact Below.refl _ _ | apply below_alloc | apply pw_below_drewN | apply below_drew1 | refine below_set ?_ GE365.out) | exact HB.out)) : P := h
theorem zq78 {P : Prop} (h : P := by exact Kd.C_below HR0_2.out (by repeat (first | (with_reducible first | exact HB.out | apply below_alloc | apply pw_below_drewN | apply below_drew1 | refine below_set ?_ GE365.out | refine below_set ?_ GE370.out) | exact HB.out))) : P := h
theorem zq79 {P : Prop} (h : P := by (with_reducible repeat (first | refine blk_drewN ?_ _ | refine blk_drew ?_ | refine blk_alloc ?_ _)); refine blk_far ?_ NB365_370.out _; (with_reducible repeat (first | refine blk_drewN ?_ _ | refine blk_drew ?_ | refine blk_alloc ?_ _)); refine blk_far ?_ NB365_370.out _; (with_reducible repeat (first | refine blk_drewN ?_ _ | refine blk_drew ?_ | refine blk_alloc ?_ _)); exact BK365.out) : P := h
theorem zq80 {P : Prop} (h : P := by (with_reducible repeat (first | refine blk_drewN ?_ _ | refine blk_drew ?_ | refine blk_alloc ?_ _)); refine blk_put (cs := #[.int .i64 t367, .int .i64 0]) ?_ 1 _ rfl; (with_reducible repeat (first | refine blk_drewN ?_ _ | refine blk_drew ?_ | refine blk_alloc ?_ _)); refine blk_put (cs := #[.int .i64 0, .int .i64 0]) ?_ 0 _ rfl; (with_reducible repeat (first | refine blk_drewN ?_ _ | refine blk_drew ?_ | refine blk_alloc ?_ _)); exact BK370.out) : P := h
theorem zq81 {P : Prop} (h : P := by repeat (first | (with_reducible first | exact HB.out | apply below_alloc | apply pw_below_drewN | apply below_drew1 | refine below_set ?_ GE365.out | refine below_set ?_ GE370.out | refine below_set ?_ GE374.out) | exact HB.out)) : P := h
end Go.Proofs.YtelfiofnhchmbaaDoor.A
namespace Go.Proofs.YtelfiofnhchmbaaDoor.A
open Go.RowKit Go.Proofs.YtelfiofnhchmbaaDoor.B Go.Proofs.YtelfiofnhchmbaaDoorW.PrintWords Go.Proofs.YtelfiofnhchmbaaDoorW.PrintLast Go.Proofs.YtelfiofnhchmbaaDoorW.PrintMore
attribute [local go_sem] max2_int min2_int max_two min_two max_three min_three max_four min_four
set_option linter.unusedVariables false
set_option linter.unusedSimpArgs false
set_option maxHeartbeats 8000000
set_option maxRecDepth 100000
mutual
def rf24_Cut.j0 : Nat → Int → Int → Bool → Int → Bool → List (S53) → Option (Int × Int × Int)
 | 0, _, _, _, _, _, _ => none
 | k + 1, x1, x2, x20, x359000, x359001, x359002 => if x20 = true then (some (0, 0, 11)) else (rf24_Cut.l0 k x1 x2 0 x359000 x359001 x359002)
def rf24_Cut.l0 : Nat → Int → Int → Int → Int → Bool → List (S53) → Option (Int × Int × Int)
 | 0, _, _, _, _, _, _ => none
 | k + 1, x1, x2, x8, x359000, x359001, x359002 => if x8 < (x359002.length : Int) then (if 0 ≤ x8 then (if x2 ≤ (wrap64 (x1 + ((rd_T53 x359002 x8).f0))) then (some ((rd_T53 x359002 x8).f1.f0, (rd_T53 x359002 x8).f1.f1, 0)) else (rf24_Cut.l0 k x1 x2 (wrap64 (x8 + 1)) x359000 x359001 x359002)) else (none)) else (some (0, 1, 0))
end
def rf24_Cut.f (k : Nat) (a0_0 : Int) (a0_1 : Bool) (l0_2 : List (S53)) (a1 : Int) (a2 : Int) : Option (Int × Int × Int) := (rf24_Right.f k a0_0 a0_1 l0_2).bind fun t360 => (if t360 = true then ((rf24_day.f a1).bind fun t361 => (if t361 = true then ((rf24_day.f a2).bind fun t362 => (rf24_Cut.j0 k a1 a2 (!t362) a0_0 a0_1 l0_2)) else (rf24_Cut.j0 k a1 a2 true a0_0 a0_1 l0_2))) else (some (0, 0, 2)))
theorem rf24_Cut.calls (k : Nat) (a0_0 : Int) (a0_1 : Bool) (A0_2 : Option Addr) (c0_2 : Nat) (l0_2 : List (S53)) (a1 a2 r1 r2 r3 : Int) (w : World) (hr0_2 : Kd.C k53 w A0_2 l0_2.length l0_2) (hc0_2 : l0_2.length ≤ c0_2) (h : rf24_Cut.f k a0_0 a0_1 l0_2 a1 a2 = some (r1, r2, r3)) :
  Calls Tryd.prog 17 #[.agg #[.int .i64 a0_0, .bool a0_1, .slice A0_2 l0_2.length c0_2], .int .i64 a1, .int .i64 a2] w fun e w' => e = .returned (.tuple #[.agg #[.int .i64 r1, .int .i64 r2], .int .i64 r3]) ∧ Below w.heap.size w w' := by
 have hu24 := Tryd.underlying24
 have hu38 := Tryd.underlying38
 have HR0_2 := sd hr0_2
 have HC0_2 := sd hc0_2
 clear hr0_2 hc0_2
 have HB := sd (Below.refl w.heap.size w)
 have H := h
 clear h
 unfold rf24_Cut.f at H
 replace H := bdI H
 obtain ⟨t360, A4, H⟩ := H
 (try dsimp only at H)
 by_cases c5 : t360 = true
 ·subst c5
  rw [if_pos rfl] at H
  have HC6 := sd H
  clear H
  go_enter Tryd.func17, Tryd.ntmps17
  go_upto_region 3 with (first | ((with_reducible refine gate_dst (N := 3) rfl ?_); refine bxA 3 #[.int .i64 a0_0, .bool a0_1, .slice A0_2 l0_2.length c0_2] 24 ?_; intro gb358 hg w7 hbox hb; have BK358 := sd (hbox); have GW358 := gem hg HB; have GE358 := GW358; replace HB := hbm HB hb; clear hb hbox hg) | ((with_reducible refine gate_dst (N := 6) rfl ?_); refine bxA 6 #[.int .i64 0, .int .i64 0] 38 ?_; intro gb359 hg w8 hbox hb; have BK359 := sd (hbox); have GW359 := gem hg HB; have GE359 := GW359; have NB358_359 := nlm hg BK358; have NB359_358 := ngm hg BK358; replace BK358 := bkm BK358 hb; replace HB := hbm HB hb; clear hb hbox hg; have hnb9 := NB358_359.out; have hnc9 := NB359_358.out; obtain ⟨_, _, _, _, _, _⟩ := bk3 BK358) | ((with_reducible refine gate_callee (f := 13) rfl ?_); refine gL 10 Tryd.func13 #[.agg #[.int .i64 a0_0, .bool a0_1, .slice A0_2 l0_2.length c0_2]] ?_; (with_reducible refine (rf24_Right.calls k a0_0 a0_1 _ _ l0_2 true _ ?side1 ?side2 A4.out).mono ?_); (case side1 => exact zq32); (case side2 => exact HC0_2.out); rintro e w11 ⟨rfl, hb⟩; refine ⟨_, rfl, ?_⟩; replace BK358 := bkm BK358 hb; replace BK359 := bkm BK359 hb; replace HB := hbm HB hb; clear hb))
  (try simp only [Act.put, List.setIfInBounds_toArray, List.set_cons_zero, List.set_cons_succ])
  go_cut [20] (fun v20 wc => ∃ (kq : Nat) (x20_5 : Bool), v20 = .bool x20_5 ∧ Aside0 (rf24_Cut.j0 kq a1 a2 x20_5 a0_0 a0_1 l0_2 = some (r1, r2, r3)) ∧ Aside0 (kq ≤ k) ∧ Aside0 (wc.heap[gb358]? = some (.cells #[.int .i64 a0_0, .bool a0_1, (.slice A0_2 l0_2.length c0_2)] 24 (0, 0))) ∧ Aside0 (wc.heap[gb359]? = some (.cells #[.int .i64 0, .int .i64 0] 38 (0, 0))) ∧ Aside0 (Below w.heap.size w wc))
  case first =>
   have H := HC6.out
   clear HC6
   replace H := bdI H
   obtain ⟨t361, A12, H⟩ := H
   (try dsimp only at H)
   by_cases c13 : t361 = true
   ·subst c13
    rw [if_pos rfl] at H
    replace H := bdI H
    obtain ⟨t362, A14, H⟩ := H
    (try dsimp only at H)
    have H' := sd H
    clear H
    go_wp2_with (first | ((with_reducible refine gate_callee (f := 32) rfl ?_); refine gL 14 Tryd.func32 #[.int .i64 a1] ?_; (with_reducible refine (rf24_day.calls a1 true _ A12.out).mono ?_); rintro e w' ⟨rfl, ⟨nd, rfl⟩⟩; refine ⟨_, rfl, ?_⟩) | (go_at_call 32; (with_reducible refine (rf24_day.calls a2 t362 _ A14.out).mono ?_); rintro e w' ⟨rfl, ⟨nd, rfl⟩⟩))
    go_meet
    case rel => exact ⟨_, (!t362), zq1, H', ⟨by first | omega | exact Nat.le_refl _⟩, ⟨zq40⟩, ⟨zq41⟩, ⟨zq42⟩⟩
   replace c13 := Bool.eq_false_iff.mpr c13
   subst c13
   rw [if_neg Bool.false_ne_true] at H
   have H' := sd H
   clear H
   go_wp2_with (first | ((with_reducible refine gate_callee (f := 32) rfl ?_); refine gL 14 Tryd.func32 #[.int .i64 a1] ?_; (with_reducible refine (rf24_day.calls a1 false _ A12.out).mono ?_); rintro e w' ⟨rfl, ⟨nd, rfl⟩⟩; refine ⟨_, rfl, ?_⟩))
   go_meet
   case rel => exact ⟨_, (true), zq1, H', ⟨by first | omega | exact Nat.le_refl _⟩, ⟨zq40⟩, ⟨zq41⟩, ⟨zq42⟩⟩
  case rest =>
   clear HC6
   try clear c1
   try clear p2
   try clear c3
   try clear c5
   try clear c9
   try clear c13
   try clear hcz10_0
   try clear hcz10_1
   try clear hcz10_2
   try clear hfz10_0
   try clear hfz10_1
   try clear hfz10_2
   obtain ⟨kq, x20_5, rfl, HA, HJ5, BK358, BK359, HB⟩ := hcut
   cases kq with
   | zero => exact absurd HA.out (by simp [rf24_Cut.j0])
   | succ kj5 =>
    have H := HA.out
    clear HA
    simp only [rf24_Cut.j0] at H
    by_cases c15 : x20_5 = true
    ·subst c15
     rw [if_pos rfl] at H
     simp only [Option.some.injEq, Prod.mk.injEq] at H
     obtain ⟨rfl, rfl, rfl⟩ := H
     have hnb16 := NB359_358.out
     have hnc16 := NB358_359.out
     obtain ⟨_, _, _, _⟩ := bk2 BK359
     go_wp2
     refine bodyPost_ret (results_ct rfl _ _ gb359 38 #[.int .i64 0, .int .i64 0] (0, 0) _ rfl (by (with_reducible repeat (first | refine blk_drewN ?_ _ | refine blk_drew ?_ | refine blk_alloc ?_ _)); refine blk_put (cs := #[.int .i64 0, .int .i64 0]) ?_ 1 _ rfl; (with_reducible repeat (first | refine blk_drewN ?_ _ | refine blk_drew ?_ | refine blk_alloc ?_ _)); refine blk_put (cs := #[.int .i64 0, .int .i64 0]) ?_ 0 _ rfl; (with_reducible repeat (first | refine blk_drewN ?_ _ | refine blk_drew ?_ | refine blk_alloc ?_ _)); exact BK359.out) Tryd.underlying38 rfl (by kernel_rfl)) rfl ?_
     exact ⟨zq8, zq42⟩
    replace c15 := Bool.eq_false_iff.mpr c15
    subst c15
    rw [if_neg Bool.false_ne_true] at H
    have H' := sd H
    clear H
    go_wp2
    go_loopg [8] kj5 (fun kq v8 w' => ∃ (x8_2 : Int) (x360000_2 : Int) (x360001_2 : Int), v8 = .int .i64 x8_2 ∧ Aside0 (rf24_Cut.l0 kq a1 a2 x8_2 a0_0 a0_1 l0_2 = some (r1, r2, r3)) ∧ Aside0 (kq ≤ kj5) ∧ Aside0 (w'.heap[gb358]? = some (.cells #[.int .i64 a0_0, .bool a0_1, (.slice A0_2 l0_2.length c0_2)] 24 (0, 0))) ∧ Aside0 (w'.heap[gb359]? = some (.cells #[.int .i64 x360000_2, .int .i64 x360001_2] 38 (0, 0))) ∧ Aside0 (Below w.heap.size w w'))
    case atStart => exact ⟨(0), (0), (0), zq1, H', ⟨Nat.le_refl _⟩, ⟨zq40⟩, ⟨zq41⟩, ⟨zq42⟩⟩
    case round =>
     clear H'
     try clear c1
     try clear p2
     try clear c3
     try clear c5
     try clear c9
     try clear c13
     try clear c15
     try clear c16
     try clear c17
     try clear hcz10_0
     try clear hcz10_1
     try clear hcz10_2
     try clear hcz17_0
     try clear hcz17_1
     try clear hfz10_0
     try clear hfz10_1
     try clear hfz10_2
     try clear hfz17_0
     try clear hfz17_1
     try clear p2
     obtain ⟨x8_2, x360000_2, x360001_2, rfl, HA, HK2, BK358, BK359, HB⟩ := hrel
     cases gk with
     | zero => exact absurd HA.out (by simp [rf24_Cut.l0])
     | succ k2 =>
      have H := HA.out
      clear HA
      simp only [rf24_Cut.l0] at H
      replace H := ifI H
      rcases H with ⟨c18, H⟩ | ⟨c18, H⟩
      ·have c18b0 : decide (x8_2 < (l0_2.length : Int)) = true := decide_eq_true c18
       clear c18
       replace H := ifI H
       rcases H with ⟨c19, H⟩ | ⟨c19, H⟩
       ·have c19b0 : decide (0 ≤ x8_2) = true := decide_eq_true c19
        clear c19
        replace H := ifI H
        rcases H with ⟨c20, H⟩ | ⟨c20, H⟩
        ·have c20b0 : decide (a2 ≤ (wrap64 (a1 + ((rd_T53 l0_2 x8_2).f0)))) = true := decide_eq_true c20
         clear c20
         simp only [Option.some.injEq, Prod.mk.injEq] at H
         obtain ⟨rfl, rfl, rfl⟩ := H
         have hnb21 := NB358_359.out
         have hnc21 := NB359_358.out
         obtain ⟨_, _, _, _, _, _⟩ := bk3 BK358
         have p363 : 0 ≤ (x8_2 : Int) := od
         have q363 : x8_2 < (l0_2.length : Int) := od
         obtain ⟨ad363, e363, hx363_0, hx363_1, hx363_2⟩ := at_T53 HR0_2.out x8_2 p363 q363
         cases e363
         replace hx363_0 := (HB.out.cell (World.block_lt_of_cell? w _ hx363_0)).trans hx363_0
         replace hx363_1 := (HB.out.cell (World.block_lt_of_cell? w _ hx363_1)).trans hx363_1
         replace hx363_2 := (HB.out.cell (World.block_lt_of_cell? w _ hx363_2)).trans hx363_2
         replace p363 := eq_true p363
         replace q363 := eq_true q363
         have p364 : 0 ≤ (x8_2 : Int) := od
         have q364 : x8_2 < (l0_2.length : Int) := od
         obtain ⟨ad364, e364, hx364_0, hx364_1, hx364_2⟩ := at_T53 HR0_2.out x8_2 p364 q364
         obtain rfl : ad363 = ad364 := (by injection e364)
         replace hx364_0 := (HB.out.cell (World.block_lt_of_cell? w _ hx364_0)).trans hx364_0
         replace hx364_1 := (HB.out.cell (World.block_lt_of_cell? w _ hx364_1)).trans hx364_1
         replace hx364_2 := (HB.out.cell (World.block_lt_of_cell? w _ hx364_2)).trans hx364_2
         replace p364 := eq_true p364
         replace q364 := eq_true q364
         obtain ⟨_, _, _, _⟩ := bk2 BK359
         go_wp2
         refine bodyPost_ret (results_ct rfl _ _ gb359 38 #[.int .i64 ((rd_T53 l0_2 x8_2).f1.f0), .int .i64 ((rd_T53 l0_2 x8_2).f1.f1)] (0, 0) _ rfl (by (with_reducible repeat (first | refine blk_drewN ?_ _ | refine blk_drew ?_ | refine blk_alloc ?_ _)); refine blk_put (cs := #[.int .i64 ((rd_T53 l0_2 x8_2).f1.f0), .int .i64 x360001_2]) ?_ 1 _ rfl; (with_reducible repeat (first | refine blk_drewN ?_ _ | refine blk_drew ?_ | refine blk_alloc ?_ _)); refine blk_put (cs := #[.int .i64 x360000_2, .int .i64 x360001_2]) ?_ 0 _ rfl; (with_reducible repeat (first | refine blk_drewN ?_ _ | refine blk_drew ?_ | refine blk_alloc ?_ _)); exact BK359.out) Tryd.underlying38 rfl (by kernel_rfl)) rfl ?_
         exact ⟨zq8, zq42⟩
        have c20b0 : decide (a2 ≤ (wrap64 (a1 + ((rd_T53 l0_2 x8_2).f0)))) = false := decide_eq_false c20
        clear c20
        have H' := sd H
        clear H
        have hnb24 := NB358_359.out
        have hnc24 := NB359_358.out
        obtain ⟨_, _, _, _, _, _⟩ := bk3 BK358
        have p363 : 0 ≤ (x8_2 : Int) := od
        have q363 : x8_2 < (l0_2.length : Int) := od
        obtain ⟨ad363, e363, hx363_0, hx363_1, hx363_2⟩ := at_T53 HR0_2.out x8_2 p363 q363
        cases e363
        replace hx363_0 := (HB.out.cell (World.block_lt_of_cell? w _ hx363_0)).trans hx363_0
        replace hx363_1 := (HB.out.cell (World.block_lt_of_cell? w _ hx363_1)).trans hx363_1
        replace hx363_2 := (HB.out.cell (World.block_lt_of_cell? w _ hx363_2)).trans hx363_2
        replace p363 := eq_true p363
        replace q363 := eq_true q363
        go_wp2
        go_roundg k2
        case measure => have := HJ5.out; have := HK2.out; omega
        case rel => exact ⟨(wrap64 (x8_2 + 1)), (x360000_2), (x360001_2), zq1, H', ⟨by have := HJ5.out; have := HK2.out; omega⟩, ⟨zq40⟩, ⟨zq41⟩, ⟨zq42⟩⟩
       exact absurd H (by simp)
      have c18b0 : decide (x8_2 < (l0_2.length : Int)) = false := decide_eq_false c18
      clear c18
      simp only [Option.some.injEq, Prod.mk.injEq] at H
      obtain ⟨rfl, rfl, rfl⟩ := H
      have hnb26 := NB358_359.out
      have hnc26 := NB359_358.out
      obtain ⟨_, _, _, _, _, _⟩ := bk3 BK358
      obtain ⟨_, _, _, _⟩ := bk2 BK359
      go_wp2
      refine bodyPost_ret (results_ct rfl _ _ gb359 38 #[.int .i64 0, .int .i64 1] (0, 0) _ rfl (by (with_reducible repeat (first | refine blk_drewN ?_ _ | refine blk_drew ?_ | refine blk_alloc ?_ _)); refine blk_put (cs := #[.int .i64 0, .int .i64 x360001_2]) ?_ 1 _ rfl; (with_reducible repeat (first | refine blk_drewN ?_ _ | refine blk_drew ?_ | refine blk_alloc ?_ _)); refine blk_put (cs := #[.int .i64 x360000_2, .int .i64 x360001_2]) ?_ 0 _ rfl; (with_reducible repeat (first | refine blk_drewN ?_ _ | refine blk_drew ?_ | refine blk_alloc ?_ _)); exact BK359.out) Tryd.underlying38 rfl (by kernel_rfl)) rfl ?_
      exact ⟨zq8, zq42⟩
 replace c5 := Bool.eq_false_iff.mpr c5
 subst c5
 rw [if_neg Bool.false_ne_true] at H
 simp only [Option.some.injEq, Prod.mk.injEq] at H
 obtain ⟨rfl, rfl, rfl⟩ := H
 go_enter Tryd.func17, Tryd.ntmps17
 go_wp2_with (first | ((with_reducible refine gate_dst (N := 3) rfl ?_); refine bxA 3 #[.int .i64 a0_0, .bool a0_1, .slice A0_2 l0_2.length c0_2] 24 ?_; intro gb358 hg w29 hbox hb; have BK358 := sd (hbox); have GW358 := gem hg HB; have GE358 := GW358; replace HB := hbm HB hb; clear hb hbox hg) | ((with_reducible refine gate_dst (N := 6) rfl ?_); refine bxA 6 #[.int .i64 0, .int .i64 0] 38 ?_; intro gb359 hg w30 hbox hb; have BK359 := sd (hbox); have GW359 := gem hg HB; have GE359 := GW359; have NB358_359 := nlm hg BK358; have NB359_358 := ngm hg BK358; replace BK358 := bkm BK358 hb; replace HB := hbm HB hb; clear hb hbox hg; have hnb31 := NB358_359.out; have hnc31 := NB359_358.out; obtain ⟨_, _, _, _, _, _⟩ := bk3 BK358) | ((with_reducible refine gate_callee (f := 13) rfl ?_); refine gL 10 Tryd.func13 #[.agg #[.int .i64 a0_0, .bool a0_1, .slice A0_2 l0_2.length c0_2]] ?_; (with_reducible refine (rf24_Right.calls k a0_0 a0_1 _ _ l0_2 false _ ?side1 ?side2 A4.out).mono ?_); (case side1 => exact zq32); (case side2 => exact HC0_2.out); rintro e w33 ⟨rfl, hb⟩; refine ⟨_, rfl, ?_⟩; replace BK358 := bkm BK358 hb; replace BK359 := bkm BK359 hb; replace HB := hbm HB hb; clear hb; obtain ⟨_, _, _, _⟩ := bk2 BK359))
 refine bodyPost_ret (results_ct rfl _ _ gb359 38 #[.int .i64 0, .int .i64 0] (0, 0) _ rfl (by (with_reducible repeat (first | refine blk_drewN ?_ _ | refine blk_drew ?_ | refine blk_alloc ?_ _)); refine blk_put (cs := #[.int .i64 0, .int .i64 0]) ?_ 1 _ rfl; (with_reducible repeat (first | refine blk_drewN ?_ _ | refine blk_drew ?_ | refine blk_alloc ?_ _)); refine blk_put (cs := #[.int .i64 0, .int .i64 0]) ?_ 0 _ rfl; (with_reducible repeat (first | refine blk_drewN ?_ _ | refine blk_drew ?_ | refine blk_alloc ?_ _)); exact BK359.out) Tryd.underlying38 rfl (by kernel_rfl)) rfl ?_
 exact ⟨zq8, zq42⟩
end Go.Proofs.YtelfiofnhchmbaaDoor.A
namespace Go.Proofs.YtelfiofnhchmbaaDoor.A
open Go.RowKit Go.Proofs.YtelfiofnhchmbaaDoor.B Go.Proofs.YtelfiofnhchmbaaDoorW.PrintWords Go.Proofs.YtelfiofnhchmbaaDoorW.PrintLast Go.Proofs.YtelfiofnhchmbaaDoorW.PrintMore
set_option linter.unusedVariables false
set_option linter.unusedSimpArgs false
theorem ref24_Cut_loop (n : Int) (b : Bool) (l : List S53) (day paid : Int) (hd : Day day) (hlen : l.length ≤ 1000) : ∀ d i : Nat, i + d = l.length → okFrom l i d = true → Ev (fun k => rf24_Cut.l0 k day paid (i : Int) n b l) (cutFrom l day paid i d)
  | 0, i, e, _ => by
    refine Ev.step (fun k => by rw [rf24_Cut.l0]) ?_
    exact Ev.no (by omega) (Ev.is rfl)
  | d + 1, i, e, ok => by
    have hi := okAt_days (okFrom_at l (d + 1) i i ok (Nat.le_refl _) (by omega))
    unfold okFrom at ok
    rw [Bool.and_eq_true] at ok
    unfold Day at hd
    refine Ev.step (fun k => by rw [rf24_Cut.l0, rd_cut, w_succ i (by omega), show wrap64 (day + (cutAt l i).f0) = day + (cutAt l i).f0 by unfold wrap64; omega]) (Ev.yes (by omega) (Ev.yes (by omega) ?_))
    unfold cutFrom
    refine Ev.both (fun h => ?_) (fun h => ?_)
    · rw [if_pos h]; exact Ev.is rfl
    · rw [if_neg h]; exact ref24_Cut_loop n b l day paid hd hlen d (i + 1) (by omega) ok.2
theorem ref24_Cut_ev (n : Int) (b : Bool) (l : List S53) (day paid : Int) (hl : Cuts l) (hlen : l.length ≤ 1000) : Ev (fun k => rf24_Cut.f k n b l day paid) (cutS n l day paid) := by
  unfold rf24_Cut.f cutS
  refine Ev.bind (ref24_Right_ev n b l hl hlen) (Ev.both (fun h => ?_) (fun h => ?_))
  · rw [if_pos h, ref24_day_eq, ref24_day_eq]
    show Ev (fun k => if decide (Day day) = true then rf24_Cut.j0 k day paid (!decide (Day paid)) n b l else rf24_Cut.j0 k day paid true n b l) _
    refine (Ev.both (fun hd => ?_) (fun hd => ?_))
    · have hd := of_decide_eq_true hd
      by_cases hp : Day paid
      · rw [decide_eq_true hp, if_pos ⟨hd, hp⟩]
        refine Ev.step (fun k => by rw [rf24_Cut.j0]) ?_
        exact Ev.no (by decide) (ref24_Cut_loop n b l day paid hd hlen l.length 0 (by omega) (termsOk_from h))
      · rw [decide_eq_false hp, if_neg (fun x => hp x.2)]
        refine Ev.step (fun k => by rw [rf24_Cut.j0]) ?_
        exact Ev.yes rfl (Ev.is rfl)
    · have hd := of_decide_eq_false (Bool.eq_false_iff.mpr hd)
      rw [if_neg (fun x => hd x.1)]
      refine Ev.step (fun k => by rw [rf24_Cut.j0]) ?_
      exact Ev.yes rfl (Ev.is rfl)
  · rw [if_neg h]; exact Ev.is rfl
end Go.Proofs.YtelfiofnhchmbaaDoor.A
namespace Go.Proofs.YtelfiofnhchmbaaDoor.A
open Go.RowKit Go.Proofs.YtelfiofnhchmbaaDoor.B Go.Proofs.YtelfiofnhchmbaaDoorW.PrintWords Go.Proofs.YtelfiofnhchmbaaDoorW.PrintLast Go.Proofs.YtelfiofnhchmbaaDoorW.PrintMore
attribute [local go_sem] max2_int min2_int max_two min_two max_three min_three max_four min_four
set_option linter.unusedVariables false
set_option linter.unusedSimpArgs false
set_option maxHeartbeats 8000000
set_option maxRecDepth 100000
attribute [local go_sem high] eqA38
def lw24_TermsCut.f (k : Nat) (a0_0 : Int) (a0_1 : Bool) (l0_2 : List (S53)) (a1 : Int) (a2 : Int) : Option (Bool) := if (l0_2.length : Int) > 20 then ((lw24_lives.f).bind fun t366 => (some t366)) else ((terms_Cut.f k a0_0 a0_1 l0_2 a1 a2).bind fun bt367 => ((rf24_Cut.f k a0_0 a0_1 l0_2 a1 a2).bind fun bt371 => (if (bt367.1 == bt371.1 && (bt367.2.1 == bt371.2.1)) = true then (if bt367.2.2 = bt371.2.2 then ((lw24_lives.f).bind fun t375 => (some t375)) else (some false)) else (some false))))
theorem lw24_TermsCut.calls (k : Nat) (a0_0 : Int) (a0_1 : Bool) (A0_2 : Option Addr) (c0_2 : Nat) (l0_2 : List (S53)) (a1 a2 : Int) (r : Bool) (w : World) (hr0_2 : Kd.C k53 w A0_2 l0_2.length l0_2) (hc0_2 : l0_2.length ≤ c0_2) (h : lw24_TermsCut.f k a0_0 a0_1 l0_2 a1 a2 = some r) (hG : Gl w) :
  Calls Tryd.prog 5 #[.agg #[.int .i64 a0_0, .bool a0_1, .slice A0_2 l0_2.length c0_2], .int .i64 a1, .int .i64 a2] w fun e w' => e = .returned (.bool r) ∧ Below w.heap.size w w' := by
 have HG := sd hG
 clear hG
 have hu24 := Tryd.underlying24
 have hu38 := Tryd.underlying38
 have HR0_2 := sd hr0_2
 have HC0_2 := sd hc0_2
 clear hr0_2 hc0_2
 have HB := sd (Below.refl w.heap.size w)
 have H := h
 clear h
 unfold lw24_TermsCut.f at H
 replace H := ifI H
 rcases H with ⟨c4, H⟩ | ⟨c4, H⟩
 ·have c4b0 : decide (20 < (l0_2.length : Int)) = true := decide_eq_true c4
  have c4b1 : decide (20 < l0_2.length) = true := decide_eq_true (by omega)
  clear c4
  replace H := bdI H
  obtain ⟨t366, A5, H⟩ := H
  (try dsimp only at H)
  obtain rfl := Option.some.inj H
  go_enter Tryd.func5, Tryd.ntmps5
  go_wp2_with (first | ((with_reducible refine gate_dst (N := 3) rfl ?_); refine bxA 3 #[.int .i64 a0_0, .bool a0_1, .slice A0_2 l0_2.length c0_2] 24 ?_; intro gb365 hg w6 hbox hb; have BK365 := sd (hbox); have GW365 := gem hg HB; have GE365 := GW365; replace HB := hbm HB hb; clear hb hbox hg; obtain ⟨_, _, _, _, _, _⟩ := bk3 BK365) | ((with_reducible refine gate_callee (f := 9) rfl ?_); refine gL 15 Tryd.func9 #[] ?_; (with_reducible refine (lw24_lives.calls  t366 _ A5.out (gl_below HG.out zq77)).mono ?_); rintro e w8 ⟨rfl, hb⟩; refine ⟨_, rfl, ?_⟩; replace BK365 := bkm BK365 hb; replace HB := hbm HB hb; clear hb))
  go_ret
  exact ⟨zq8, by repeat (first | (with_reducible first | exact HB.out | apply below_alloc | apply pw_below_drewN | apply below_drew1 | refine below_set ?_ GE365.out) | exact HB.out)⟩
 have c4b0 : decide (20 < (l0_2.length : Int)) = false := decide_eq_false c4
 have c4b1 : decide (20 < l0_2.length) = false := decide_eq_false (by omega)
 clear c4
 replace H := bdI H
 obtain ⟨⟨t367, t368, t369⟩, A9, H⟩ := H
 (try dsimp only at H)
 replace H := bdI H
 obtain ⟨⟨t371, t372, t373⟩, A10, H⟩ := H
 (try dsimp only at H)
 replace H := ifI H
 rcases H with ⟨c11, H⟩ | ⟨c11, H⟩
 ·have c11b0 : (t367 == t371 && (t368 == t372)) = true := c11
  (try (have c11b1 : decide (t367 = t371 && (t368 == t372)) = true := by simpa using c11))
  (try (have c11b2 : (t367 == t371 && (t368 == t372)) = true := by simpa using c11))
  clear c11
  replace H := ifI H
  rcases H with ⟨c12, H⟩ | ⟨c12, H⟩
  ·obtain ⟨c12b0, c12b1⟩ := eqI c12
   clear c12
   replace H := bdI H
   obtain ⟨t375, A13, H⟩ := H
   (try dsimp only at H)
   obtain rfl := Option.some.inj H
   go_enter Tryd.func5, Tryd.ntmps5
   go_wp2_with (first | ((with_reducible refine gate_dst (N := 3) rfl ?_); refine bxA 3 #[.int .i64 a0_0, .bool a0_1, .slice A0_2 l0_2.length c0_2] 24 ?_; intro gb365 hg w14 hbox hb; have BK365 := sd (hbox); have GW365 := gem hg HB; have GE365 := GW365; replace HB := hbm HB hb; clear hb hbox hg; obtain ⟨_, _, _, _, _, _⟩ := bk3 BK365) | ((with_reducible refine gate_callee (f := 16) rfl ?_); refine gL 20 Tryd.func16 #[.agg #[.int .i64 a0_0, .bool a0_1, .slice A0_2 l0_2.length c0_2], .int .i64 a1, .int .i64 a2] ?_; (with_reducible refine (terms_Cut.calls k a0_0 a0_1 _ _ l0_2 a1 a2 t367 t368 t369 _ ?side1 ?side2 A9.out (gl_below HG.out zq77)).mono ?_); (case side1 => exact zq32); (case side2 => exact HC0_2.out); rintro e w16 ⟨rfl, hb⟩; refine ⟨_, rfl, ?_⟩; replace BK365 := bkm BK365 hb; replace HB := hbm HB hb; clear hb) | ((with_reducible refine gate_dst (N := 7) rfl ?_); refine bxA 7 #[.int .i64 0, .int .i64 0] 38 ?_; intro gb370 hg w17 hbox hb; have BK370 := sd (hbox); have GW370 := gem hg HB; have GE370 := GW370; have NB365_370 := nlm hg BK365; have NB370_365 := ngm hg BK365; replace BK365 := bkm BK365 hb; replace HB := hbm HB hb; clear hb hbox hg; have hnb18 := NB370_365.out; have hnc18 := NB365_370.out; obtain ⟨_, _, _, _⟩ := bk2 BK370; obtain ⟨_, _, _, _, _, _⟩ := bk3 BK365) | ((with_reducible refine gate_callee (f := 17) rfl ?_); refine gL 27 Tryd.func17 #[.agg #[.int .i64 a0_0, .bool a0_1, .slice A0_2 l0_2.length c0_2], .int .i64 a1, .int .i64 a2] ?_; (with_reducible refine (rf24_Cut.calls k a0_0 a0_1 _ _ l0_2 a1 a2 t371 t372 t373 _ ?side1 ?side2 A10.out).mono ?_); (case side1 => exact zq78); (case side2 => exact HC0_2.out); rintro e w21 ⟨rfl, hb⟩; refine ⟨_, rfl, ?_⟩; replace BK365 := sd (blk_below (g := gb365) (o := .cells #[.int .i64 a0_0, .bool a0_1, .slice A0_2 l0_2.length c0_2] 24 (0, 0)) zq79 hb); replace BK370 := sd (blk_below (g := gb370) (o := .cells #[.int .i64 t367, .int .i64 t368] 38 (0, 0)) zq80 hb); replace HB := hbm HB hb; clear hb) | ((with_reducible refine gate_dst (N := 9) rfl ?_); refine bxA 9 #[.int .i64 0, .int .i64 0] 38 ?_; intro gb374 hg w22 hbox hb; have BK374 := sd (hbox); have GW374 := gem hg HB; have GE374 := GW374; have NB365_374 := nlm hg BK365; have NB374_365 := ngm hg BK365; have NB370_374 := nlm hg BK370; have NB374_370 := ngm hg BK370; replace BK365 := bkm BK365 hb; replace BK370 := bkm BK370 hb; replace HB := hbm HB hb; clear hb hbox hg; have hnb23 := NB374_365.out; have hnc23 := NB365_374.out; have hnb24 := NB374_370.out; have hnc24 := NB370_374.out; obtain ⟨_, _, _, _⟩ := bk2 BK374; obtain ⟨_, _, _, _⟩ := bk2 BK370) | (go_at_call 9; (with_reducible refine (lw24_lives.calls  t375 _ A13.out (gl_below HG.out (by repeat (first | (with_reducible first | exact HB.out | exact Below.refl _ _ | apply below_alloc | apply pw_below_drewN | apply below_drew1 | refine below_set ?_ GE365.out | refine below_set ?_ GE370.out | refine below_set ?_ GE374.out) | exact HB.out)))).mono ?_); rintro e w27 ⟨rfl, hb⟩; replace BK365 := sd (blk_below (g := gb365) (o := .cells #[.int .i64 a0_0, .bool a0_1, .slice A0_2 l0_2.length c0_2] 24 (0, 0)) (by (with_reducible repeat (first | refine blk_drewN ?_ _ | refine blk_drew ?_ | refine blk_alloc ?_ _)); refine blk_far ?_ NB365_374.out _; (with_reducible repeat (first | refine blk_drewN ?_ _ | refine blk_drew ?_ | refine blk_alloc ?_ _)); refine blk_far ?_ NB365_374.out _; (with_reducible repeat (first | refine blk_drewN ?_ _ | refine blk_drew ?_ | refine blk_alloc ?_ _)); exact BK365.out) hb); replace BK370 := sd (blk_below (g := gb370) (o := .cells #[.int .i64 t367, .int .i64 t368] 38 (0, 0)) (by (with_reducible repeat (first | refine blk_drewN ?_ _ | refine blk_drew ?_ | refine blk_alloc ?_ _)); refine blk_far ?_ NB370_374.out _; (with_reducible repeat (first | refine blk_drewN ?_ _ | refine blk_drew ?_ | refine blk_alloc ?_ _)); refine blk_far ?_ NB370_374.out _; (with_reducible repeat (first | refine blk_drewN ?_ _ | refine blk_drew ?_ | refine blk_alloc ?_ _)); exact BK370.out) hb); replace BK374 := sd (blk_below (g := gb374) (o := .cells #[.int .i64 t371, .int .i64 t372] 38 (0, 0)) (by (with_reducible repeat (first | refine blk_drewN ?_ _ | refine blk_drew ?_ | refine blk_alloc ?_ _)); refine blk_put (cs := #[.int .i64 t371, .int .i64 0]) ?_ 1 _ rfl; (with_reducible repeat (first | refine blk_drewN ?_ _ | refine blk_drew ?_ | refine blk_alloc ?_ _)); refine blk_put (cs := #[.int .i64 0, .int .i64 0]) ?_ 0 _ rfl; (with_reducible repeat (first | refine blk_drewN ?_ _ | refine blk_drew ?_ | refine blk_alloc ?_ _)); exact BK374.out) hb); replace HB := hbm HB hb; clear hb))
   go_ret
   exact ⟨zq8, zq81⟩
  obtain ⟨c12b0, c12b1⟩ := neI c12
  obtain rfl := Option.some.inj H
  go_enter Tryd.func5, Tryd.ntmps5
  go_wp2_with (first | ((with_reducible refine gate_dst (N := 3) rfl ?_); refine bxA 3 #[.int .i64 a0_0, .bool a0_1, .slice A0_2 l0_2.length c0_2] 24 ?_; intro gb365 hg w28 hbox hb; have BK365 := sd (hbox); have GW365 := gem hg HB; have GE365 := GW365; replace HB := hbm HB hb; clear hb hbox hg; obtain ⟨_, _, _, _, _, _⟩ := bk3 BK365) | ((with_reducible refine gate_callee (f := 16) rfl ?_); refine gL 20 Tryd.func16 #[.agg #[.int .i64 a0_0, .bool a0_1, .slice A0_2 l0_2.length c0_2], .int .i64 a1, .int .i64 a2] ?_; (with_reducible refine (terms_Cut.calls k a0_0 a0_1 _ _ l0_2 a1 a2 t367 t368 t369 _ ?side1 ?side2 A9.out (gl_below HG.out zq77)).mono ?_); (case side1 => exact zq32); (case side2 => exact HC0_2.out); rintro e w30 ⟨rfl, hb⟩; refine ⟨_, rfl, ?_⟩; replace BK365 := bkm BK365 hb; replace HB := hbm HB hb; clear hb) | ((with_reducible refine gate_dst (N := 7) rfl ?_); refine bxA 7 #[.int .i64 0, .int .i64 0] 38 ?_; intro gb370 hg w31 hbox hb; have BK370 := sd (hbox); have GW370 := gem hg HB; have GE370 := GW370; have NB365_370 := nlm hg BK365; have NB370_365 := ngm hg BK365; replace BK365 := bkm BK365 hb; replace HB := hbm HB hb; clear hb hbox hg; have hnb32 := NB370_365.out; have hnc32 := NB365_370.out; obtain ⟨_, _, _, _⟩ := bk2 BK370; obtain ⟨_, _, _, _, _, _⟩ := bk3 BK365) | ((with_reducible refine gate_callee (f := 17) rfl ?_); refine gL 27 Tryd.func17 #[.agg #[.int .i64 a0_0, .bool a0_1, .slice A0_2 l0_2.length c0_2], .int .i64 a1, .int .i64 a2] ?_; (with_reducible refine (rf24_Cut.calls k a0_0 a0_1 _ _ l0_2 a1 a2 t371 t372 t373 _ ?side1 ?side2 A10.out).mono ?_); (case side1 => exact zq78); (case side2 => exact HC0_2.out); rintro e w35 ⟨rfl, hb⟩; refine ⟨_, rfl, ?_⟩; replace BK365 := sd (blk_below (g := gb365) (o := .cells #[.int .i64 a0_0, .bool a0_1, .slice A0_2 l0_2.length c0_2] 24 (0, 0)) zq79 hb); replace BK370 := sd (blk_below (g := gb370) (o := .cells #[.int .i64 t367, .int .i64 t368] 38 (0, 0)) zq80 hb); replace HB := hbm HB hb; clear hb) | ((with_reducible refine gate_dst (N := 9) rfl ?_); refine bxA 9 #[.int .i64 0, .int .i64 0] 38 ?_; intro gb374 hg w36 hbox hb; have BK374 := sd (hbox); have GW374 := gem hg HB; have GE374 := GW374; have NB365_374 := nlm hg BK365; have NB374_365 := ngm hg BK365; have NB370_374 := nlm hg BK370; have NB374_370 := ngm hg BK370; replace BK365 := bkm BK365 hb; replace BK370 := bkm BK370 hb; replace HB := hbm HB hb; clear hb hbox hg; have hnb37 := NB374_365.out; have hnc37 := NB365_374.out; have hnb38 := NB374_370.out; have hnc38 := NB370_374.out; obtain ⟨_, _, _, _⟩ := bk2 BK374; obtain ⟨_, _, _, _⟩ := bk2 BK370))
  go_ret
  exact ⟨zq8, zq81⟩
 have c11b0 : (t367 == t371 && (t368 == t372)) = false := by simpa using c11
 (try (have c11b1 : decide (t367 = t371 && (t368 == t372)) = false := by simpa using c11))
 (try (have c11b2 : (t367 == t371 && (t368 == t372)) = false := by simpa using c11))
 (try (have c11b3 : ¬ (t367 = t371 && (t368 == t372)) := by simpa using c11))
 clear c11
 obtain rfl := Option.some.inj H
 go_enter Tryd.func5, Tryd.ntmps5
 go_wp2_with (first | ((with_reducible refine gate_dst (N := 3) rfl ?_); refine bxA 3 #[.int .i64 a0_0, .bool a0_1, .slice A0_2 l0_2.length c0_2] 24 ?_; intro gb365 hg w41 hbox hb; have BK365 := sd (hbox); have GW365 := gem hg HB; have GE365 := GW365; replace HB := hbm HB hb; clear hb hbox hg; obtain ⟨_, _, _, _, _, _⟩ := bk3 BK365) | ((with_reducible refine gate_callee (f := 16) rfl ?_); refine gL 20 Tryd.func16 #[.agg #[.int .i64 a0_0, .bool a0_1, .slice A0_2 l0_2.length c0_2], .int .i64 a1, .int .i64 a2] ?_; (with_reducible refine (terms_Cut.calls k a0_0 a0_1 _ _ l0_2 a1 a2 t367 t368 t369 _ ?side1 ?side2 A9.out (gl_below HG.out zq77)).mono ?_); (case side1 => exact zq32); (case side2 => exact HC0_2.out); rintro e w43 ⟨rfl, hb⟩; refine ⟨_, rfl, ?_⟩; replace BK365 := bkm BK365 hb; replace HB := hbm HB hb; clear hb) | ((with_reducible refine gate_dst (N := 7) rfl ?_); refine bxA 7 #[.int .i64 0, .int .i64 0] 38 ?_; intro gb370 hg w44 hbox hb; have BK370 := sd (hbox); have GW370 := gem hg HB; have GE370 := GW370; have NB365_370 := nlm hg BK365; have NB370_365 := ngm hg BK365; replace BK365 := bkm BK365 hb; replace HB := hbm HB hb; clear hb hbox hg; have hnb45 := NB370_365.out; have hnc45 := NB365_370.out; obtain ⟨_, _, _, _⟩ := bk2 BK370; obtain ⟨_, _, _, _, _, _⟩ := bk3 BK365) | ((with_reducible refine gate_callee (f := 17) rfl ?_); refine gL 27 Tryd.func17 #[.agg #[.int .i64 a0_0, .bool a0_1, .slice A0_2 l0_2.length c0_2], .int .i64 a1, .int .i64 a2] ?_; (with_reducible refine (rf24_Cut.calls k a0_0 a0_1 _ _ l0_2 a1 a2 t371 t372 t373 _ ?side1 ?side2 A10.out).mono ?_); (case side1 => exact zq78); (case side2 => exact HC0_2.out); rintro e w48 ⟨rfl, hb⟩; refine ⟨_, rfl, ?_⟩; replace BK365 := sd (blk_below (g := gb365) (o := .cells #[.int .i64 a0_0, .bool a0_1, .slice A0_2 l0_2.length c0_2] 24 (0, 0)) zq79 hb); replace BK370 := sd (blk_below (g := gb370) (o := .cells #[.int .i64 t367, .int .i64 t368] 38 (0, 0)) zq80 hb); replace HB := hbm HB hb; clear hb) | ((with_reducible refine gate_dst (N := 9) rfl ?_); refine bxA 9 #[.int .i64 0, .int .i64 0] 38 ?_; intro gb374 hg w49 hbox hb; have BK374 := sd (hbox); have GW374 := gem hg HB; have GE374 := GW374; have NB365_374 := nlm hg BK365; have NB374_365 := ngm hg BK365; have NB370_374 := nlm hg BK370; have NB374_370 := ngm hg BK370; replace BK365 := bkm BK365 hb; replace BK370 := bkm BK370 hb; replace HB := hbm HB hb; clear hb hbox hg; have hnb50 := NB374_365.out; have hnc50 := NB365_374.out; have hnb51 := NB374_370.out; have hnc51 := NB370_374.out; obtain ⟨_, _, _, _⟩ := bk2 BK374; obtain ⟨_, _, _, _⟩ := bk2 BK370))
 go_ret
 exact ⟨zq8, zq81⟩
end Go.Proofs.YtelfiofnhchmbaaDoor.A
