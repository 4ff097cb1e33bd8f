-- By pack.py, a program of this session's: declarations of this seat's texts, put together for a claim.
import Derived.Test.YtelfiofnhchmbaaDoorZ11
import Derived.Test.YtelfiofnhchmbaaDoorZ17
namespace Go.Proofs.YtelfiofnhchmbaaDoor.A
open Go.RowKit Go.Proofs.YtelfiofnhchmbaaDoor.B Go.Proofs.YtelfiofnhchmbaaDoorW.PrintWords Go.Proofs.YtelfiofnhchmbaaDoorW.PrintLast Go.Proofs.YtelfiofnhchmbaaDoorW.PrintMore
attribute [local go_sem] max2_int min2_int max_two min_two max_three min_three max_four min_four
set_option linter.unusedVariables false
set_option linter.unusedSimpArgs false
set_option maxHeartbeats 8000000
set_option maxRecDepth 100000
theorem rf03_Parse.calls (k : Nat) (a0 : ByteArray) (r1 r2 r3 : Int) (w : World) (h : rf03_Parse.f k a0 = some (r1, r2, r3)) :
  Calls Tryd.prog 40 #[.string a0] w fun e w' => e = .returned (.tuple #[.agg #[.int .i64 r1, .int .i64 r2], .int .i64 r3]) ∧ Below w.heap.size w w' := by
 have hu38 := Tryd.underlying38
 have HB := sd (Below.refl w.heap.size w)
 have H := h
 clear h
 unfold rf03_Parse.f at H
 have HC2 := sd H
 clear H
 go_enter Tryd.func40, Tryd.ntmps40
 go_upto_region 2 with (first | ((with_reducible refine gate_dst (N := 2) rfl ?_); (try (refine gate_guard (by rfl) ?_; dsimp only)); refine bxA 2 #[.int .i64 0, .int .i64 0] 38 ?_; intro gb409 hg w3 hbox hb; have BK409 := sd (hbox); have GW409 := gem hg HB; have GE409 := GW409; replace HB := hbm HB hb; clear hb hbox hg))
 (try simp only [Act.put, List.setIfInBounds_toArray, List.set_cons_zero, List.set_cons_succ])
 go_cut [19] (fun v19 wc => ∃ (kq : Nat) (x19_1 : Bool), v19 = .bool x19_1 ∧ Aside0 (rf03_Parse.j0 kq a0 a0 x19_1 = some (r1, r2, r3)) ∧ Aside0 (kq ≤ k) ∧ Aside0 (wc.heap[gb409]? = some (.cells #[.int .i64 0, .int .i64 0] 38 (0, 0))) ∧ Aside0 (Below w.heap.size w wc))
 case first =>
  have H := HC2.out
  clear HC2
  replace H := ifI H
  rcases H with ⟨c4, H⟩ | ⟨c4, H⟩
  ·have c4b0 : decide (0 < (a0.size : Int)) = true := decide_eq_true c4
   have c4b1 : decide (0 < a0.size) = true := decide_eq_true (by omega)
   clear c4
   (first | rw [c4b0] | (simp only [i64_w, i32_w]; rw [c4b0]) | skip)
   replace H := ifI H
   rcases H with ⟨c5, H⟩ | ⟨c5, H⟩
   ·have c5b0 : decide (0 < (a0.size : Int)) = true := decide_eq_true c5
    have c5b1 : decide (0 < a0.size) = true := decide_eq_true (by omega)
    clear c5
    have H' := sd H
    clear H
    have p6 : 0 ≤ (0 : Int) := (by omega)
    have q6 : 0 < a0.size := (by have : (0 : Int) < (a0.size : Int) := od; omega)
    have hx6 : ∀ h : 0 < a0.size, ((a0[0]'h).toNat : Int) = bt a0 0 := bt_at a0 0
    clear p6
    have qi6 : (0 < (a0.size : Int)) = True := eq_true (od)
    replace q6 := eq_true q6
    go_wp2
    go_meet
    case rel => exact ⟨_, (((bt a0 0) == 45)), zq1, H', ⟨by first | omega | exact Nat.le_refl _⟩, ⟨zq63⟩, ⟨zq64⟩⟩
   exact absurd H (by simp)
  have c4b0 : decide (0 < (a0.size : Int)) = false := decide_eq_false c4
  have c4b1 : decide (0 < a0.size) = false := decide_eq_false (by omega)
  clear c4
  (first | rw [c4b0] | (simp only [i64_w, i32_w]; rw [c4b0]) | skip)
  have H' := sd H
  clear H
  go_wp2
  go_meet
  case rel => exact ⟨_, (false), zq1, H', ⟨by first | omega | exact Nat.le_refl _⟩, ⟨zq63⟩, ⟨zq64⟩⟩
 case rest =>
  clear HC2
  try clear p2
  try clear c4
  try clear c4b0
  try clear c4b1
  try clear c5
  try clear c5b0
  try clear c5b1
  try clear p6
  try clear q6
  try clear hx6
  try clear qi6
  try clear p6
  try clear q6
  obtain ⟨kq, x19_1, rfl, HA, HJ1, BK409, HB⟩ := hcut
  cases kq with
  | zero => exact absurd HA.out (by simp [rf03_Parse.j0])
  | succ kj1 =>
   have H := HA.out
   clear HA
   simp only [rf03_Parse.j0] at H
   have HC7 := sd H
   clear H
   go_upto_if 19 with (fail)
   go_cut [4] (fun v4 wc => ∃ (kq : Nat) (x4_6 : ByteArray), v4 = .string x4_6 ∧ Aside0 (rf03_Parse.j1 kq a0 x4_6 = some (r1, r2, r3)) ∧ Aside0 (kq ≤ kj1) ∧ Aside0 (wc.heap[gb409]? = some (.cells #[.int .i64 0, .int .i64 0] 38 (0, 0))) ∧ Aside0 (Below w.heap.size w wc))
   case first =>
    have H := HC7.out
    clear HC7
    by_cases c8 : x19_1 = true
    ·subst c8
     rw [if_pos rfl] at H
     replace H := ifI H
     rcases H with ⟨c9, H⟩ | ⟨c9, H⟩
     ·have c9b0 := eq_true c9
      have c9b1 : decide (1 ≤ (a0.size : Int)) = true := decide_eq_true c9
      clear c9
      have H' := sd H
      clear H
      go_wp2
      go_meet
      case rel => exact ⟨_, (a0.extract 1 a0.size), zq1, H', ⟨zq4⟩, ⟨zq63⟩, ⟨zq64⟩⟩
     exact absurd H (by simp)
    replace c8 := Bool.eq_false_iff.mpr c8
    subst c8
    rw [if_neg Bool.false_ne_true] at H
    have H' := sd H
    clear H
    go_wp2
    go_meet
    case rel => exact ⟨_, (a0), zq1, H', ⟨zq4⟩, ⟨zq63⟩, ⟨zq64⟩⟩
   case rest =>
    clear HC7
    try clear p2
    try clear c4
    try clear c4b0
    try clear c4b1
    try clear c5
    try clear c5b0
    try clear c5b1
    try clear p6
    try clear q6
    try clear hx6
    try clear qi6
    try clear c8
    try clear c9
    try clear c9b0
    try clear c9b1
    try clear p2
    try clear p6
    try clear q6
    obtain ⟨kq, x4_6, rfl, HA, HJ6, BK409, HB⟩ := hcut
    cases kq with
    | zero => exact absurd HA.out (by simp [rf03_Parse.j1])
    | succ kj6 =>
     have H := HA.out
     clear HA
     simp only [rf03_Parse.j1] at H
     replace H := bdI H
     obtain ⟨⟨t410, t411, t412⟩, A10, H⟩ := H
     (try dsimp only at H)
     have HC11 := sd H
     clear H
     go_upto_region 5 with (first | ((with_reducible refine gate_callee (f := 57) rfl ?_); refine gL 24 Tryd.func57 #[.string x4_6] ?_; (with_reducible refine (rf03_split.calls kj6 x4_6 t410 t411 t412 _ A10.out).mono ?_); rintro e w' ⟨rfl, ⟨nd, rfl⟩⟩; refine ⟨_, rfl, ?_⟩))
     (try simp only [Act.put, List.setIfInBounds_toArray, List.set_cons_zero, List.set_cons_succ])
     go_cut [40] (fun v40 wc => ∃ (kq : Nat) (x40_10 : Bool), v40 = .bool x40_10 ∧ Aside0 (rf03_Parse.j2 kq a0 x4_6 t410 t411 x40_10 = some (r1, r2, r3)) ∧ Aside0 (kq ≤ kj6) ∧ Aside0 (wc.heap[gb409]? = some (.cells #[.int .i64 0, .int .i64 0] 38 (0, 0))) ∧ Aside0 (Below w.heap.size w wc))
     case first =>
      have H := HC11.out
      clear HC11
      by_cases c12 : t412 = true
      ·subst c12
       rw [if_pos rfl] at H
       replace H := ifI H
       rcases H with ⟨c13, H⟩ | ⟨c13, H⟩
       ·have c13b0 : decide ((x4_6.size : Int) < (a0.size : Int)) = true := decide_eq_true c13
        have c13b1 : decide (x4_6.size < a0.size) = true := decide_eq_true (Int.ofNat_lt.mp c13)
        clear c13
        (first | rw [c13b0] | (simp only [i64_w, i32_w]; rw [c13b0]) | skip)
        have H' := sd H
        clear H
        go_wp2
        go_meet
        case rel => exact ⟨_, ((t410.toList == ([] : List UInt8))), zq1, H', ⟨zq6⟩, ⟨zq63⟩, ⟨zq64⟩⟩
       have c13b0 : decide ((x4_6.size : Int) < (a0.size : Int)) = false := decide_eq_false c13
       have c13b1 : decide (x4_6.size < a0.size) = false := decide_eq_false (fun h => c13 (Int.ofNat_lt.mpr h))
       clear c13
       (first | rw [c13b0] | (simp only [i64_w, i32_w]; rw [c13b0]) | skip)
       have H' := sd H
       clear H
       go_wp2
       go_meet
       case rel => exact ⟨_, (false), zq1, H', ⟨zq6⟩, ⟨zq63⟩, ⟨zq64⟩⟩
      replace c12 := Bool.eq_false_iff.mpr c12
      subst c12
      rw [if_neg Bool.false_ne_true] at H
      have H' := sd H
      clear H
      go_wp2
      go_meet
      case rel => exact ⟨_, (true), zq1, H', ⟨zq6⟩, ⟨zq63⟩, ⟨zq64⟩⟩
     case rest =>
      clear HC11
      try clear c1
      try clear p2
      try clear c4
      try clear c4b0
      try clear c4b1
      try clear c5
      try clear c5b0
      try clear c5b1
      try clear p6
      try clear q6
      try clear hx6
      try clear qi6
      try clear c8
      try clear c9
      try clear c9b0
      try clear c9b1
      try clear c12
      try clear c13
      try clear c13b0
      try clear c13b1
      try clear p2
      try clear p6
      try clear q6
      obtain ⟨kq, x40_10, rfl, HA, HJ10, BK409, HB⟩ := hcut
      cases kq with
      | zero => exact absurd HA.out (by simp [rf03_Parse.j2])
      | succ kj10 =>
       have H := HA.out
       clear HA
       simp only [rf03_Parse.j2] at H
       by_cases c14 : x40_10 = true
       ·subst c14
        rw [if_pos rfl] at H
        simp only [Option.some.injEq, Prod.mk.injEq] at H
        obtain ⟨rfl, rfl, rfl⟩ := H
        obtain ⟨_, _, _, _⟩ := bk2 BK409
        go_wp2
        refine bodyPost_ret (results_ct rfl _ _ gb409 38 #[.int .i64 0, .int .i64 0] (0, 0) _ rfl (by (with_reducible repeat (first | refine blk_drewN ?_ _ | refine blk_drew ?_ | refine blk_alloc ?_ _)); refine blk_put (cs := #[.int .i64 0, .int .i64 0]) ?_ 1 _ rfl; (with_reducible repeat (first | refine blk_drewN ?_ _ | refine blk_drew ?_ | refine blk_alloc ?_ _)); refine blk_put (cs := #[.int .i64 0, .int .i64 0]) ?_ 0 _ rfl; (with_reducible repeat (first | refine blk_drewN ?_ _ | refine blk_drew ?_ | refine blk_alloc ?_ _)); exact BK409.out) Tryd.underlying38 rfl (by kernel_rfl)) rfl ?_
        exact ⟨zq8, zq64⟩
       replace c14 := Bool.eq_false_iff.mpr c14
       subst c14
       rw [if_neg Bool.false_ne_true] at H
       replace H := bdI H
       obtain ⟨t413, A16, H⟩ := H
       (try dsimp only at H)
       replace H := bdI H
       obtain ⟨⟨t414, t415⟩, A17, H⟩ := H
       (try dsimp only at H)
       replace H := bdI H
       obtain ⟨⟨t416, t417⟩, A18, H⟩ := H
       (try dsimp only at H)
       have HC19 := sd H
       clear H
       go_upto_region 10 with (first | ((with_reducible refine gate_callee (f := 58) rfl ?_); refine gL 44 Tryd.func58 #[.string t410, .string t411] ?_; (with_reducible refine (rf03_common.calls kj10 t410 t411 t413 _ A16.out).mono ?_); rintro e w20 ⟨rfl, hb⟩; refine ⟨_, rfl, ?_⟩; replace BK409 := bkm BK409 hb; replace HB := hbm HB hb; clear hb) | ((with_reducible refine gate_callee (f := 59) rfl ?_); refine gL 48 Tryd.func59 #[.string t410, .string t413] ?_; (with_reducible refine (rf03_divide.calls kj10 t410 t413 t414 t415 _ A17.out).mono ?_); rintro e w21 ⟨rfl, hb⟩; refine ⟨_, rfl, ?_⟩; replace BK409 := bkm BK409 hb; replace HB := hbm HB hb; clear hb) | ((with_reducible refine gate_callee (f := 59) rfl ?_); refine gL 54 Tryd.func59 #[.string t411, .string t413] ?_; (with_reducible refine (rf03_divide.calls kj10 t411 t413 t416 t417 _ A18.out).mono ?_); rintro e w22 ⟨rfl, hb⟩; refine ⟨_, rfl, ?_⟩; replace BK409 := bkm BK409 hb; replace HB := hbm HB hb; clear hb))
       (try simp only [Act.put, List.setIfInBounds_toArray, List.set_cons_zero, List.set_cons_succ])
       go_cut [64] (fun v64 wc => ∃ (kq : Nat) (x64_18 : Bool), v64 = .bool x64_18 ∧ Aside0 (rf03_Parse.j3 kq a0 x4_6 t414 t416 x64_18 = some (r1, r2, r3)) ∧ Aside0 (kq ≤ kj10) ∧ Aside0 (wc.heap[gb409]? = some (.cells #[.int .i64 0, .int .i64 0] 38 (0, 0))) ∧ Aside0 (Below w.heap.size w wc))
       case first =>
        have H := HC19.out
        clear HC19
        replace H := ifI H
        rcases H with ⟨c23, H⟩ | ⟨c23, H⟩
        ·have c23b0 : decide (7 < (t414.size : Int)) = true := decide_eq_true c23
         have c23b1 : decide (7 < t414.size) = true := decide_eq_true (by omega)
         clear c23
         (first | rw [c23b0] | (simp only [i64_w, i32_w]; rw [c23b0]) | skip)
         have H' := sd H
         clear H
         go_wp2
         go_meet
         case rel => exact ⟨_, (true), zq1, H', ⟨by have := HJ1.out; have := HJ6.out; have := HJ10.out; first | omega | exact Nat.le_refl _⟩, ⟨zq63⟩, ⟨zq64⟩⟩
        have c23b0 : decide (7 < (t414.size : Int)) = false := decide_eq_false c23
        have c23b1 : decide (7 < t414.size) = false := decide_eq_false (by omega)
        clear c23
        (first | rw [c23b0] | (simp only [i64_w, i32_w]; rw [c23b0]) | skip)
        have H' := sd H
        clear H
        go_wp2
        go_meet
        case rel => exact ⟨_, (decide ((t416.size : Int) > 7)), zq1, H', ⟨by have := HJ1.out; have := HJ6.out; have := HJ10.out; first | omega | exact Nat.le_refl _⟩, ⟨zq63⟩, ⟨zq64⟩⟩
       case rest =>
        clear HC19
        try clear c1
        try clear c2
        try clear p2
        try clear c4
        try clear c4b0
        try clear c4b1
        try clear c5
        try clear c5b0
        try clear c5b1
        try clear p6
        try clear q6
        try clear hx6
        try clear qi6
        try clear c8
        try clear c9
        try clear c9b0
        try clear c9b1
        try clear c12
        try clear c13
        try clear c13b0
        try clear c13b1
        try clear c14
        try clear c23
        try clear c23b0
        try clear c23b1
        try clear hcz15_0
        try clear hcz15_1
        try clear hfz15_0
        try clear hfz15_1
        try clear p2
        try clear p6
        try clear q6
        obtain ⟨kq, x64_18, rfl, HA, HJ18, BK409, HB⟩ := hcut
        cases kq with
        | zero => exact absurd HA.out (by simp [rf03_Parse.j3])
        | succ kj18 =>
         have H := HA.out
         clear HA
         simp only [rf03_Parse.j3] at H
         by_cases c24 : x64_18 = true
         ·subst c24
          rw [if_pos rfl] at H
          simp only [Option.some.injEq, Prod.mk.injEq] at H
          obtain ⟨rfl, rfl, rfl⟩ := H
          obtain ⟨_, _, _, _⟩ := bk2 BK409
          go_wp2
          refine bodyPost_ret (results_ct rfl _ _ gb409 38 #[.int .i64 0, .int .i64 0] (0, 0) _ rfl (by (with_reducible repeat (first | refine blk_drewN ?_ _ | refine blk_drew ?_ | refine blk_alloc ?_ _)); refine blk_put (cs := #[.int .i64 0, .int .i64 0]) ?_ 1 _ rfl; (with_reducible repeat (first | refine blk_drewN ?_ _ | refine blk_drew ?_ | refine blk_alloc ?_ _)); refine blk_put (cs := #[.int .i64 0, .int .i64 0]) ?_ 0 _ rfl; (with_reducible repeat (first | refine blk_drewN ?_ _ | refine blk_drew ?_ | refine blk_alloc ?_ _)); exact BK409.out) Tryd.underlying38 rfl (by kernel_rfl)) rfl ?_
          exact ⟨zq8, zq64⟩
         replace c24 := Bool.eq_false_iff.mpr c24
         subst c24
         rw [if_neg Bool.false_ne_true] at H
         replace H := bdI H
         obtain ⟨t418, A26, H⟩ := H
         (try dsimp only at H)
         replace H := bdI H
         obtain ⟨t419, A27, H⟩ := H
         (try dsimp only at H)
         replace H := bdI H
         obtain ⟨⟨t420, t421, t422⟩, A28, H⟩ := H
         (try dsimp only at H)
         replace H := ifI H
         rcases H with ⟨c29, H⟩ | ⟨c29, H⟩
         ·have c29b0 : decide ((x4_6.size : Int) < (a0.size : Int)) = true := decide_eq_true c29
          have c29b1 : decide (x4_6.size < a0.size) = true := decide_eq_true (Int.ofNat_lt.mp c29)
          clear c29
          replace H := bdI H
          obtain ⟨⟨t424, t425⟩, A30, H⟩ := H
          (try dsimp only at H)
          replace H := ifI H
          rcases H with ⟨c31, H⟩ | ⟨c31, H⟩
          ·obtain ⟨c31b0, c31b1⟩ := eqI c31
           clear c31
           simp only [Option.some.injEq, Prod.mk.injEq] at H
           obtain ⟨rfl, rfl, rfl⟩ := H
           go_wp2_with (first | ((with_reducible refine gate_callee (f := 61) rfl ?_); refine gL 68 Tryd.func61 #[.string t414] ?_; (with_reducible refine (rf03_number.calls kj18 t414 t418 _ A26.out).mono ?_); rintro e w' ⟨rfl, ⟨nd, rfl⟩⟩; refine ⟨_, rfl, ?_⟩; (try (rw [drewN_self wc]; generalize hq_ : World.drewN wc _ = wc; have n0_ : Aside0 (wc.heap[gb409]? = some (.cells #[.int .i64 0, .int .i64 0] 38 (0, 0))) := ⟨zq65⟩; have n1_ : Aside0 (Below w.heap.size w wc) := ⟨zq66⟩; clear BK409 HB hq_; have BK409 := n0_; have HB := n1_; clear n0_ n1_; (try (have hdBK409_0 := (blk_cell BK409.out 0).trans rfl; have heBK409_0 := blk_frozen BK409.out 0; have hdBK409_1 := (blk_cell BK409.out 1).trans rfl; have heBK409_1 := blk_frozen BK409.out 1))))) | ((with_reducible refine gate_callee (f := 61) rfl ?_); refine gL 70 Tryd.func61 #[.string t416] ?_; (with_reducible refine (rf03_number.calls kj18 t416 t419 _ A27.out).mono ?_); rintro e w' ⟨rfl, ⟨nd, rfl⟩⟩; refine ⟨_, rfl, ?_⟩; (try (rw [drewN_self wc]; generalize hq_ : World.drewN wc _ = wc; have n0_ : Aside0 (wc.heap[gb409]? = some (.cells #[.int .i64 0, .int .i64 0] 38 (0, 0))) := ⟨zq65⟩; have n1_ : Aside0 (Below w.heap.size w wc) := ⟨zq66⟩; clear BK409 HB hq_; have BK409 := n0_; have HB := n1_; clear n0_ n1_; (try (have hdBK409_0 := (blk_cell BK409.out 0).trans rfl; have heBK409_0 := blk_frozen BK409.out 0; have hdBK409_1 := (blk_cell BK409.out 1).trans rfl; have heBK409_1 := blk_frozen BK409.out 1))))) | ((with_reducible refine gate_callee (f := 60) rfl ?_); refine gL 71 Tryd.func60 #[.int .i64 t418, .int .i64 t419] ?_; (with_reducible refine (rf03_Make.calls kj18 t418 t419 t420 t421 t422 _ A28.out).mono ?_); rintro e w32 ⟨rfl, hb⟩; refine ⟨_, rfl, ?_⟩; replace BK409 := bkm BK409 hb; replace HB := hbm HB hb; clear hb) | ((with_reducible refine gate_dst (N := 9) rfl ?_); (try (refine gate_guard (by rfl) ?_; dsimp only)); refine bxA 9 #[.int .i64 0, .int .i64 0] 38 ?_; intro gb423 hg w33 hbox hb; have BK423 := sd (hbox); have GW423 := gem hg HB; have GE423 := GW423; have NB409_423 := nlm hg BK409; have NB423_409 := ngm hg BK409; replace BK409 := bkm BK409 hb; replace HB := hbm HB hb; clear hb hbox hg; have hnb34 := NB423_409.out; have hnc34 := NB409_423.out; obtain ⟨_, _, _, _⟩ := bk2 BK423) | ((with_reducible refine gate_callee (f := 62) rfl ?_); refine gL 80 Tryd.func62 #[.agg #[.int .i64 t420, .int .i64 t421]] ?_; (with_reducible refine (rf03_Neg.calls t420 t421 t424 t425 _ A30.out).mono ?_); rintro e w36 ⟨rfl, hb⟩; refine ⟨_, rfl, ?_⟩; replace BK409 := sd (blk_below (g := gb409) (o := .cells #[.int .i64 0, .int .i64 0] 38 (0, 0)) (by (with_reducible repeat (first | refine blk_drewN ?_ _ | refine blk_drew ?_ | refine blk_alloc ?_ _)); refine blk_far ?_ NB409_423.out _; (with_reducible repeat (first | refine blk_drewN ?_ _ | refine blk_drew ?_ | refine blk_alloc ?_ _)); refine blk_far ?_ NB409_423.out _; (with_reducible repeat (first | refine blk_drewN ?_ _ | refine blk_drew ?_ | refine blk_alloc ?_ _)); exact BK409.out) hb); replace BK423 := sd (blk_below (g := gb423) (o := .cells #[.int .i64 t420, .int .i64 t421] 38 (0, 0)) (by (with_reducible repeat (first | refine blk_drewN ?_ _ | refine blk_drew ?_ | refine blk_alloc ?_ _)); refine blk_put (cs := #[.int .i64 t420, .int .i64 0]) ?_ 1 _ rfl; (with_reducible repeat (first | refine blk_drewN ?_ _ | refine blk_drew ?_ | refine blk_alloc ?_ _)); refine blk_put (cs := #[.int .i64 0, .int .i64 0]) ?_ 0 _ rfl; (with_reducible repeat (first | refine blk_drewN ?_ _ | refine blk_drew ?_ | refine blk_alloc ?_ _)); exact BK423.out) hb); replace HB := hbm HB hb; clear hb; obtain ⟨_, _, _, _⟩ := bk2 BK423; obtain ⟨_, _, _, _⟩ := bk2 BK409))
           refine bodyPost_ret (results_ct rfl _ _ gb409 38 #[.int .i64 t424, .int .i64 t425] (0, 0) _ rfl (by (with_reducible repeat (first | refine blk_drewN ?_ _ | refine blk_drew ?_ | refine blk_alloc ?_ _)); refine blk_put (cs := #[.int .i64 t424, .int .i64 0]) ?_ 1 _ rfl; (with_reducible repeat (first | refine blk_drewN ?_ _ | refine blk_drew ?_ | refine blk_alloc ?_ _)); refine blk_put (cs := #[.int .i64 0, .int .i64 0]) ?_ 0 _ rfl; (with_reducible repeat (first | refine blk_drewN ?_ _ | refine blk_drew ?_ | refine blk_alloc ?_ _)); refine blk_far ?_ NB409_423.out _; (with_reducible repeat (first | refine blk_drewN ?_ _ | refine blk_drew ?_ | refine blk_alloc ?_ _)); refine blk_far ?_ NB409_423.out _; (with_reducible repeat (first | refine blk_drewN ?_ _ | refine blk_drew ?_ | refine blk_alloc ?_ _)); exact BK409.out) Tryd.underlying38 rfl (by kernel_rfl)) rfl ?_
           exact ⟨zq8, zq67⟩
          obtain ⟨c31b0, c31b1⟩ := neI c31
          simp only [Option.some.injEq, Prod.mk.injEq] at H
          obtain ⟨rfl, rfl, rfl⟩ := H
          go_wp2_with (first | ((with_reducible refine gate_callee (f := 61) rfl ?_); refine gL 68 Tryd.func61 #[.string t414] ?_; (with_reducible refine (rf03_number.calls kj18 t414 t418 _ A26.out).mono ?_); rintro e w' ⟨rfl, ⟨nd, rfl⟩⟩; refine ⟨_, rfl, ?_⟩; (try (rw [drewN_self wc]; generalize hq_ : World.drewN wc _ = wc; have n0_ : Aside0 (wc.heap[gb409]? = some (.cells #[.int .i64 0, .int .i64 0] 38 (0, 0))) := ⟨zq65⟩; have n1_ : Aside0 (Below w.heap.size w wc) := ⟨zq66⟩; clear BK409 HB hq_; have BK409 := n0_; have HB := n1_; clear n0_ n1_; (try (have hdBK409_0 := (blk_cell BK409.out 0).trans rfl; have heBK409_0 := blk_frozen BK409.out 0; have hdBK409_1 := (blk_cell BK409.out 1).trans rfl; have heBK409_1 := blk_frozen BK409.out 1))))) | ((with_reducible refine gate_callee (f := 61) rfl ?_); refine gL 70 Tryd.func61 #[.string t416] ?_; (with_reducible refine (rf03_number.calls kj18 t416 t419 _ A27.out).mono ?_); rintro e w' ⟨rfl, ⟨nd, rfl⟩⟩; refine ⟨_, rfl, ?_⟩; (try (rw [drewN_self wc]; generalize hq_ : World.drewN wc _ = wc; have n0_ : Aside0 (wc.heap[gb409]? = some (.cells #[.int .i64 0, .int .i64 0] 38 (0, 0))) := ⟨zq65⟩; have n1_ : Aside0 (Below w.heap.size w wc) := ⟨zq66⟩; clear BK409 HB hq_; have BK409 := n0_; have HB := n1_; clear n0_ n1_; (try (have hdBK409_0 := (blk_cell BK409.out 0).trans rfl; have heBK409_0 := blk_frozen BK409.out 0; have hdBK409_1 := (blk_cell BK409.out 1).trans rfl; have heBK409_1 := blk_frozen BK409.out 1))))) | ((with_reducible refine gate_callee (f := 60) rfl ?_); refine gL 71 Tryd.func60 #[.int .i64 t418, .int .i64 t419] ?_; (with_reducible refine (rf03_Make.calls kj18 t418 t419 t420 t421 t422 _ A28.out).mono ?_); rintro e w39 ⟨rfl, hb⟩; refine ⟨_, rfl, ?_⟩; replace BK409 := bkm BK409 hb; replace HB := hbm HB hb; clear hb) | ((with_reducible refine gate_dst (N := 9) rfl ?_); (try (refine gate_guard (by rfl) ?_; dsimp only)); refine bxA 9 #[.int .i64 0, .int .i64 0] 38 ?_; intro gb423 hg w40 hbox hb; have BK423 := sd (hbox); have GW423 := gem hg HB; have GE423 := GW423; have NB409_423 := nlm hg BK409; have NB423_409 := ngm hg BK409; replace BK409 := bkm BK409 hb; replace HB := hbm HB hb; clear hb hbox hg; have hnb41 := NB423_409.out; have hnc41 := NB409_423.out; obtain ⟨_, _, _, _⟩ := bk2 BK423) | ((with_reducible refine gate_callee (f := 62) rfl ?_); refine gL 80 Tryd.func62 #[.agg #[.int .i64 t420, .int .i64 t421]] ?_; (with_reducible refine (rf03_Neg.calls t420 t421 t424 t425 _ A30.out).mono ?_); rintro e w43 ⟨rfl, hb⟩; refine ⟨_, rfl, ?_⟩; replace BK409 := sd (blk_below (g := gb409) (o := .cells #[.int .i64 0, .int .i64 0] 38 (0, 0)) (by (with_reducible repeat (first | refine blk_drewN ?_ _ | refine blk_drew ?_ | refine blk_alloc ?_ _)); refine blk_far ?_ NB409_423.out _; (with_reducible repeat (first | refine blk_drewN ?_ _ | refine blk_drew ?_ | refine blk_alloc ?_ _)); refine blk_far ?_ NB409_423.out _; (with_reducible repeat (first | refine blk_drewN ?_ _ | refine blk_drew ?_ | refine blk_alloc ?_ _)); exact BK409.out) hb); replace BK423 := sd (blk_below (g := gb423) (o := .cells #[.int .i64 t420, .int .i64 t421] 38 (0, 0)) (by (with_reducible repeat (first | refine blk_drewN ?_ _ | refine blk_drew ?_ | refine blk_alloc ?_ _)); refine blk_put (cs := #[.int .i64 t420, .int .i64 0]) ?_ 1 _ rfl; (with_reducible repeat (first | refine blk_drewN ?_ _ | refine blk_drew ?_ | refine blk_alloc ?_ _)); refine blk_put (cs := #[.int .i64 0, .int .i64 0]) ?_ 0 _ rfl; (with_reducible repeat (first | refine blk_drewN ?_ _ | refine blk_drew ?_ | refine blk_alloc ?_ _)); exact BK423.out) hb); replace HB := hbm HB hb; clear hb; obtain ⟨_, _, _, _⟩ := bk2 BK423; obtain ⟨_, _, _, _⟩ := bk2 BK409))
          refine bodyPost_ret (results_ct rfl _ _ gb409 38 #[.int .i64 0, .int .i64 0] (0, 0) _ rfl (by (with_reducible repeat (first | refine blk_drewN ?_ _ | refine blk_drew ?_ | refine blk_alloc ?_ _)); refine blk_put (cs := #[.int .i64 0, .int .i64 0]) ?_ 1 _ rfl; (with_reducible repeat (first | refine blk_drewN ?_ _ | refine blk_drew ?_ | refine blk_alloc ?_ _)); refine blk_put (cs := #[.int .i64 0, .int .i64 0]) ?_ 0 _ rfl; (with_reducible repeat (first | refine blk_drewN ?_ _ | refine blk_drew ?_ | refine blk_alloc ?_ _)); refine blk_far ?_ NB409_423.out _; (with_reducible repeat (first | refine blk_drewN ?_ _ | refine blk_drew ?_ | refine blk_alloc ?_ _)); refine blk_far ?_ NB409_423.out _; (with_reducible repeat (first | refine blk_drewN ?_ _ | refine blk_drew ?_ | refine blk_alloc ?_ _)); exact BK409.out) Tryd.underlying38 rfl (by kernel_rfl)) rfl ?_
          exact ⟨zq8, zq67⟩
         have c29b0 : decide ((x4_6.size : Int) < (a0.size : Int)) = false := decide_eq_false c29
         have c29b1 : decide (x4_6.size < a0.size) = false := decide_eq_false (fun h => c29 (Int.ofNat_lt.mpr h))
         clear c29
         replace H := ifI H
         rcases H with ⟨c46, H⟩ | ⟨c46, H⟩
         ·obtain ⟨c46b0, c46b1⟩ := eqI c46
          clear c46
          simp only [Option.some.injEq, Prod.mk.injEq] at H
          obtain ⟨rfl, rfl, rfl⟩ := H
          go_wp2_with (first | ((with_reducible refine gate_callee (f := 61) rfl ?_); refine gL 68 Tryd.func61 #[.string t414] ?_; (with_reducible refine (rf03_number.calls kj18 t414 t418 _ A26.out).mono ?_); rintro e w' ⟨rfl, ⟨nd, rfl⟩⟩; refine ⟨_, rfl, ?_⟩; (try (rw [drewN_self wc]; generalize hq_ : World.drewN wc _ = wc; have n0_ : Aside0 (wc.heap[gb409]? = some (.cells #[.int .i64 0, .int .i64 0] 38 (0, 0))) := ⟨zq65⟩; have n1_ : Aside0 (Below w.heap.size w wc) := ⟨zq66⟩; clear BK409 HB hq_; have BK409 := n0_; have HB := n1_; clear n0_ n1_; (try (have hdBK409_0 := (blk_cell BK409.out 0).trans rfl; have heBK409_0 := blk_frozen BK409.out 0; have hdBK409_1 := (blk_cell BK409.out 1).trans rfl; have heBK409_1 := blk_frozen BK409.out 1))))) | ((with_reducible refine gate_callee (f := 61) rfl ?_); refine gL 70 Tryd.func61 #[.string t416] ?_; (with_reducible refine (rf03_number.calls kj18 t416 t419 _ A27.out).mono ?_); rintro e w' ⟨rfl, ⟨nd, rfl⟩⟩; refine ⟨_, rfl, ?_⟩; (try (rw [drewN_self wc]; generalize hq_ : World.drewN wc _ = wc; have n0_ : Aside0 (wc.heap[gb409]? = some (.cells #[.int .i64 0, .int .i64 0] 38 (0, 0))) := ⟨zq65⟩; have n1_ : Aside0 (Below w.heap.size w wc) := ⟨zq66⟩; clear BK409 HB hq_; have BK409 := n0_; have HB := n1_; clear n0_ n1_; (try (have hdBK409_0 := (blk_cell BK409.out 0).trans rfl; have heBK409_0 := blk_frozen BK409.out 0; have hdBK409_1 := (blk_cell BK409.out 1).trans rfl; have heBK409_1 := blk_frozen BK409.out 1))))) | ((with_reducible refine gate_callee (f := 60) rfl ?_); refine gL 71 Tryd.func60 #[.int .i64 t418, .int .i64 t419] ?_; (with_reducible refine (rf03_Make.calls kj18 t418 t419 t420 t421 t422 _ A28.out).mono ?_); rintro e w47 ⟨rfl, hb⟩; refine ⟨_, rfl, ?_⟩; replace BK409 := bkm BK409 hb; replace HB := hbm HB hb; clear hb) | ((with_reducible refine gate_dst (N := 9) rfl ?_); (try (refine gate_guard (by rfl) ?_; dsimp only)); refine bxA 9 #[.int .i64 0, .int .i64 0] 38 ?_; intro gb423 hg w48 hbox hb; have BK423 := sd (hbox); have GW423 := gem hg HB; have GE423 := GW423; have NB409_423 := nlm hg BK409; have NB423_409 := ngm hg BK409; replace BK409 := bkm BK409 hb; replace HB := hbm HB hb; clear hb hbox hg; have hnb49 := NB423_409.out; have hnc49 := NB409_423.out; obtain ⟨_, _, _, _⟩ := bk2 BK423; obtain ⟨_, _, _, _⟩ := bk2 BK409))
          refine bodyPost_ret (results_ct rfl _ _ gb409 38 #[.int .i64 t420, .int .i64 t421] (0, 0) _ rfl (by (with_reducible repeat (first | refine blk_drewN ?_ _ | refine blk_drew ?_ | refine blk_alloc ?_ _)); refine blk_put (cs := #[.int .i64 t420, .int .i64 0]) ?_ 1 _ rfl; (with_reducible repeat (first | refine blk_drewN ?_ _ | refine blk_drew ?_ | refine blk_alloc ?_ _)); refine blk_put (cs := #[.int .i64 0, .int .i64 0]) ?_ 0 _ rfl; (with_reducible repeat (first | refine blk_drewN ?_ _ | refine blk_drew ?_ | refine blk_alloc ?_ _)); refine blk_far ?_ NB409_423.out _; (with_reducible repeat (first | refine blk_drewN ?_ _ | refine blk_drew ?_ | refine blk_alloc ?_ _)); refine blk_far ?_ NB409_423.out _; (with_reducible repeat (first | refine blk_drewN ?_ _ | refine blk_drew ?_ | refine blk_alloc ?_ _)); exact BK409.out) Tryd.underlying38 rfl (by kernel_rfl)) rfl ?_
          exact ⟨zq8, zq67⟩
         obtain ⟨c46b0, c46b1⟩ := neI c46
         simp only [Option.some.injEq, Prod.mk.injEq] at H
         obtain ⟨rfl, rfl, rfl⟩ := H
         go_wp2_with (first | ((with_reducible refine gate_callee (f := 61) rfl ?_); refine gL 68 Tryd.func61 #[.string t414] ?_; (with_reducible refine (rf03_number.calls kj18 t414 t418 _ A26.out).mono ?_); rintro e w' ⟨rfl, ⟨nd, rfl⟩⟩; refine ⟨_, rfl, ?_⟩; (try (rw [drewN_self wc]; generalize hq_ : World.drewN wc _ = wc; have n0_ : Aside0 (wc.heap[gb409]? = some (.cells #[.int .i64 0, .int .i64 0] 38 (0, 0))) := ⟨zq65⟩; have n1_ : Aside0 (Below w.heap.size w wc) := ⟨zq66⟩; clear BK409 HB hq_; have BK409 := n0_; have HB := n1_; clear n0_ n1_; (try (have hdBK409_0 := (blk_cell BK409.out 0).trans rfl; have heBK409_0 := blk_frozen BK409.out 0; have hdBK409_1 := (blk_cell BK409.out 1).trans rfl; have heBK409_1 := blk_frozen BK409.out 1))))) | ((with_reducible refine gate_callee (f := 61) rfl ?_); refine gL 70 Tryd.func61 #[.string t416] ?_; (with_reducible refine (rf03_number.calls kj18 t416 t419 _ A27.out).mono ?_); rintro e w' ⟨rfl, ⟨nd, rfl⟩⟩; refine ⟨_, rfl, ?_⟩; (try (rw [drewN_self wc]; generalize hq_ : World.drewN wc _ = wc; have n0_ : Aside0 (wc.heap[gb409]? = some (.cells #[.int .i64 0, .int .i64 0] 38 (0, 0))) := ⟨zq65⟩; have n1_ : Aside0 (Below w.heap.size w wc) := ⟨zq66⟩; clear BK409 HB hq_; have BK409 := n0_; have HB := n1_; clear n0_ n1_; (try (have hdBK409_0 := (blk_cell BK409.out 0).trans rfl; have heBK409_0 := blk_frozen BK409.out 0; have hdBK409_1 := (blk_cell BK409.out 1).trans rfl; have heBK409_1 := blk_frozen BK409.out 1))))) | ((with_reducible refine gate_callee (f := 60) rfl ?_); refine gL 71 Tryd.func60 #[.int .i64 t418, .int .i64 t419] ?_; (with_reducible refine (rf03_Make.calls kj18 t418 t419 t420 t421 t422 _ A28.out).mono ?_); rintro e w52 ⟨rfl, hb⟩; refine ⟨_, rfl, ?_⟩; replace BK409 := bkm BK409 hb; replace HB := hbm HB hb; clear hb) | ((with_reducible refine gate_dst (N := 9) rfl ?_); (try (refine gate_guard (by rfl) ?_; dsimp only)); refine bxA 9 #[.int .i64 0, .int .i64 0] 38 ?_; intro gb423 hg w53 hbox hb; have BK423 := sd (hbox); have GW423 := gem hg HB; have GE423 := GW423; have NB409_423 := nlm hg BK409; have NB423_409 := ngm hg BK409; replace BK409 := bkm BK409 hb; replace HB := hbm HB hb; clear hb hbox hg; have hnb54 := NB423_409.out; have hnc54 := NB409_423.out; obtain ⟨_, _, _, _⟩ := bk2 BK423; obtain ⟨_, _, _, _⟩ := bk2 BK409))
         refine bodyPost_ret (results_ct rfl _ _ gb409 38 #[.int .i64 0, .int .i64 0] (0, 0) _ rfl (by (with_reducible repeat (first | refine blk_drewN ?_ _ | refine blk_drew ?_ | refine blk_alloc ?_ _)); refine blk_put (cs := #[.int .i64 0, .int .i64 0]) ?_ 1 _ rfl; (with_reducible repeat (first | refine blk_drewN ?_ _ | refine blk_drew ?_ | refine blk_alloc ?_ _)); refine blk_put (cs := #[.int .i64 0, .int .i64 0]) ?_ 0 _ rfl; (with_reducible repeat (first | refine blk_drewN ?_ _ | refine blk_drew ?_ | refine blk_alloc ?_ _)); refine blk_far ?_ NB409_423.out _; (with_reducible repeat (first | refine blk_drewN ?_ _ | refine blk_drew ?_ | refine blk_alloc ?_ _)); refine blk_far ?_ NB409_423.out _; (with_reducible repeat (first | refine blk_drewN ?_ _ | refine blk_drew ?_ | refine blk_alloc ?_ _)); exact BK409.out) Tryd.underlying38 rfl (by kernel_rfl)) rfl ?_
         exact ⟨zq8, zq67⟩
mutual
def rf24_Parse.j0 : Nat → ByteArray → List ByteArray → Int → Bool → Option (Int × Bool × (List (S53)) × Int)
 | 0, _, _, _, _ => none
 | k + 1, x0, x4, x5, x30 => if x30 = true then (some (0, false, ([] : List (S53)), 5)) else (if 0 ≤ (wrap64 (x5 - 1)) then (if (wrap64 (x5 - 1)) < (x4.length : Int) then ((rf01_Parse.f k (rdOf ByteArray.empty x4 (wrap64 (x5 - 1))) 0 365).bind fun bt431 => (if 0 ≤ (wrap64 (x5 - 2)) then (if (wrap64 (x5 - 2)) < (x4.length : Int) then (rf24_Parse.l0 k x0 x4 x5 bt431.2 0 bt431.1 ((rdOf ByteArray.empty x4 (wrap64 (x5 - 2))).toList == ([101, 111, 109] : List UInt8)) ([] : List (S53))) else (none)) else (none))) else (none)) else (none))
def rf24_Parse.l0 : Nat → ByteArray → List ByteArray → Int → Int → Int → Int → Bool → List (S53) → Option (Int × Bool × (List (S53)) × Int)
 | 0, _, _, _, _, _, _, _, _ => none
 | k + 1, x0, x4, x5, x7, x9, x435000, x435001, x435002 => if (wrap64 (x9 + 2)) < x5 then (rf24_Parse.j2 k x0 x4 x5 x7 x9 (x7 == 0) x435000 x435001 x435002) else (rf24_Parse.j2 k x0 x4 x5 x7 x9 false x435000 x435001 x435002)
def rf24_Parse.j2 : Nat → ByteArray → List ByteArray → Int → Int → Int → Bool → Int → Bool → List (S53) → Option (Int × Bool × (List (S53)) × Int)
 | 0, _, _, _, _, _, _, _, _, _ => none
 | k + 1, x0, x4, x5, x7, x9, x56, x435000, x435001, x435002 => if x56 = true then (if 0 ≤ x9 then (if x9 < (x4.length : Int) then ((rf03_Parse.f k (rdOf ByteArray.empty x4 x9)).bind fun bt436 => (if 0 ≤ (wrap64 (x9 + 1)) then (if (wrap64 (x9 + 1)) < (x4.length : Int) then ((rf01_Parse.f k (rdOf ByteArray.empty x4 (wrap64 (x9 + 1))) 0 365).bind fun bt441 => (if x435002.length < 5864062014805 then (rf24_Parse.l0 k x0 x4 x5 (mx bt436.2.2 bt441.2) (wrap64 (x9 + 2)) x435000 x435001 (x435002 ++ [(⟨bt441.1, (⟨bt436.1, bt436.2.1⟩ : S38)⟩ : S53)])) else (none))) else (none)) else (none))) else (none)) else (none)) else ((rf24_Text.f k x435000 x435001 x435002).bind fun bt446 => (if x7 = 0 then (if bt446.2 = 0 then (if bt446.1.toList = x0.toList then (some (x435000, x435001, x435002, 0)) else (some (0, false, ([] : List (S53)), 5))) else (some (0, false, ([] : List (S53)), 5))) else (some (0, false, ([] : List (S53)), 5))))
end
def rf24_Parse.f (k : Nat) (a0 : ByteArray) : Option (Int × Bool × (List (S53)) × Int) := (rf24_parts.f k a0).bind fun t427 => (if (t427.length : Int) < 2 then (rf24_Parse.j0 k a0 t427 (t427.length : Int) true) else (if ((t427.length : Int) % 2) = 0 then (rf24_Parse.j0 k a0 t427 (t427.length : Int) (decide ((t427.length : Int) > 12))) else (rf24_Parse.j0 k a0 t427 (t427.length : Int) true)))
theorem rf24_Parse.calls (k : Nat) (a0 : ByteArray) (r1 : Int) (r2 : Bool) (r3 : List (S53)) (r4 : Int) (w : World) (h : rf24_Parse.f k a0 = some (r1, r2, r3, r4)) :
  Calls Tryd.prog 19 #[.string a0] w fun e w' => ∃ v2_ : Value, e = .returned (.tuple #[.agg #[.int .i64 r1, .bool r2, v2_], .int .i64 r4]) ∧ Kd.R k53 53 w' w.heap.size (fun _ => True) v2_ r3 ∧ Below w.heap.size w w' := by
 have hu24 := Tryd.underlying24
 have hu38 := Tryd.underlying38
 have hu53 := Tryd.underlying53
 have HB := sd (Below.refl w.heap.size w)
 have H := h
 clear h
 unfold rf24_Parse.f at H
 replace H := bdI H
 obtain ⟨t427, A2, H⟩ := H
 (try dsimp only at H)
 have HC3 := sd H
 clear H
 go_enter Tryd.func19, Tryd.ntmps19
 go_upto_region 3 with (first | ((with_reducible refine gate_dst (N := 2) rfl ?_); refine bxA 2 #[.int .i64 0, .bool false, .slice none 0 0] 24 ?_; intro gb426 hg w4 hbox hb; have BK426 := sd (hbox); have GW426 := gem hg HB; have GE426 := GW426; replace HB := hbm HB hb; clear hb hbox hg) | ((with_reducible refine gate_callee (f := 38) rfl ?_); refine gL 17 Tryd.func38 #[.string a0] ?_; (with_reducible refine (rf24_parts.calls k a0 t427 _ A2.out).mono ?_); rintro e w5 ⟨v428, rfl, ho0, hb⟩; refine ⟨_, rfl, ?_⟩; have HO429 := sd (Kd.R_lower ho0 (below_size zq48)); replace BK426 := bkm BK426 hb; replace HB := hbm HB hb; clear hb; (try clear ho0); obtain ⟨Ao6, co6, eo6⟩ := Kd.R_slice HO429.out; subst eo6))
 (try simp only [Act.put, List.setIfInBounds_toArray, List.set_cons_zero, List.set_cons_succ])
 go_cut [30] (fun v30 wc => ∃ (kq : Nat) (x30_2 : Bool), v30 = .bool x30_2 ∧ Aside0 (rf24_Parse.j0 kq a0 t427 (t427.length : Int) x30_2 = some (r1, r2, r3, r4)) ∧ Aside0 (kq ≤ k) ∧ Aside0 (Kd.R Kd.string 9 wc w.heap.size (fun _ => True) (.slice Ao6 t427.length co6) t427) ∧ Aside0 (wc.heap[gb426]? = some (.cells #[.int .i64 0, .bool false, (.slice none 0 0)] 24 (0, 0))) ∧ Aside0 (Below w.heap.size w wc))
 case first =>
  have H := HC3.out
  clear HC3
  replace H := ifI H
  rcases H with ⟨c7, H⟩ | ⟨c7, H⟩
  ·have c7b0 : decide ((t427.length : Int) < 2) = true := decide_eq_true c7
   have c7b1 : decide (t427.length < 2) = true := decide_eq_true (by omega)
   clear c7
   (first | rw [c7b0] | (simp only [i64_w, i32_w]; rw [c7b0]) | skip)
   have H' := sd H
   clear H
   go_wp2
   go_meet
   case rel => exact ⟨_, (true), zq1, H', ⟨by first | omega | exact Nat.le_refl _⟩, ⟨zq49⟩, ⟨zq50⟩, ⟨zq48⟩⟩
  have c7b0 : decide ((t427.length : Int) < 2) = false := decide_eq_false c7
  have c7b1 : decide (t427.length < 2) = false := decide_eq_false (by omega)
  clear c7
  (first | rw [c7b0] | (simp only [i64_w, i32_w]; rw [c7b0]) | skip)
  replace H := ifI H
  rcases H with ⟨c8, H⟩ | ⟨c8, H⟩
  ·obtain ⟨c8b0, c8b1⟩ := eqI c8
   clear c8
   have H' := sd H
   clear H
   go_wp2
   go_meet
   case rel => exact ⟨_, (decide ((t427.length : Int) > 12)), zq1, H', ⟨by first | omega | exact Nat.le_refl _⟩, ⟨zq49⟩, ⟨zq50⟩, ⟨zq48⟩⟩
  obtain ⟨c8b0, c8b1⟩ := neI c8
  have H' := sd H
  clear H
  go_wp2
  go_meet
  case rel => exact ⟨_, (true), zq1, H', ⟨by first | omega | exact Nat.le_refl _⟩, ⟨zq49⟩, ⟨zq50⟩, ⟨zq48⟩⟩
 case rest =>
  clear HC3
  try clear c1
  try clear p2
  try clear c3
  try clear c7
  try clear c7b0
  try clear c7b1
  try clear c8
  try clear c8b0
  try clear c8b1
  obtain ⟨kq, x30_2, rfl, HA, HJ2, HO_4, BK426, HB⟩ := hcut
  cases kq with
  | zero => exact absurd HA.out (by simp [rf24_Parse.j0])
  | succ kj2 =>
   have H := HA.out
   clear HA
   simp only [rf24_Parse.j0] at H
   by_cases c9 : x30_2 = true
   ·subst c9
    rw [if_pos rfl] at H
    simp only [Option.some.injEq, Prod.mk.injEq] at H
    obtain ⟨rfl, rfl, rfl, rfl⟩ := H
    obtain ⟨_, _, _, _, _, _⟩ := bk3 BK426
    go_wp2
    refine bodyPost_ret (results_ct rfl _ _ gb426 24 #[.int .i64 0, .bool false, .slice none 0 0] (0, 0) _ rfl zq51 Tryd.underlying24 rfl (by kernel_rfl)) rfl ?_
    exact ⟨_, zq8, zq43, zq48⟩
   replace c9 := Bool.eq_false_iff.mpr c9
   subst c9
   rw [if_neg Bool.false_ne_true] at H
   obtain ⟨ji11, hji11⟩ : ∃ j_ : Int, (wrap64 ((t427.length : Int) - 1)) = j_ := ⟨_, rfl⟩
   replace H : (if 0 ≤ (ji11) then (if (ji11) < (t427.length : Int) then ((rf01_Parse.f kj2 (rdOf ByteArray.empty t427 (ji11)) 0 365).bind fun bt431 => (if 0 ≤ (wrap64 ((t427.length : Int) - 2)) then (if (wrap64 ((t427.length : Int) - 2)) < (t427.length : Int) then (rf24_Parse.l0 kj2 a0 t427 (t427.length : Int) bt431.2 0 bt431.1 ((rdOf ByteArray.empty t427 (wrap64 ((t427.length : Int) - 2))).toList == ([101, 111, 109] : List UInt8)) ([] : List (S53))) else (none)) else (none))) else (none)) else (none)) = some (r1, r2, r3, r4) := by first | (rw [hji11] at H; exact H) | (simp only [hji11] at H ⊢; exact H)
   have hji11w : (IntKind.i64.wrap ((t427.length : Int) - 1)) = ji11 := (i64_w _).trans hji11
   replace H := ifI H
   rcases H with ⟨c12, H⟩ | ⟨c12, H⟩
   ·have c12b0 : decide (0 ≤ (ji11)) = true := decide_eq_true c12
    clear c12
    replace H := ifI H
    rcases H with ⟨c13, H⟩ | ⟨c13, H⟩
    ·have c13b0 : decide ((ji11) < (t427.length : Int)) = true := decide_eq_true c13
     clear c13
     replace H := bdI H
     obtain ⟨⟨t431, t432⟩, A14, H⟩ := H
     (try dsimp only at H)
     obtain ⟨ji15, hji15⟩ : ∃ j_ : Int, (wrap64 ((t427.length : Int) - 2)) = j_ := ⟨_, rfl⟩
     replace H : (if 0 ≤ (ji15) then (if (ji15) < (t427.length : Int) then (rf24_Parse.l0 kj2 a0 t427 (t427.length : Int) t432 0 t431 ((rdOf ByteArray.empty t427 (ji15)).toList == ([101, 111, 109] : List UInt8)) ([] : List (S53))) else (none)) else (none)) = some (r1, r2, r3, r4) := by first | (rw [hji15] at H; exact H) | (simp only [hji15] at H ⊢; exact H)
     (try rw [hji15] at A14)
     have hji15w : (IntKind.i64.wrap ((t427.length : Int) - 2)) = ji15 := (i64_w _).trans hji15
     replace H := ifI H
     rcases H with ⟨c16, H⟩ | ⟨c16, H⟩
     ·have c16b0 : decide (0 ≤ (ji15)) = true := decide_eq_true c16
      clear c16
      replace H := ifI H
      rcases H with ⟨c17, H⟩ | ⟨c17, H⟩
      ·have c17b0 : decide ((ji15) < (t427.length : Int)) = true := decide_eq_true c17
       clear c17
       have H' := sd H
       clear H
       have p430 : 0 ≤ ((ji11) : Int) := od
       have q430 : (ji11) < (t427.length : Int) := od
       obtain ⟨ad430, e430, hx430_0⟩ := Kd.at_string (Kd.R_reads' HO_4.out).2.2 (ji11) p430 q430
       cases e430
       replace p430 := eq_true p430
       replace q430 := eq_true q430
       go_wp2_with (first | ((with_reducible refine gate_callee (f := 39) rfl ?_); refine gL 38 Tryd.func39 #[.string (rdOf ByteArray.empty t427 (ji11)), .int .i64 0, .int .i64 365] ?_; (with_reducible refine (rf01_Parse.calls kj2 (rdOf ByteArray.empty t427 (ji11)) 0 365 t431 t432 _ A14.out).mono ?_); rintro e w' ⟨rfl, ⟨nd, rfl⟩⟩; refine ⟨_, rfl, ?_⟩; (try (rw [drewN_self wc]; generalize hq_ : World.drewN wc _ = wc; have n0_ : Aside0 (Kd.R Kd.string 9 wc w.heap.size (fun _ => True) (.slice (some ad430) t427.length co6) t427) := ⟨by rw [← hq_]; exact zq52⟩; have n1_ : Aside0 (wc.heap[gb426]? = some (.cells #[.int .i64 0, .bool false, .slice none 0 0] 24 (0, 0))) := ⟨by rw [← hq_]; exact zq50⟩; have n2_ : Aside0 (Below w.heap.size w wc) := ⟨by rw [← hq_]; exact zq48⟩; clear HO_4 BK426 HB hq_; have HO_4 := n0_; have BK426 := n1_; have HB := n2_; clear n0_ n1_ n2_; (try (have hdBK426_0 := (blk_cell BK426.out 0).trans rfl; have heBK426_0 := blk_frozen BK426.out 0; have hdBK426_1 := (blk_cell BK426.out 1).trans rfl; have heBK426_1 := blk_frozen BK426.out 1; have hdBK426_2 := (blk_cell BK426.out 2).trans rfl; have heBK426_2 := blk_frozen BK426.out 2)))); have p433 : 0 ≤ ((ji15) : Int) := od; have q433 : (ji15) < (t427.length : Int) := od; obtain ⟨ad433, e433, hx433_0⟩ := Kd.at_string (Kd.R_reads' HO_4.out).2.2 (ji15) p433 q433; obtain rfl : ad430 = ad433 := (by injection e433); replace p433 := eq_true p433; replace q433 := eq_true q433) | ((with_reducible refine gate_dst (N := 8) rfl ?_); refine bxA 8 #[.int .i64 0, .bool false, .slice none 0 0] 24 ?_; intro gb434 hg w18 hbox hb; have BK434 := sd (hbox); have GW434 := gem hg HB; have GE434 := GW434; have NB426_434 := nlm hg BK426; have NB434_426 := ngm hg BK426; replace HO_4 := rbm HO_4 hb; replace BK426 := bkm BK426 hb; replace HB := hbm HB hb; clear hb hbox hg; have hnb19 := NB434_426.out; have hnc19 := NB426_434.out; obtain ⟨_, _, _, _, _, _⟩ := bk3 BK434))
       go_loopg [7, 9] kj2 (fun kq v7 v9 w' => ∃ (x7_2 : Int) (x9_2 : Int) (x435002_2 : List (S53)) (u435002 : Value), v7 = .int .i64 x7_2 ∧ v9 = .int .i64 x9_2 ∧ Aside0 (rf24_Parse.l0 kq a0 t427 (t427.length : Int) x7_2 x9_2 t431 ((rdOf ByteArray.empty t427 (ji15)).toList == ([101, 111, 109] : List UInt8)) x435002_2 = some (r1, r2, r3, r4)) ∧ Aside0 (kq ≤ kj2) ∧ Aside0 (Kd.R Kd.string 9 w' w.heap.size (fun _ => True) (.slice (some ad430) t427.length co6) t427) ∧ Aside0 (Kd.R k53 53 w' w.heap.size (fun _ => True) u435002 x435002_2) ∧ Aside0 (w'.heap[gb426]? = some (.cells #[.int .i64 0, .bool false, (.slice none 0 0)] 24 (0, 0))) ∧ Aside0 (w'.heap[gb434]? = some (.cells #[.int .i64 t431, .bool ((rdOf ByteArray.empty t427 (ji15)).toList == ([101, 111, 109] : List UInt8)), u435002] 24 (0, 0))) ∧ Aside0 (Below w.heap.size w w'))
       case atStart => exact ⟨(t432), (0), (([] : List (S53))), (.slice none 0 0), zq1, zq1, H', ⟨Nat.le_refl _⟩, ⟨by (with_reducible repeat (first | apply Kd.R_alloc | apply Kd.R_drewN | apply Kd.R_drew)); exact Kd.R_mono (Kd.R_far (p := ⟨gb434, 2, none⟩) (Kd.R_far (p := ⟨gb434, 1, none⟩) (Kd.R_far (p := ⟨gb434, 0, none⟩) (Kd.R_types HO_4.out BK434.out (by decide)) (fun _ hk => hk.2) (.int .i64 t431)) (fun _ hk => hk.2) (.bool ((rdOf ByteArray.empty t427 (ji15)).toList == ([101, 111, 109] : List UInt8)))) (fun _ hk => hk.2) (.slice none 0 0)) (fun _ hk => trivial)⟩, ⟨zq43⟩, ⟨by (with_reducible repeat (first | refine blk_drewN ?_ _ | refine blk_drew ?_ | refine blk_alloc ?_ _)); refine blk_far ?_ NB426_434.out _; (with_reducible repeat (first | refine blk_drewN ?_ _ | refine blk_drew ?_ | refine blk_alloc ?_ _)); refine blk_far ?_ NB426_434.out _; (with_reducible repeat (first | refine blk_drewN ?_ _ | refine blk_drew ?_ | refine blk_alloc ?_ _)); refine blk_far ?_ NB426_434.out _; (with_reducible repeat (first | refine blk_drewN ?_ _ | refine blk_drew ?_ | refine blk_alloc ?_ _)); exact BK426.out⟩, ⟨by (with_reducible repeat (first | refine blk_drewN ?_ _ | refine blk_drew ?_ | refine blk_alloc ?_ _)); refine blk_put (cs := #[.int .i64 t431, .bool ((rdOf ByteArray.empty t427 (ji15)).toList == ([101, 111, 109] : List UInt8)), .slice none 0 0]) ?_ 2 _ rfl; (with_reducible repeat (first | refine blk_drewN ?_ _ | refine blk_drew ?_ | refine blk_alloc ?_ _)); refine blk_put (cs := #[.int .i64 t431, .bool false, .slice none 0 0]) ?_ 1 _ rfl; (with_reducible repeat (first | refine blk_drewN ?_ _ | refine blk_drew ?_ | refine blk_alloc ?_ _)); refine blk_put (cs := #[.int .i64 0, .bool false, .slice none 0 0]) ?_ 0 _ rfl; (with_reducible repeat (first | refine blk_drewN ?_ _ | refine blk_drew ?_ | refine blk_alloc ?_ _)); exact BK434.out⟩, ⟨zq53⟩⟩
       case round =>
        clear H'
        try clear c1
        try clear p2
        try clear c3
        try clear p4
        try clear q4
        try clear hx4
        try clear p6
        try clear c7
        try clear c7b0
        try clear c7b1
        try clear c8
        try clear c8b0
        try clear c8b1
        try clear c9
        try clear c12
        try clear c12b0
        try clear c13
        try clear c13b0
        try clear c16
        try clear c16b0
        try clear c17
        try clear c17b0
        try clear c19
        try clear hcz10_0
        try clear hcz10_1
        try clear hcz10_2
        try clear hcz20_0
        try clear hcz20_1
        try clear hcz20_2
        try clear hfz10_0
        try clear hfz10_1
        try clear hfz10_2
        try clear hfz20_0
        try clear hfz20_1
        try clear hfz20_2
        try clear hx430_0
        try clear hx433_0
        try clear p2
        try clear p430
        try clear p433
        try clear q430
        try clear q433
        obtain ⟨x7_2, x9_2, x435002_2, u435002, rfl, rfl, HA, HK2, HO_4, HO_435002, BK426, BK434, HB⟩ := hrel
        cases gk with
        | zero => exact absurd HA.out (by simp [rf24_Parse.l0])
        | succ k2 =>
         have H := HA.out
         clear HA
         simp only [rf24_Parse.l0] at H
         have HC21 := sd H
         clear H
         go_upto_region 8 with (fail)
         go_cut [56] (fun v56 wc => ∃ (kq : Nat) (x56_20 : Bool), v56 = .bool x56_20 ∧ Aside0 (rf24_Parse.j2 kq a0 t427 (t427.length : Int) x7_2 x9_2 x56_20 t431 ((rdOf ByteArray.empty t427 (ji15)).toList == ([101, 111, 109] : List UInt8)) x435002_2 = some (r1, r2, r3, r4)) ∧ Aside0 (kq ≤ k2) ∧ Aside0 (Kd.R Kd.string 9 wc w.heap.size (fun _ => True) (.slice (some ad430) t427.length co6) t427) ∧ Aside0 (Kd.R k53 53 wc w.heap.size (fun _ => True) u435002 x435002_2) ∧ Aside0 (wc.heap[gb426]? = some (.cells #[.int .i64 0, .bool false, (.slice none 0 0)] 24 (0, 0))) ∧ Aside0 (wc.heap[gb434]? = some (.cells #[.int .i64 t431, .bool ((rdOf ByteArray.empty t427 (ji15)).toList == ([101, 111, 109] : List UInt8)), u435002] 24 (0, 0))) ∧ Aside0 (Below w.heap.size w wc))
         case first =>
          have H := HC21.out
          clear HC21
          replace H := ifI H
          rcases H with ⟨c22, H⟩ | ⟨c22, H⟩
          ·have c22b0 : decide ((wrap64 (x9_2 + 2)) < (t427.length : Int)) = true := decide_eq_true c22
           clear c22
           (first | rw [c22b0] | (simp only [i64_w, i32_w]; rw [c22b0]) | skip)
           have H' := sd H
           clear H
           go_wp2
           go_meet
           case rel => exact ⟨_, ((x7_2 == 0)), zq1, H', ⟨by have := HJ2.out; have := HK2.out; first | omega | exact Nat.le_refl _⟩, ⟨zq52⟩, ⟨by (with_reducible repeat (first | apply Kd.R_alloc | apply Kd.R_drewN | apply Kd.R_drew)); exact HO_435002.out⟩, ⟨zq50⟩, ⟨by (with_reducible repeat (first | refine blk_drewN ?_ _ | refine blk_drew ?_ | refine blk_alloc ?_ _)); exact BK434.out⟩, ⟨zq53⟩⟩
          have c22b0 : decide ((wrap64 (x9_2 + 2)) < (t427.length : Int)) = false := decide_eq_false c22
          clear c22
          (first | rw [c22b0] | (simp only [i64_w, i32_w]; rw [c22b0]) | skip)
          have H' := sd H
          clear H
          go_wp2
          go_meet
          case rel => exact ⟨_, (false), zq1, H', ⟨by have := HJ2.out; have := HK2.out; first | omega | exact Nat.le_refl _⟩, ⟨zq52⟩, ⟨by (with_reducible repeat (first | apply Kd.R_alloc | apply Kd.R_drewN | apply Kd.R_drew)); exact HO_435002.out⟩, ⟨zq50⟩, ⟨by (with_reducible repeat (first | refine blk_drewN ?_ _ | refine blk_drew ?_ | refine blk_alloc ?_ _)); exact BK434.out⟩, ⟨zq53⟩⟩
         case rest =>
          clear HC21
          try clear c1
          try clear c2
          try clear p2
          try clear c3
          try clear p4
          try clear q4
          try clear hx4
          try clear p6
          try clear c7
          try clear c7b0
          try clear c7b1
          try clear c8
          try clear c8b0
          try clear c8b1
          try clear c9
          try clear c12
          try clear c12b0
          try clear c13
          try clear c13b0
          try clear c16
          try clear c16b0
          try clear c17
          try clear c17b0
          try clear c19
          try clear c22
          try clear c22b0
          try clear hcz10_0
          try clear hcz10_1
          try clear hcz10_2
          try clear hcz20_0
          try clear hcz20_1
          try clear hcz20_2
          try clear hfz10_0
          try clear hfz10_1
          try clear hfz10_2
          try clear hfz20_0
          try clear hfz20_1
          try clear hfz20_2
          try clear hx430_0
          try clear hx433_0
          try clear p2
          try clear p4
          try clear p430
          try clear p433
          try clear p6
          try clear q4
          try clear q430
          try clear q433
          obtain ⟨kq, x56_20, rfl, HA, HJ20, HO_4, HO_435002, BK426, BK434, HB⟩ := hcut
          cases kq with
          | zero => exact absurd HA.out (by simp [rf24_Parse.j2])
          | succ kj20 =>
           have H := HA.out
           clear HA
           simp only [rf24_Parse.j2] at H
           by_cases c23 : x56_20 = true
           ·subst c23
            rw [if_pos rfl] at H
            replace H := ifI H
            rcases H with ⟨c24, H⟩ | ⟨c24, H⟩
            ·have c24b0 : decide (0 ≤ x9_2) = true := decide_eq_true c24
             clear c24
             replace H := ifI H
             rcases H with ⟨c25, H⟩ | ⟨c25, H⟩
             ·have c25b0 : decide (x9_2 < (t427.length : Int)) = true := decide_eq_true c25
              clear c25
              replace H := bdI H
              obtain ⟨⟨t436, t437, t438⟩, A26, H⟩ := H
              (try dsimp only at H)
              obtain ⟨ji27, hji27⟩ : ∃ j_ : Int, (wrap64 (x9_2 + 1)) = j_ := ⟨_, rfl⟩
              replace H : (if 0 ≤ (ji27) then (if (ji27) < (t427.length : Int) then ((rf01_Parse.f kj20 (rdOf ByteArray.empty t427 (ji27)) 0 365).bind fun bt441 => (if x435002_2.length < 5864062014805 then (rf24_Parse.l0 kj20 a0 t427 (t427.length : Int) (mx t438 bt441.2) (wrap64 (x9_2 + 2)) t431 ((rdOf ByteArray.empty t427 (ji15)).toList == ([101, 111, 109] : List UInt8)) (x435002_2 ++ [(⟨bt441.1, (⟨t436, t437⟩ : S38)⟩ : S53)])) else (none))) else (none)) else (none)) = some (r1, r2, r3, r4) := by first | (rw [hji27] at H; exact H) | (simp only [hji27] at H ⊢; exact H)
              (try rw [hji27] at A26)
              have hji27w : (IntKind.i64.wrap (x9_2 + 1)) = ji27 := (i64_w _).trans hji27
              replace H := ifI H
              rcases H with ⟨c28, H⟩ | ⟨c28, H⟩
              ·have c28b0 : decide (0 ≤ (ji27)) = true := decide_eq_true c28
               clear c28
               replace H := ifI H
               rcases H with ⟨c29, H⟩ | ⟨c29, H⟩
               ·have c29b0 : decide ((ji27) < (t427.length : Int)) = true := decide_eq_true c29
                clear c29
                replace H := bdI H
                obtain ⟨⟨t441, t442⟩, A30, H⟩ := H
                (try dsimp only at H)
                obtain ⟨ji31, hji31⟩ : ∃ j_ : Int, (mx t438 t442) = j_ := ⟨_, rfl⟩
                replace H : (if x435002_2.length < 5864062014805 then (rf24_Parse.l0 kj20 a0 t427 (t427.length : Int) ji31 (wrap64 (x9_2 + 2)) t431 ((rdOf ByteArray.empty t427 (ji15)).toList == ([101, 111, 109] : List UInt8)) (x435002_2 ++ [(⟨t441, (⟨t436, t437⟩ : S38)⟩ : S53)])) else (none)) = some (r1, r2, r3, r4) := by first | (rw [hji31] at H; exact H) | (simp only [hji31] at H ⊢; exact H)
                (try rw [hji31] at A26)
                (try rw [hji31] at A30)
                have hji31_ : (if t438 < t442 then t442 else t438) = ji31 := hji31
                replace H := ifI H
                rcases H with ⟨c32, H⟩ | ⟨c32, H⟩
                ·have LMc32 := sd c32
                 clear c32
                 obtain ⟨y443, hy443⟩ : ∃ y_ : List (S53), y_ = (x435002_2 ++ [(⟨t441, (⟨t436, t437⟩ : S38)⟩ : S53)]) := ⟨_, rfl⟩
                 replace H : (rf24_Parse.l0 kj20 a0 t427 (t427.length : Int) ji31 (wrap64 (x9_2 + 2)) t431 ((rdOf ByteArray.empty t427 (ji15)).toList == ([101, 111, 109] : List UInt8)) y443) = some (r1, r2, r3, r4) := by first | (rw [hy443]; with_reducible exact H) | (have H2_ := (Option.bind_some _ _).symm.trans H; rw [hy443]; with_reducible exact H2_) | (have H2_ := (Option.bind_some _ _).symm.trans H; with_reducible exact H2_) | with_reducible exact H | (rw [hy443]; exact H) | exact H
                 have Ny443 := sd hy443
                 clear hy443
                 have H' := sd H
                 clear H
                 have p435 : 0 ≤ (x9_2 : Int) := od
                 have q435 : x9_2 < (t427.length : Int) := od
                 obtain ⟨ad435, e435, hx435_0⟩ := Kd.at_string (Kd.R_reads' HO_4.out).2.2 x9_2 p435 q435
                 obtain rfl : ad430 = ad435 := (by injection e435)
                 replace p435 := eq_true p435
                 replace q435 := eq_true q435
                 go_wp2_with (first | ((with_reducible refine gate_callee (f := 40) rfl ?_); refine gL 64 Tryd.func40 #[.string (rdOf ByteArray.empty t427 x9_2)] ?_; (with_reducible refine (rf03_Parse.calls kj20 (rdOf ByteArray.empty t427 x9_2) t436 t437 t438 _ A26.out).mono ?_); rintro e w33 ⟨rfl, hb⟩; refine ⟨_, rfl, ?_⟩; replace HO_4 := rbm HO_4 hb; replace HO_435002 := rbm HO_435002 hb; replace BK426 := bkm BK426 hb; replace BK434 := bkm BK434 hb; replace HB := hbm HB hb; clear hb) | ((with_reducible refine gate_dst (N := 10) rfl ?_); refine bxA 10 #[.int .i64 0, .int .i64 0] 38 ?_; intro gb439 hg w34 hbox hb; have BK439 := sd (hbox); have GW439 := gem hg HB; have GE439 := GW439; have NB426_439 := nlm hg BK426; have NB439_426 := ngm hg BK426; have NB434_439 := nlm hg BK434; have NB439_434 := ngm hg BK434; replace HO_4 := rbm HO_4 hb; replace HO_435002 := rbm HO_435002 hb; replace BK426 := bkm BK426 hb; replace BK434 := bkm BK434 hb; replace HB := hbm HB hb; clear hb hbox hg; have hnb35 := NB439_426.out; have hnc35 := NB426_439.out; have hnb36 := NB439_434.out; have hnc36 := NB434_439.out; obtain ⟨_, _, _, _⟩ := bk2 BK439; have p440 : 0 ≤ ((ji27) : Int) := od; have q440 : (ji27) < (t427.length : Int) := od; obtain ⟨ad440, e440, hx440_0⟩ := Kd.at_string (Kd.R_reads' HO_4.out).2.2 (ji27) p440 q440; obtain rfl : ad430 = ad440 := (by injection e440); have hn440_0 : ad430.block ≠ gb439 := Kd.own_blk (Kd.R_ne HO_4.out BK439.out (by decide)); have hn440_1 : ad430.block ≠ gb439 := Kd.own_blk (Kd.R_ne HO_4.out BK439.out (by decide)); replace hx440_0 := (cell_far (p := ⟨gb439, 0, none⟩) (by first | (rw [add_block]; exact hn440_0) | (show (Addr.add _ _).block ≠ _; rw [add_block]; exact hn440_0) | exact hn440_0) (.int .i64 t436)).trans hx440_0; replace hx440_0 := (cell_far (p := ⟨gb439, 1, none⟩) (by first | (rw [add_block]; exact hn440_1) | (show (Addr.add _ _).block ≠ _; rw [add_block]; exact hn440_1) | exact hn440_1) (.int .i64 t437)).trans hx440_0; clear hn440_0; clear hn440_1; replace p440 := eq_true p440; replace q440 := eq_true q440) | ((with_reducible refine gate_callee (f := 39) rfl ?_); refine gL 73 Tryd.func39 #[.string (rdOf ByteArray.empty t427 (ji27)), .int .i64 0, .int .i64 365] ?_; (with_reducible refine (rf01_Parse.calls kj20 (rdOf ByteArray.empty t427 (ji27)) 0 365 t441 t442 _ A30.out).mono ?_); rintro e w' ⟨rfl, ⟨nd, rfl⟩⟩; refine ⟨_, rfl, ?_⟩; have hnb38 := NB434_426.out; have hnc38 := NB426_434.out; obtain ⟨_, _, _, _, _, _⟩ := bk3 BK434) | ((with_reducible refine gate_builtin (b := .append) (xs := #[.tmp 80, .tmp 84]) rfl ?_); at_builtin; refine Kd.R_append k53 (w0 := w) w.heap.size rfl (.tmp 80) (.tmp 84) 22 53 (.agg #[(.int .i64 0), (.int .i64 0), (.int .i64 0)]) 24 rfl Tryd.underlying22 info53 rfl (by decide) (by omega) u435002 x435002_2 (⟨t441, (⟨t436, t437⟩ : S38)⟩ : S53) [.int .i64 t441, .int .i64 t436, .int .i64 t437] (fun _ => True) (fun _ => False) rfl zq54 ?aP (fun _ hk => hk.elim) ?aF ?aO ?aB ?aS ?aL ?_; (case aP => exact k53_mkM _ _ _ (⟨t441, (⟨t436, t437⟩ : S38)⟩ : S53)); (case aB => exact zq55); (case aF => exact (fun _ _ => trivial)); (case aO => exact (by (with_reducible repeat (first | apply Kd.R_alloc | apply Kd.R_drewN | apply Kd.R_drew)); exact Kd.R_mono (Kd.R_far (p := ⟨gb439, 1, none⟩) (Kd.R_far (p := ⟨gb439, 0, none⟩) (Kd.R_types HO_435002.out BK439.out (by decide)) (fun _ hk => hk.2) (.int .i64 t436)) (fun _ hk => hk.2) (.int .i64 t437)) (fun _ hk => trivial))); (case aS => exact (below_size zq55)); (case aL => have := LMc32.out; omega); intro v444 w40 ho hb hg hat; rw [← Ny443.out] at ho; have HO445 := sd (ho); replace HO_4 := sd (Kd.R_over' (by (with_reducible repeat (first | apply Kd.R_alloc | apply Kd.R_drewN | apply Kd.R_drew)); exact (Kd.R_mono (Kd.R_far (p := ⟨gb439, 1, none⟩) (Kd.R_far (p := ⟨gb439, 0, none⟩) (Kd.R_types HO_4.out BK439.out (by decide)) (fun _ hk => hk.2) (.int .i64 t436)) (fun _ hk => hk.2) (.int .i64 t437)) (fun _ h_ => h_.1))) (Kd.R_typed (by (with_reducible repeat (first | apply Kd.R_alloc | apply Kd.R_drewN | apply Kd.R_drew)); exact (Kd.R_mono (Kd.R_far (p := ⟨gb439, 1, none⟩) (Kd.R_far (p := ⟨gb439, 0, none⟩) (Kd.R_types HO_435002.out BK439.out (by decide)) (fun _ hk => hk.2) (.int .i64 t436)) (fun _ hk => hk.2) (.int .i64 t437)) (fun _ h_ => h_.1)))) (by decide) hg); replace BK426 := sd (blk_grown (g := gb426) (o := .cells #[.int .i64 0, .bool false, .slice none 0 0] 24 (0, 0)) (by (with_reducible repeat (first | refine blk_drewN ?_ _ | refine blk_drew ?_ | refine blk_alloc ?_ _)); refine blk_far ?_ NB426_439.out _; (with_reducible repeat (first | refine blk_drewN ?_ _ | refine blk_drew ?_ | refine blk_alloc ?_ _)); refine blk_far ?_ NB426_439.out _; (with_reducible repeat (first | refine blk_drewN ?_ _ | refine blk_drew ?_ | refine blk_alloc ?_ _)); exact BK426.out) hg (Kd.R_ne HO_435002.out BK426.out (by decide))); replace BK434 := sd (blk_grown (g := gb434) (o := .cells #[.int .i64 t431, .bool ((rdOf ByteArray.empty t427 (ji15)).toList == ([101, 111, 109] : List UInt8)), u435002] 24 (0, 0)) (by (with_reducible repeat (first | refine blk_drewN ?_ _ | refine blk_drew ?_ | refine blk_alloc ?_ _)); refine blk_far ?_ NB434_439.out _; (with_reducible repeat (first | refine blk_drewN ?_ _ | refine blk_drew ?_ | refine blk_alloc ?_ _)); refine blk_far ?_ NB434_439.out _; (with_reducible repeat (first | refine blk_drewN ?_ _ | refine blk_drew ?_ | refine blk_alloc ?_ _)); exact BK434.out) hg (Kd.R_ne HO_435002.out BK434.out (by decide))); replace BK439 := sd (blk_grown (g := gb439) (o := .cells #[.int .i64 t436, .int .i64 t437] 38 (0, 0)) (by (with_reducible repeat (first | refine blk_drewN ?_ _ | refine blk_drew ?_ | refine blk_alloc ?_ _)); refine blk_put (cs := #[.int .i64 t436, .int .i64 0]) ?_ 1 _ rfl; (with_reducible repeat (first | refine blk_drewN ?_ _ | refine blk_drew ?_ | refine blk_alloc ?_ _)); refine blk_put (cs := #[.int .i64 0, .int .i64 0]) ?_ 0 _ rfl; (with_reducible repeat (first | refine blk_drewN ?_ _ | refine blk_drew ?_ | refine blk_alloc ?_ _)); exact BK439.out) hg (Kd.R_ne HO_435002.out BK439.out (by decide))); replace HB := sd (hb); clear HO_435002; clear ho hb hg hat; obtain ⟨Ao41, co41, eo41⟩ := Kd.R_slice HO445.out; subst eo41; obtain ⟨_, _, _, _, _, _⟩ := bk3 BK434))
                 go_roundg kj20
                 case measure => have := HJ2.out; have := HK2.out; have := HJ20.out; omega
                 case rel => exact ⟨(ji31), (wrap64 (x9_2 + 2)), (y443), (.slice Ao41 y443.length co41), (by first | rfl | (simp; done) | (simp only [← hji31] <;> (first | rfl | simp)) | (simp [*]; done)), zq1, H', ⟨by have := HJ2.out; have := HK2.out; have := HJ20.out; omega⟩, ⟨by (with_reducible repeat (first | apply Kd.R_alloc | apply Kd.R_drewN | apply Kd.R_drew)); exact Kd.R_mono (Kd.R_far (p := ⟨gb434, 2, none⟩) (Kd.R_types HO_4.out BK434.out (by decide)) (fun _ hk => hk.2) (.slice Ao41 y443.length co41)) (fun _ hk => trivial)⟩, ⟨by (with_reducible repeat (first | apply Kd.R_alloc | apply Kd.R_drewN | apply Kd.R_drew)); exact Kd.R_mono (Kd.R_far (p := ⟨gb434, 2, none⟩) (Kd.R_types HO445.out BK434.out (by decide)) (fun _ hk => hk.2) (.slice Ao41 y443.length co41)) (fun _ hk => trivial)⟩, ⟨by (with_reducible repeat (first | refine blk_drewN ?_ _ | refine blk_drew ?_ | refine blk_alloc ?_ _)); refine blk_far ?_ NB426_434.out _; (with_reducible repeat (first | refine blk_drewN ?_ _ | refine blk_drew ?_ | refine blk_alloc ?_ _)); exact BK426.out⟩, ⟨by (with_reducible repeat (first | refine blk_drewN ?_ _ | refine blk_drew ?_ | refine blk_alloc ?_ _)); refine blk_put (cs := #[.int .i64 t431, .bool ((rdOf ByteArray.empty t427 (ji15)).toList == ([101, 111, 109] : List UInt8)), u435002]) ?_ 2 _ rfl; (with_reducible repeat (first | refine blk_drewN ?_ _ | refine blk_drew ?_ | refine blk_alloc ?_ _)); exact BK434.out⟩, ⟨zq55⟩⟩
                exact absurd H (by simp)
               exact absurd H (by simp)
              exact absurd H (by simp)
             exact absurd H (by simp)
            exact absurd H (by simp)
           replace c23 := Bool.eq_false_iff.mpr c23
           subst c23
           rw [if_neg Bool.false_ne_true] at H
           replace H := bdI H
           obtain ⟨⟨t446, t447⟩, A43, H⟩ := H
           (try dsimp only at H)
           replace H := ifI H
           rcases H with ⟨c44, H⟩ | ⟨c44, H⟩
           ·obtain ⟨c44b0, c44b1⟩ := eqI c44
            clear c44
            replace H := ifI H
            rcases H with ⟨c45, H⟩ | ⟨c45, H⟩
            ·obtain ⟨c45b0, c45b1⟩ := eqI c45
             clear c45
             replace H := ifI H
             rcases H with ⟨c46, H⟩ | ⟨c46, H⟩
             ·obtain ⟨c46b0, c46b1⟩ := eqI c46
              clear c46
              simp only [Option.some.injEq, Prod.mk.injEq] at H
              obtain ⟨rfl, rfl, rfl, rfl⟩ := H
              have hnb47 := NB434_426.out
              have hnc47 := NB426_434.out
              obtain ⟨_, _, _, _, _, _⟩ := bk3 BK434
              obtain ⟨Ao49, co49, eo49⟩ := Kd.R_slice HO_435002.out
              subst eo49
              go_wp2_with (first | ((with_reducible refine gate_callee (f := 11) rfl ?_); refine gL 89 Tryd.func11 #[.agg #[.int .i64 t431, .bool ((rdOf ByteArray.empty t427 (ji15)).toList == ([101, 111, 109] : List UInt8)), .slice Ao49 x435002_2.length co49]] ?_; (with_reducible refine (rf24_Text.calls kj20 t431 ((rdOf ByteArray.empty t427 (ji15)).toList == ([101, 111, 109] : List UInt8)) _ _ x435002_2 t446 t447 _ ?side1 ?side2 A43.out).mono ?_); (case side1 => exact zq56); (case side2 => exact (Kd.R_reads' HO_435002.out).2.1); rintro e w50 ⟨rfl, hb⟩; refine ⟨_, rfl, ?_⟩; replace HO_4 := rbm HO_4 hb; replace HO_435002 := rbm HO_435002 hb; replace BK426 := bkm BK426 hb; replace BK434 := bkm BK434 hb; replace HB := hbm HB hb; clear hb; obtain ⟨_, _, _, _, _, _⟩ := bk3 BK434; obtain ⟨_, _, _, _, _, _⟩ := bk3 BK426))
              refine bodyPost_ret (results_ct rfl _ _ gb426 24 #[.int .i64 t431, .bool ((rdOf ByteArray.empty t427 (ji15)).toList == ([101, 111, 109] : List UInt8)), .slice Ao49 x435002_2.length co49] (0, 0) _ rfl (by (with_reducible repeat (first | refine blk_drewN ?_ _ | refine blk_drew ?_ | refine blk_alloc ?_ _)); refine blk_put (cs := #[.int .i64 t431, .bool ((rdOf ByteArray.empty t427 (ji15)).toList == ([101, 111, 109] : List UInt8)), .slice none 0 0]) ?_ 2 _ rfl; (with_reducible repeat (first | refine blk_drewN ?_ _ | refine blk_drew ?_ | refine blk_alloc ?_ _)); refine blk_put (cs := #[.int .i64 t431, .bool false, .slice none 0 0]) ?_ 1 _ rfl; (with_reducible repeat (first | refine blk_drewN ?_ _ | refine blk_drew ?_ | refine blk_alloc ?_ _)); refine blk_put (cs := #[.int .i64 0, .bool false, .slice none 0 0]) ?_ 0 _ rfl; (with_reducible repeat (first | refine blk_drewN ?_ _ | refine blk_drew ?_ | refine blk_alloc ?_ _)); exact BK426.out) Tryd.underlying24 rfl (by kernel_rfl)) rfl ?_
              exact ⟨_, zq57, by (with_reducible repeat (first | apply Kd.R_alloc | apply Kd.R_drewN | apply Kd.R_drew)); exact Kd.R_mono (Kd.R_far (p := ⟨gb426, 2, none⟩) (Kd.R_far (p := ⟨gb426, 1, none⟩) (Kd.R_far (p := ⟨gb426, 0, none⟩) (Kd.R_types HO_435002.out BK426.out (by decide)) (fun _ hk => hk.2) (.int .i64 t431)) (fun _ hk => hk.2) (.bool ((rdOf ByteArray.empty t427 (ji15)).toList == ([101, 111, 109] : List UInt8)))) (fun _ hk => hk.2) (.slice Ao49 x435002_2.length co49)) (fun _ hk => trivial), zq53⟩
             obtain ⟨c46b0, c46b1⟩ := neI c46
             simp only [Option.some.injEq, Prod.mk.injEq] at H
             obtain ⟨rfl, rfl, rfl, rfl⟩ := H
             have hnb53 := NB434_426.out
             have hnc53 := NB426_434.out
             obtain ⟨_, _, _, _, _, _⟩ := bk3 BK434
             obtain ⟨Ao55, co55, eo55⟩ := Kd.R_slice HO_435002.out
             subst eo55
             go_wp2_with (first | ((with_reducible refine gate_callee (f := 11) rfl ?_); refine gL 89 Tryd.func11 #[.agg #[.int .i64 t431, .bool ((rdOf ByteArray.empty t427 (ji15)).toList == ([101, 111, 109] : List UInt8)), .slice Ao55 x435002_2.length co55]] ?_; (with_reducible refine (rf24_Text.calls kj20 t431 ((rdOf ByteArray.empty t427 (ji15)).toList == ([101, 111, 109] : List UInt8)) _ _ x435002_2 t446 t447 _ ?side1 ?side2 A43.out).mono ?_); (case side1 => exact zq56); (case side2 => exact (Kd.R_reads' HO_435002.out).2.1); rintro e w56 ⟨rfl, hb⟩; refine ⟨_, rfl, ?_⟩; replace HO_4 := rbm HO_4 hb; replace HO_435002 := rbm HO_435002 hb; replace BK426 := bkm BK426 hb; replace BK434 := bkm BK434 hb; replace HB := hbm HB hb; clear hb; obtain ⟨_, _, _, _, _, _⟩ := bk3 BK426))
             refine bodyPost_ret (results_ct rfl _ _ gb426 24 #[.int .i64 0, .bool false, .slice none 0 0] (0, 0) _ rfl zq51 Tryd.underlying24 rfl (by kernel_rfl)) rfl ?_
             exact ⟨_, zq57, zq43, zq53⟩
            obtain ⟨c45b0, c45b1⟩ := neI c45
            simp only [Option.some.injEq, Prod.mk.injEq] at H
            obtain ⟨rfl, rfl, rfl, rfl⟩ := H
            have hnb58 := NB434_426.out
            have hnc58 := NB426_434.out
            obtain ⟨_, _, _, _, _, _⟩ := bk3 BK434
            obtain ⟨Ao60, co60, eo60⟩ := Kd.R_slice HO_435002.out
            subst eo60
            go_wp2_with (first | ((with_reducible refine gate_callee (f := 11) rfl ?_); refine gL 89 Tryd.func11 #[.agg #[.int .i64 t431, .bool ((rdOf ByteArray.empty t427 (ji15)).toList == ([101, 111, 109] : List UInt8)), .slice Ao60 x435002_2.length co60]] ?_; (with_reducible refine (rf24_Text.calls kj20 t431 ((rdOf ByteArray.empty t427 (ji15)).toList == ([101, 111, 109] : List UInt8)) _ _ x435002_2 t446 t447 _ ?side1 ?side2 A43.out).mono ?_); (case side1 => exact zq56); (case side2 => exact (Kd.R_reads' HO_435002.out).2.1); rintro e w61 ⟨rfl, hb⟩; refine ⟨_, rfl, ?_⟩; replace HO_4 := rbm HO_4 hb; replace HO_435002 := rbm HO_435002 hb; replace BK426 := bkm BK426 hb; replace BK434 := bkm BK434 hb; replace HB := hbm HB hb; clear hb; obtain ⟨_, _, _, _, _, _⟩ := bk3 BK426))
            refine bodyPost_ret (results_ct rfl _ _ gb426 24 #[.int .i64 0, .bool false, .slice none 0 0] (0, 0) _ rfl zq51 Tryd.underlying24 rfl (by kernel_rfl)) rfl ?_
            exact ⟨_, zq57, zq43, zq53⟩
           obtain ⟨c44b0, c44b1⟩ := neI c44
           simp only [Option.some.injEq, Prod.mk.injEq] at H
           obtain ⟨rfl, rfl, rfl, rfl⟩ := H
           have hnb63 := NB434_426.out
           have hnc63 := NB426_434.out
           obtain ⟨_, _, _, _, _, _⟩ := bk3 BK434
           obtain ⟨Ao65, co65, eo65⟩ := Kd.R_slice HO_435002.out
           subst eo65
           go_wp2_with (first | ((with_reducible refine gate_callee (f := 11) rfl ?_); refine gL 89 Tryd.func11 #[.agg #[.int .i64 t431, .bool ((rdOf ByteArray.empty t427 (ji15)).toList == ([101, 111, 109] : List UInt8)), .slice Ao65 x435002_2.length co65]] ?_; (with_reducible refine (rf24_Text.calls kj20 t431 ((rdOf ByteArray.empty t427 (ji15)).toList == ([101, 111, 109] : List UInt8)) _ _ x435002_2 t446 t447 _ ?side1 ?side2 A43.out).mono ?_); (case side1 => exact zq56); (case side2 => exact (Kd.R_reads' HO_435002.out).2.1); rintro e w66 ⟨rfl, hb⟩; refine ⟨_, rfl, ?_⟩; replace HO_4 := rbm HO_4 hb; replace HO_435002 := rbm HO_435002 hb; replace BK426 := bkm BK426 hb; replace BK434 := bkm BK434 hb; replace HB := hbm HB hb; clear hb; obtain ⟨_, _, _, _, _, _⟩ := bk3 BK426))
           refine bodyPost_ret (results_ct rfl _ _ gb426 24 #[.int .i64 0, .bool false, .slice none 0 0] (0, 0) _ rfl zq51 Tryd.underlying24 rfl (by kernel_rfl)) rfl ?_
           exact ⟨_, zq57, zq43, zq53⟩
      exact absurd H (by simp)
     exact absurd H (by simp)
    exact absurd H (by simp)
   exact absurd H (by simp)
def lw24_TermsParse.f (k : Nat) (a0 : ByteArray) : Option (Bool) := if (a0.size : Int) > 400 then ((lw24_lives.f).bind fun t448 => (some t448)) else ((terms_Parse.f k a0).bind fun bt449 => ((rf24_Parse.f k a0).bind fun bt456 => ((rf24_Same.f k bt449.1 bt449.2.1 bt449.2.2.1 bt456.1 bt456.2.1 bt456.2.2.1).bind fun t463 => (if t463 = true then (if bt449.2.2.2 = bt456.2.2.2 then ((lw24_lives.f).bind fun t464 => (some t464)) else (some false)) else (some false)))))
theorem lw24_TermsParse.calls (k : Nat) (a0 : ByteArray) (r : Bool) (w : World) (h : lw24_TermsParse.f k a0 = some r) (hG : Gl w) :
  Calls Tryd.prog 6 #[.string a0] w fun e w' => e = .returned (.bool r) ∧ Below w.heap.size w w' := by
 have HG := sd hG
 clear hG
 have hu24 := Tryd.underlying24
 have HB := sd (Below.refl w.heap.size w)
 have H := h
 clear h
 unfold lw24_TermsParse.f at H
 replace H := ifI H
 rcases H with ⟨c2, H⟩ | ⟨c2, H⟩
 ·have c2b0 : decide (400 < (a0.size : Int)) = true := decide_eq_true c2
  have c2b1 : decide (400 < a0.size) = true := decide_eq_true (by omega)
  clear c2
  replace H := bdI H
  obtain ⟨t448, A3, H⟩ := H
  (try dsimp only at H)
  obtain rfl := Option.some.inj H
  go_enter Tryd.func6, Tryd.ntmps6
  go_wp2_with (first | ((with_reducible refine gate_callee (f := 9) rfl ?_); refine gL 10 Tryd.func9 #[] ?_; (with_reducible refine (lw24_lives.calls  t448 _ A3.out (gl_below HG.out zq91)).mono ?_); rintro e w4 ⟨rfl, hb⟩; refine ⟨_, rfl, ?_⟩; replace HB := hbm HB hb; clear hb))
  go_ret
  exact ⟨zq8, zq34⟩
 have c2b0 : decide (400 < (a0.size : Int)) = false := decide_eq_false c2
 have c2b1 : decide (400 < a0.size) = false := decide_eq_false (by omega)
 clear c2
 replace H := bdI H
 obtain ⟨⟨t449, t450, t451, t454⟩, A5, H⟩ := H
 (try dsimp only at H)
 replace H := bdI H
 obtain ⟨⟨t456, t457, t458, t461⟩, A6, H⟩ := H
 (try dsimp only at H)
 replace H := bdI H
 obtain ⟨t463, A7, H⟩ := H
 (try dsimp only at H)
 by_cases c8 : t463 = true
 ·subst c8
  rw [if_pos rfl] at H
  replace H := ifI H
  rcases H with ⟨c9, H⟩ | ⟨c9, H⟩
  ·obtain ⟨c9b0, c9b1⟩ := eqI c9
   clear c9
   replace H := bdI H
   obtain ⟨t464, A10, H⟩ := H
   (try dsimp only at H)
   obtain rfl := Option.some.inj H
   go_enter Tryd.func6, Tryd.ntmps6
   go_wp2_with (first | ((with_reducible refine gate_callee (f := 18) rfl ?_); refine gL 13 Tryd.func18 #[.string a0] ?_; (with_reducible refine (terms_Parse.calls k a0 t449 t450 t451 t454 _ A5.out).mono ?_); rintro e w11 ⟨v452, rfl, ho0, hb⟩; refine ⟨_, rfl, ?_⟩; have HO453 := sd (Kd.R_lower ho0 (below_size zq34)); replace HB := hbm HB hb; clear hb; (try clear ho0)) | ((with_reducible refine gate_dst (N := 3) rfl ?_); refine bxA 3 #[.int .i64 0, .bool false, .slice none 0 0] 24 ?_; intro gb455 hg w12 hbox hb; have BK455 := sd (hbox); have GW455 := gem hg HB; have GE455 := GW455; replace HO453 := rbm HO453 hb; replace HB := hbm HB hb; clear hb hbox hg; obtain ⟨_, _, _, _, _, _⟩ := bk3 BK455; obtain ⟨Ao14, co14, eo14⟩ := Kd.R_slice HO453.out; subst eo14) | ((with_reducible refine gate_callee (f := 19) rfl ?_); refine gL 18 Tryd.func19 #[.string a0] ?_; (with_reducible refine (rf24_Parse.calls k a0 t456 t457 t458 t461 _ A6.out).mono ?_); rintro e w15 ⟨v459, rfl, ho0, hb⟩; refine ⟨_, rfl, ?_⟩; have HO460 := sd (Kd.R_lower (Kd.R_new' ho0 (Kd.R_lt (by (with_reducible repeat (first | apply Kd.R_alloc | apply Kd.R_drewN | apply Kd.R_drew)); exact (Kd.R_mono (Kd.R_far (p := ⟨gb455, 2, none⟩) (Kd.R_far (p := ⟨gb455, 1, none⟩) (Kd.R_far (p := ⟨gb455, 0, none⟩) (Kd.R_types HO453.out BK455.out (by decide)) (fun _ hk => hk.2) (.int .i64 t449)) (fun _ hk => hk.2) (.bool t450)) (fun _ hk => hk.2) (.slice Ao14 t451.length co14)) (fun _ h_ => h_.1))))) (below_size zq92)); replace HO453 := sd (Kd.R_elder' (by (with_reducible repeat (first | apply Kd.R_alloc | apply Kd.R_drewN | apply Kd.R_drew)); exact (Kd.R_mono (Kd.R_far (p := ⟨gb455, 2, none⟩) (Kd.R_far (p := ⟨gb455, 1, none⟩) (Kd.R_far (p := ⟨gb455, 0, none⟩) (Kd.R_types HO453.out BK455.out (by decide)) (fun _ hk => hk.2) (.int .i64 t449)) (fun _ hk => hk.2) (.bool t450)) (fun _ hk => hk.2) (.slice Ao14 t451.length co14)) (fun _ h_ => h_.1))) (Kd.R_base ho0) hb); replace BK455 := sd (blk_below (g := gb455) (o := .cells #[.int .i64 t449, .bool t450, .slice Ao14 t451.length co14] 24 (0, 0)) zq93 hb); replace HB := hbm HB hb; clear hb; (try clear ho0)) | ((with_reducible refine gate_dst (N := 5) rfl ?_); refine bxA 5 #[.int .i64 0, .bool false, .slice none 0 0] 24 ?_; intro gb462 hg w16 hbox hb; have BK462 := sd (hbox); have GW462 := gem hg HB; have GE462 := GW462; have NB455_462 := nlm hg BK455; have NB462_455 := ngm hg BK455; replace HO453 := rbm HO453 hb; replace HO460 := rbm HO460 hb; replace BK455 := bkm BK455 hb; replace HB := hbm HB hb; clear hb hbox hg; have hnb17 := NB462_455.out; have hnc17 := NB455_462.out; obtain ⟨_, _, _, _, _, _⟩ := bk3 BK462; obtain ⟨Ao19, co19, eo19⟩ := Kd.R_slice HO460.out; subst eo19; obtain ⟨_, _, _, _, _, _⟩ := bk3 BK455) | ((with_reducible refine gate_callee (f := 20) rfl ?_); refine gL 23 Tryd.func20 #[.agg #[.int .i64 t449, .bool t450, .slice Ao14 t451.length co14], .agg #[.int .i64 t456, .bool t457, .slice Ao19 t458.length co19]] ?_; (with_reducible refine (rf24_Same.calls k t449 t450 _ _ t451 t456 t457 _ _ t458 true _ ?side1 ?side2 ?side3 ?side4 A7.out).mono ?_); (case side1 => exact (by refine (Kd.R_reads' (e := 53) (base := w.heap.size) (ok := fun k_ => (True ∧ some k_ ≠ (.slice Ao19 t458.length co19 : Value).ownBlock)) (n := t451.length) (c := co14) ?_).2.2; exact (by (with_reducible repeat (first | apply Kd.R_alloc | apply Kd.R_drewN | apply Kd.R_drew)); exact (Kd.R_mono (Kd.R_far (p := ⟨gb462, 2, none⟩) (Kd.R_far (p := ⟨gb462, 1, none⟩) (Kd.R_far (p := ⟨gb462, 0, none⟩) (Kd.R_types HO453.out BK462.out (by decide)) (fun _ hk => hk.2) (.int .i64 t456)) (fun _ hk => hk.2) (.bool t457)) (fun _ hk => hk.2) (.slice Ao19 t458.length co19)) (fun _ h_ => h_.1))))); (case side2 => exact (Kd.R_reads' HO453.out).2.1); (case side3 => exact (by refine (Kd.R_reads' (e := 53) (base := w.heap.size) (ok := fun k_ => (True ∧ some k_ ≠ (.slice Ao14 t451.length co14 : Value).ownBlock)) (n := t458.length) (c := co19) ?_).2.2; exact (by (with_reducible repeat (first | apply Kd.R_alloc | apply Kd.R_drewN | apply Kd.R_drew)); exact (Kd.R_mono (Kd.R_far (p := ⟨gb462, 2, none⟩) (Kd.R_far (p := ⟨gb462, 1, none⟩) (Kd.R_far (p := ⟨gb462, 0, none⟩) (Kd.R_types HO460.out BK462.out (by decide)) (fun _ hk => hk.2) (.int .i64 t456)) (fun _ hk => hk.2) (.bool t457)) (fun _ hk => hk.2) (.slice Ao19 t458.length co19)) (fun _ h_ => h_.1))))); (case side4 => exact (Kd.R_reads' HO460.out).2.1); rintro e w21 ⟨rfl, hb⟩; refine ⟨_, rfl, ?_⟩; replace HO453 := sd (Kd.R_below (by (with_reducible repeat (first | apply Kd.R_alloc | apply Kd.R_drewN | apply Kd.R_drew)); exact (Kd.R_mono (Kd.R_far (p := ⟨gb462, 2, none⟩) (Kd.R_far (p := ⟨gb462, 1, none⟩) (Kd.R_far (p := ⟨gb462, 0, none⟩) (Kd.R_types HO453.out BK462.out (by decide)) (fun _ hk => hk.2) (.int .i64 t456)) (fun _ hk => hk.2) (.bool t457)) (fun _ hk => hk.2) (.slice Ao19 t458.length co19)) (fun _ h_ => h_.1))) hb); replace HO460 := sd (Kd.R_below (by (with_reducible repeat (first | apply Kd.R_alloc | apply Kd.R_drewN | apply Kd.R_drew)); exact (Kd.R_mono (Kd.R_far (p := ⟨gb462, 2, none⟩) (Kd.R_far (p := ⟨gb462, 1, none⟩) (Kd.R_far (p := ⟨gb462, 0, none⟩) (Kd.R_types HO460.out BK462.out (by decide)) (fun _ hk => hk.2) (.int .i64 t456)) (fun _ hk => hk.2) (.bool t457)) (fun _ hk => hk.2) (.slice Ao19 t458.length co19)) (fun _ h_ => h_.1))) hb); replace BK455 := sd (blk_below (g := gb455) (o := .cells #[.int .i64 t449, .bool t450, .slice Ao14 t451.length co14] 24 (0, 0)) zq94 hb); replace BK462 := sd (blk_below (g := gb462) (o := .cells #[.int .i64 t456, .bool t457, .slice Ao19 t458.length co19] 24 (0, 0)) zq95 hb); replace HB := hbm HB hb; clear hb) | (go_at_call 9; (with_reducible refine (lw24_lives.calls  t464 _ A10.out (gl_below HG.out (by repeat (first | (with_reducible first | exact HB.out | exact Below.refl _ _ | apply below_alloc | apply pw_below_drewN | apply below_drew1 | refine below_set ?_ GE455.out | refine below_set ?_ GE462.out) | exact HB.out)))).mono ?_); rintro e w22 ⟨rfl, hb⟩; replace HO453 := rbm HO453 hb; replace HO460 := rbm HO460 hb; replace BK455 := bkm BK455 hb; replace BK462 := bkm BK462 hb; replace HB := hbm HB hb; clear hb))
   go_ret
   exact ⟨zq8, zq96⟩
  obtain ⟨c9b0, c9b1⟩ := neI c9
  obtain rfl := Option.some.inj H
  go_enter Tryd.func6, Tryd.ntmps6
  go_wp2_with (first | ((with_reducible refine gate_callee (f := 18) rfl ?_); refine gL 13 Tryd.func18 #[.string a0] ?_; (with_reducible refine (terms_Parse.calls k a0 t449 t450 t451 t454 _ A5.out).mono ?_); rintro e w23 ⟨v452, rfl, ho0, hb⟩; refine ⟨_, rfl, ?_⟩; have HO453 := sd (Kd.R_lower ho0 (below_size zq34)); replace HB := hbm HB hb; clear hb; (try clear ho0)) | ((with_reducible refine gate_dst (N := 3) rfl ?_); refine bxA 3 #[.int .i64 0, .bool false, .slice none 0 0] 24 ?_; intro gb455 hg w24 hbox hb; have BK455 := sd (hbox); have GW455 := gem hg HB; have GE455 := GW455; replace HO453 := rbm HO453 hb; replace HB := hbm HB hb; clear hb hbox hg; obtain ⟨_, _, _, _, _, _⟩ := bk3 BK455; obtain ⟨Ao26, co26, eo26⟩ := Kd.R_slice HO453.out; subst eo26) | ((with_reducible refine gate_callee (f := 19) rfl ?_); refine gL 18 Tryd.func19 #[.string a0] ?_; (with_reducible refine (rf24_Parse.calls k a0 t456 t457 t458 t461 _ A6.out).mono ?_); rintro e w27 ⟨v459, rfl, ho0, hb⟩; refine ⟨_, rfl, ?_⟩; have HO460 := sd (Kd.R_lower (Kd.R_new' ho0 (Kd.R_lt (by (with_reducible repeat (first | apply Kd.R_alloc | apply Kd.R_drewN | apply Kd.R_drew)); exact (Kd.R_mono (Kd.R_far (p := ⟨gb455, 2, none⟩) (Kd.R_far (p := ⟨gb455, 1, none⟩) (Kd.R_far (p := ⟨gb455, 0, none⟩) (Kd.R_types HO453.out BK455.out (by decide)) (fun _ hk => hk.2) (.int .i64 t449)) (fun _ hk => hk.2) (.bool t450)) (fun _ hk => hk.2) (.slice Ao26 t451.length co26)) (fun _ h_ => h_.1))))) (below_size zq92)); replace HO453 := sd (Kd.R_elder' (by (with_reducible repeat (first | apply Kd.R_alloc | apply Kd.R_drewN | apply Kd.R_drew)); exact (Kd.R_mono (Kd.R_far (p := ⟨gb455, 2, none⟩) (Kd.R_far (p := ⟨gb455, 1, none⟩) (Kd.R_far (p := ⟨gb455, 0, none⟩) (Kd.R_types HO453.out BK455.out (by decide)) (fun _ hk => hk.2) (.int .i64 t449)) (fun _ hk => hk.2) (.bool t450)) (fun _ hk => hk.2) (.slice Ao26 t451.length co26)) (fun _ h_ => h_.1))) (Kd.R_base ho0) hb); replace BK455 := sd (blk_below (g := gb455) (o := .cells #[.int .i64 t449, .bool t450, .slice Ao26 t451.length co26] 24 (0, 0)) zq93 hb); replace HB := hbm HB hb; clear hb; (try clear ho0)) | ((with_reducible refine gate_dst (N := 5) rfl ?_); refine bxA 5 #[.int .i64 0, .bool false, .slice none 0 0] 24 ?_; intro gb462 hg w28 hbox hb; have BK462 := sd (hbox); have GW462 := gem hg HB; have GE462 := GW462; have NB455_462 := nlm hg BK455; have NB462_455 := ngm hg BK455; replace HO453 := rbm HO453 hb; replace HO460 := rbm HO460 hb; replace BK455 := bkm BK455 hb; replace HB := hbm HB hb; clear hb hbox hg; have hnb29 := NB462_455.out; have hnc29 := NB455_462.out; obtain ⟨_, _, _, _, _, _⟩ := bk3 BK462; obtain ⟨Ao31, co31, eo31⟩ := Kd.R_slice HO460.out; subst eo31; obtain ⟨_, _, _, _, _, _⟩ := bk3 BK455) | ((with_reducible refine gate_callee (f := 20) rfl ?_); refine gL 23 Tryd.func20 #[.agg #[.int .i64 t449, .bool t450, .slice Ao26 t451.length co26], .agg #[.int .i64 t456, .bool t457, .slice Ao31 t458.length co31]] ?_; (with_reducible refine (rf24_Same.calls k t449 t450 _ _ t451 t456 t457 _ _ t458 true _ ?side1 ?side2 ?side3 ?side4 A7.out).mono ?_); (case side1 => exact (by refine (Kd.R_reads' (e := 53) (base := w.heap.size) (ok := fun k_ => (True ∧ some k_ ≠ (.slice Ao31 t458.length co31 : Value).ownBlock)) (n := t451.length) (c := co26) ?_).2.2; exact (by (with_reducible repeat (first | apply Kd.R_alloc | apply Kd.R_drewN | apply Kd.R_drew)); exact (Kd.R_mono (Kd.R_far (p := ⟨gb462, 2, none⟩) (Kd.R_far (p := ⟨gb462, 1, none⟩) (Kd.R_far (p := ⟨gb462, 0, none⟩) (Kd.R_types HO453.out BK462.out (by decide)) (fun _ hk => hk.2) (.int .i64 t456)) (fun _ hk => hk.2) (.bool t457)) (fun _ hk => hk.2) (.slice Ao31 t458.length co31)) (fun _ h_ => h_.1))))); (case side2 => exact (Kd.R_reads' HO453.out).2.1); (case side3 => exact (by refine (Kd.R_reads' (e := 53) (base := w.heap.size) (ok := fun k_ => (True ∧ some k_ ≠ (.slice Ao26 t451.length co26 : Value).ownBlock)) (n := t458.length) (c := co31) ?_).2.2; exact (by (with_reducible repeat (first | apply Kd.R_alloc | apply Kd.R_drewN | apply Kd.R_drew)); exact (Kd.R_mono (Kd.R_far (p := ⟨gb462, 2, none⟩) (Kd.R_far (p := ⟨gb462, 1, none⟩) (Kd.R_far (p := ⟨gb462, 0, none⟩) (Kd.R_types HO460.out BK462.out (by decide)) (fun _ hk => hk.2) (.int .i64 t456)) (fun _ hk => hk.2) (.bool t457)) (fun _ hk => hk.2) (.slice Ao31 t458.length co31)) (fun _ h_ => h_.1))))); (case side4 => exact (Kd.R_reads' HO460.out).2.1); rintro e w33 ⟨rfl, hb⟩; refine ⟨_, rfl, ?_⟩; replace HO453 := sd (Kd.R_below (by (with_reducible repeat (first | apply Kd.R_alloc | apply Kd.R_drewN | apply Kd.R_drew)); exact (Kd.R_mono (Kd.R_far (p := ⟨gb462, 2, none⟩) (Kd.R_far (p := ⟨gb462, 1, none⟩) (Kd.R_far (p := ⟨gb462, 0, none⟩) (Kd.R_types HO453.out BK462.out (by decide)) (fun _ hk => hk.2) (.int .i64 t456)) (fun _ hk => hk.2) (.bool t457)) (fun _ hk => hk.2) (.slice Ao31 t458.length co31)) (fun _ h_ => h_.1))) hb); replace HO460 := sd (Kd.R_below (by (with_reducible repeat (first | apply Kd.R_alloc | apply Kd.R_drewN | apply Kd.R_drew)); exact (Kd.R_mono (Kd.R_far (p := ⟨gb462, 2, none⟩) (Kd.R_far (p := ⟨gb462, 1, none⟩) (Kd.R_far (p := ⟨gb462, 0, none⟩) (Kd.R_types HO460.out BK462.out (by decide)) (fun _ hk => hk.2) (.int .i64 t456)) (fun _ hk => hk.2) (.bool t457)) (fun _ hk => hk.2) (.slice Ao31 t458.length co31)) (fun _ h_ => h_.1))) hb); replace BK455 := sd (blk_below (g := gb455) (o := .cells #[.int .i64 t449, .bool t450, .slice Ao26 t451.length co26] 24 (0, 0)) zq94 hb); replace BK462 := sd (blk_below (g := gb462) (o := .cells #[.int .i64 t456, .bool t457, .slice Ao31 t458.length co31] 24 (0, 0)) zq95 hb); replace HB := hbm HB hb; clear hb))
  go_ret
  exact ⟨zq8, zq96⟩
 replace c8 := Bool.eq_false_iff.mpr c8
 subst c8
 rw [if_neg Bool.false_ne_true] at H
 obtain rfl := Option.some.inj H
 go_enter Tryd.func6, Tryd.ntmps6
 go_wp2_with (first | ((with_reducible refine gate_callee (f := 18) rfl ?_); refine gL 13 Tryd.func18 #[.string a0] ?_; (with_reducible refine (terms_Parse.calls k a0 t449 t450 t451 t454 _ A5.out).mono ?_); rintro e w34 ⟨v452, rfl, ho0, hb⟩; refine ⟨_, rfl, ?_⟩; have HO453 := sd (Kd.R_lower ho0 (below_size zq34)); replace HB := hbm HB hb; clear hb; (try clear ho0)) | ((with_reducible refine gate_dst (N := 3) rfl ?_); refine bxA 3 #[.int .i64 0, .bool false, .slice none 0 0] 24 ?_; intro gb455 hg w35 hbox hb; have BK455 := sd (hbox); have GW455 := gem hg HB; have GE455 := GW455; replace HO453 := rbm HO453 hb; replace HB := hbm HB hb; clear hb hbox hg; obtain ⟨_, _, _, _, _, _⟩ := bk3 BK455; obtain ⟨Ao37, co37, eo37⟩ := Kd.R_slice HO453.out; subst eo37) | ((with_reducible refine gate_callee (f := 19) rfl ?_); refine gL 18 Tryd.func19 #[.string a0] ?_; (with_reducible refine (rf24_Parse.calls k a0 t456 t457 t458 t461 _ A6.out).mono ?_); rintro e w38 ⟨v459, rfl, ho0, hb⟩; refine ⟨_, rfl, ?_⟩; have HO460 := sd (Kd.R_lower (Kd.R_new' ho0 (Kd.R_lt (by (with_reducible repeat (first | apply Kd.R_alloc | apply Kd.R_drewN | apply Kd.R_drew)); exact (Kd.R_mono (Kd.R_far (p := ⟨gb455, 2, none⟩) (Kd.R_far (p := ⟨gb455, 1, none⟩) (Kd.R_far (p := ⟨gb455, 0, none⟩) (Kd.R_types HO453.out BK455.out (by decide)) (fun _ hk => hk.2) (.int .i64 t449)) (fun _ hk => hk.2) (.bool t450)) (fun _ hk => hk.2) (.slice Ao37 t451.length co37)) (fun _ h_ => h_.1))))) (below_size zq92)); replace HO453 := sd (Kd.R_elder' (by (with_reducible repeat (first | apply Kd.R_alloc | apply Kd.R_drewN | apply Kd.R_drew)); exact (Kd.R_mono (Kd.R_far (p := ⟨gb455, 2, none⟩) (Kd.R_far (p := ⟨gb455, 1, none⟩) (Kd.R_far (p := ⟨gb455, 0, none⟩) (Kd.R_types HO453.out BK455.out (by decide)) (fun _ hk => hk.2) (.int .i64 t449)) (fun _ hk => hk.2) (.bool t450)) (fun _ hk => hk.2) (.slice Ao37 t451.length co37)) (fun _ h_ => h_.1))) (Kd.R_base ho0) hb); replace BK455 := sd (blk_below (g := gb455) (o := .cells #[.int .i64 t449, .bool t450, .slice Ao37 t451.length co37] 24 (0, 0)) zq93 hb); replace HB := hbm HB hb; clear hb; (try clear ho0)) | ((with_reducible refine gate_dst (N := 5) rfl ?_); refine bxA 5 #[.int .i64 0, .bool false, .slice none 0 0] 24 ?_; intro gb462 hg w39 hbox hb; have BK462 := sd (hbox); have GW462 := gem hg HB; have GE462 := GW462; have NB455_462 := nlm hg BK455; have NB462_455 := ngm hg BK455; replace HO453 := rbm HO453 hb; replace HO460 := rbm HO460 hb; replace BK455 := bkm BK455 hb; replace HB := hbm HB hb; clear hb hbox hg; have hnb40 := NB462_455.out; have hnc40 := NB455_462.out; obtain ⟨_, _, _, _, _, _⟩ := bk3 BK462; obtain ⟨Ao42, co42, eo42⟩ := Kd.R_slice HO460.out; subst eo42; obtain ⟨_, _, _, _, _, _⟩ := bk3 BK455) | ((with_reducible refine gate_callee (f := 20) rfl ?_); refine gL 23 Tryd.func20 #[.agg #[.int .i64 t449, .bool t450, .slice Ao37 t451.length co37], .agg #[.int .i64 t456, .bool t457, .slice Ao42 t458.length co42]] ?_; (with_reducible refine (rf24_Same.calls k t449 t450 _ _ t451 t456 t457 _ _ t458 false _ ?side1 ?side2 ?side3 ?side4 A7.out).mono ?_); (case side1 => exact (by refine (Kd.R_reads' (e := 53) (base := w.heap.size) (ok := fun k_ => (True ∧ some k_ ≠ (.slice Ao42 t458.length co42 : Value).ownBlock)) (n := t451.length) (c := co37) ?_).2.2; exact (by (with_reducible repeat (first | apply Kd.R_alloc | apply Kd.R_drewN | apply Kd.R_drew)); exact (Kd.R_mono (Kd.R_far (p := ⟨gb462, 2, none⟩) (Kd.R_far (p := ⟨gb462, 1, none⟩) (Kd.R_far (p := ⟨gb462, 0, none⟩) (Kd.R_types HO453.out BK462.out (by decide)) (fun _ hk => hk.2) (.int .i64 t456)) (fun _ hk => hk.2) (.bool t457)) (fun _ hk => hk.2) (.slice Ao42 t458.length co42)) (fun _ h_ => h_.1))))); (case side2 => exact (Kd.R_reads' HO453.out).2.1); (case side3 => exact (by refine (Kd.R_reads' (e := 53) (base := w.heap.size) (ok := fun k_ => (True ∧ some k_ ≠ (.slice Ao37 t451.length co37 : Value).ownBlock)) (n := t458.length) (c := co42) ?_).2.2; exact (by (with_reducible repeat (first | apply Kd.R_alloc | apply Kd.R_drewN | apply Kd.R_drew)); exact (Kd.R_mono (Kd.R_far (p := ⟨gb462, 2, none⟩) (Kd.R_far (p := ⟨gb462, 1, none⟩) (Kd.R_far (p := ⟨gb462, 0, none⟩) (Kd.R_types HO460.out BK462.out (by decide)) (fun _ hk => hk.2) (.int .i64 t456)) (fun _ hk => hk.2) (.bool t457)) (fun _ hk => hk.2) (.slice Ao42 t458.length co42)) (fun _ h_ => h_.1))))); (case side4 => exact (Kd.R_reads' HO460.out).2.1); rintro e w44 ⟨rfl, hb⟩; refine ⟨_, rfl, ?_⟩; replace HO453 := sd (Kd.R_below (by (with_reducible repeat (first | apply Kd.R_alloc | apply Kd.R_drewN | apply Kd.R_drew)); exact (Kd.R_mono (Kd.R_far (p := ⟨gb462, 2, none⟩) (Kd.R_far (p := ⟨gb462, 1, none⟩) (Kd.R_far (p := ⟨gb462, 0, none⟩) (Kd.R_types HO453.out BK462.out (by decide)) (fun _ hk => hk.2) (.int .i64 t456)) (fun _ hk => hk.2) (.bool t457)) (fun _ hk => hk.2) (.slice Ao42 t458.length co42)) (fun _ h_ => h_.1))) hb); replace HO460 := sd (Kd.R_below (by (with_reducible repeat (first | apply Kd.R_alloc | apply Kd.R_drewN | apply Kd.R_drew)); exact (Kd.R_mono (Kd.R_far (p := ⟨gb462, 2, none⟩) (Kd.R_far (p := ⟨gb462, 1, none⟩) (Kd.R_far (p := ⟨gb462, 0, none⟩) (Kd.R_types HO460.out BK462.out (by decide)) (fun _ hk => hk.2) (.int .i64 t456)) (fun _ hk => hk.2) (.bool t457)) (fun _ hk => hk.2) (.slice Ao42 t458.length co42)) (fun _ h_ => h_.1))) hb); replace BK455 := sd (blk_below (g := gb455) (o := .cells #[.int .i64 t449, .bool t450, .slice Ao37 t451.length co37] 24 (0, 0)) zq94 hb); replace BK462 := sd (blk_below (g := gb462) (o := .cells #[.int .i64 t456, .bool t457, .slice Ao42 t458.length co42] 24 (0, 0)) zq95 hb); replace HB := hbm HB hb; clear hb))
 go_ret
 exact ⟨zq8, zq96⟩
def lw24_TermsParse.Pure : Prop := ∀ (a0 : ByteArray), a0.size ≤ 140737488351232 → ∃ k, lw24_TermsParse.f k a0 = some true
theorem lw24_TermsParse.walk (P : lw24_TermsParse.Pure) (a0 : ByteArray) (w : World) (w0 : a0.size ≤ 140737488351232) (hG : Gl w) :
  Calls Tryd.prog 6 #[.string a0] w fun e w' => e = .returned (.bool true) ∧ Below w.heap.size w w' := by
 obtain ⟨k, h⟩ := P a0 w0
 refine (lw24_TermsParse.calls k a0 true w h hG).mono ?_
 rintro e w' ⟨rfl, hd⟩
 exact ⟨rfl, hd⟩
end Go.Proofs.YtelfiofnhchmbaaDoor.A
namespace Go.Proofs.YtelfiofnhchmbaaDoor.A
open Go.RowKit Go.Proofs.YtelfiofnhchmbaaDoor.B Go.Proofs.YtelfiofnhchmbaaDoorW.PrintWords Go.Proofs.YtelfiofnhchmbaaDoorW.PrintLast Go.Proofs.YtelfiofnhchmbaaDoorW.PrintMore
set_option linter.unusedVariables false
set_option linter.unusedSimpArgs false
theorem trim_eq_dg {l : List Nat} (h : Digs l) (ht : Trim l) : l = dg (nv l) :=
  nv_inj h (digs_dg _) ht (trim_dg _) (by rw [nv_dg])
theorem dg_length_gt (n k : Nat) (h : k < (dg n).length) : 10 ^ k ≤ n := by
  rcases Nat.lt_or_ge n (10 ^ k) with h1 | h1
  · have := dg_length_le n k h1; omega
  · exact h1
def bs (l : List Nat) : ByteArray := ⟨(bsL l).toArray⟩
theorem bs_data (l : List Nat) : (bs l).data.toList = bsL l := rfl
theorem bs_toList (l : List Nat) : (bs l).toList = bsL l := by rw [ByteArray.toList_eq]; rfl
theorem bs_size (l : List Nat) : (bs l).size = l.length := by
  show (bsL l).toArray.size = _
  rw [List.size_toArray, bsL_length]
theorem bs_append (l m : List Nat) : bs l ++ bs m = bs (l ++ m) := by
  apply ba_eq; rw [ByteArray.data_append, Array.toList_append, bs_data, bs_data, bs_data]; unfold bsL; rw [List.map_append]
theorem bs_extract (l : List Nat) (a b : Nat) : (bs l).extract a b = bs ((l.take b).drop a) := by
  apply ba_eq; rw [ext_list, bs_data, bs_data]; unfold bsL; rw [List.map_drop, List.map_take]
theorem bs_tail (l : List Nat) (a : Nat) : (bs l).extract a (bs l).size = bs (l.drop a) := by
  rw [bs_extract, bs_size, List.take_length]
def i48 (l : List Nat) : List Int := l.map (fun (d : Nat) => ((48 + d : Nat) : Int))
theorem bt_bs (l : List Nat) (dl : Digs l) (i : Nat) (h : i < l.length) : bt (bs l) (i : Int) = ((48 + l.getD i 0 : Nat) : Int) := by
  have hd := dl.getD i
  rw [← bt_at (bs l) (i : Int) (by rw [Int.toNat_natCast, bs_size]; exact h)]
  congr 1
  have e : (bs l)[(i : Int).toNat]'(by rw [Int.toNat_natCast, bs_size]; exact h) = UInt8.ofNat (48 + l.getD i 0) := by
    have h2 : (bsL l)[i]'(by rw [bsL_length]; exact h) = UInt8.ofNat (48 + l.getD i 0) := by
      unfold bsL
      rw [List.getElem_map, List.getD_eq_getElem?_getD, List.getElem?_eq_getElem h]; rfl
    exact h2
  rw [e, UInt8.toNat_ofNat', Nat.mod_eq_of_lt (by omega)]
theorem bytesOf_bs (l : List Nat) (dl : Digs l) : bytesOf (bs l) = i48 l := by
  unfold bytesOf i48
  rw [bs_data]; unfold bsL
  rw [List.map_map]
  apply List.map_congr_left
  intro d hd
  have := dl d hd
  show ((UInt8.ofNat (48 + d)).toNat : Int) = _
  rw [UInt8.toNat_ofNat', Nat.mod_eq_of_lt (by omega)]
theorem strOf_i48 (l : List Nat) : strOfNums (i48 l) = bs l := by
  unfold strOfNums i48 bs bsL
  rw [List.map_map]
  rfl
theorem i48_length (l : List Nat) : (i48 l).length = l.length := by unfold i48; rw [List.length_map]
theorem i48_set (l : List Nat) (n v : Nat) : (i48 l).set n ((48 + v : Nat) : Int) = i48 (l.set n v) := by unfold i48; rw [List.map_set]
theorem i48_append (l m : List Nat) : i48 (l ++ m) = i48 l ++ i48 m := by unfold i48; rw [List.map_append]
theorem rtrim_ev (l : List Nat) (dl : Digs l) : Ev (fun k => rf03_trim.f k (bs l)) (bs (tr l)) := by
  unfold rf03_trim.f
  induction l with
  | nil =>
    refine Ev.step (fun k => by rw [rf03_trim.l0]) ?_
    exact Ev.no (by rw [bs_size]; decide) (Ev.is rfl)
  | cons x l ih =>
    refine Ev.step (fun k => by rw [rf03_trim.l0]) (Ev.yes (by rw [bs_size, List.length_cons]; omega) (Ev.yes (by rw [bs_size, List.length_cons]; omega) ?_))
    have e : bt (bs (x :: l)) 0 = ((48 + x : Nat) : Int) := bt_bs (x :: l) dl 0 (by rw [List.length_cons]; omega)
    rw [e, tr_cons]
    refine Ev.both (fun h => Ev.yes (by rw [bs_size, List.length_cons]; omega) ?_) (fun h => Ev.is (by rw [if_neg (by omega)]))
    rw [if_pos (by omega), bs_tail]
    exact ih dl.cons.2
theorem rless_eq (a b : List Nat) (da : Digs a) (db : Digs b) : rf03_less.f (bs a) (bs b) = some (lessN a b) := by
  unfold rf03_less.f lessN
  rw [bs_size, bs_size, bs_toList, bs_toList]
  unfold bsL
  rw [bytesLess_lex 48 (by omega) a b da db]
  by_cases h : a.length = b.length
  · rw [if_neg (by omega), if_pos (by omega), if_pos h]
  · rw [if_neg h]
    by_cases h1 : a.length < b.length
    · rw [if_pos (by omega), decide_eq_true h1]
    · rw [if_neg (by omega), if_neg (by omega), decide_eq_false h1]
theorem rminus_l0 (a b : List Nat) (n m : Nat) (ha : a.length = n) (hb : b.length = m) (hn : n ≤ 1000000) (hm : m ≤ n) (da : Digs a) (db : Digs b) (hle : nv b ≤ nv a) (d : Nat) : ∀ (j : Nat) (o : List Nat) (br : Nat), j + d = n → o.length = n → br ≤ 1 → Digs o →
    nv (a.drop (n - j)) + br * 10 ^ j = nv (b.drop (m - j)) + nv (o.drop (n - j)) →
    Ev (fun k => rf03_minus.l0 k (bs a) (bs b) (i48 o) (br : Int) ((j + 1 : Nat) : Int)) (bs (dg (nv a - nv b))) := by
  induction d with
  | zero =>
    intro j o br hj ho hbr dO h
    obtain rfl : j = n := by omega
    refine Ev.step (fun k => by rw [rf03_minus.l0]) (Ev.no (by rw [bs_size]; omega) ?_)
    rw [strOf_i48]
    have := rtrim_ev o dO
    rwa [tr_eq_dg dO, sub_end ha ho (by omega) dO hle (by rw [hb]; exact h)] at this
  | succ d ih =>
    intro j o br hj ho hbr dO h
    have Hh := Aside0.mk h
    clear h
    have hja : j < n := by omega
    have la := da.getD (n - 1 - j)
    have lb := db.getD (m - 1 - j)
    have fin : ∀ (x dig br' : Nat), (x = if j < m then b.getD (m - 1 - j) 0 else 0) → dig < 10 → br' ≤ 1 → a.getD (n - 1 - j) 0 + 10 * br' = x + dig + br →
        Ev (fun k => rf03_minus.l0 k (bs a) (bs b) ((i48 o).set (n - 1 - j) ((48 + dig : Nat) : Int)) (br' : Int) ((j + 1 + 1 : Nat) : Int)) (bs (dg (nv a - nv b))) := by
      intro x dig br' hx hdig hbr' he
      rw [i48_set]
      exact ih (j + 1) (o.set (n - 1 - j) dig) br' (by omega) (by rw [List.length_set]; exact ho) hbr' (dO.set _ _ hdig) (place n m j a b o ha ho hb hja br br' dig x hx Hh.out he)
    have hmn : mnDigit (bs a) (bs b) (br : Int) ((j + 1 : Nat) : Int) = (a.getD (n - 1 - j) 0 : Int) - br - ((if j < m then b.getD (m - 1 - j) 0 else 0 : Nat) : Int) := by
      unfold mnDigit
      rw [bs_size, bs_size, ha, hb, show (n : Int) - ((j + 1 : Nat) : Int) = ((n - 1 - j : Nat) : Int) by omega, bt_bs a da _ (by omega)]
      by_cases hjm : j < m
      · rw [if_pos (by omega), if_pos hjm, show (m : Int) - ((j + 1 : Nat) : Int) = ((m - 1 - j : Nat) : Int) by omega, bt_bs b db _ (by omega)]
        omega
      · rw [if_neg (by omega), if_neg hjm]
        omega
    refine Ev.step (fun k => by rw [rf03_minus.l0]) (Ev.yes (by rw [bs_size]; omega) ?_)
    rw [hmn, bs_size, ha, show ((n : Int) - ((j + 1 : Nat) : Int)).toNat = n - 1 - j by omega, show ((j + 1 : Nat) : Int) + 1 = ((j + 1 + 1 : Nat) : Int) by omega]
    have hx9 : (if j < m then b.getD (m - 1 - j) 0 else 0) < 10 := by split <;> omega
    generalize hx : (if j < m then b.getD (m - 1 - j) 0 else 0) = x at *
    generalize hga : a.getD (n - 1 - j) 0 = u at *
    refine Ev.both (fun hneg => ?_) (fun hpos => ?_)
    · rw [show (58 + ((u : Int) - br - (x : Int))) % 256 = ((48 + (u + 10 - br - x) : Nat) : Int) by omega]
      exact fin x (u + 10 - br - x) 1 rfl (by omega) (by omega) (by omega)
    · rw [show (48 + ((u : Int) - br - (x : Int))) % 256 = ((48 + (u - br - x) : Nat) : Int) by omega]
      exact fin x (u - br - x) 0 rfl (by omega) (by omega) (by omega)
theorem rminus_ev (a b : Nat) (hle : b ≤ a) (hn : (dg a).length ≤ 1000000) : Ev (fun k => rf03_minus.f k (bs (dg a)) (bs (dg b))) (bs (dg (a - b))) := by
  unfold rf03_minus.f
  have hm := dg_le_length hle
  refine Ev.yes ⟨by rw [bs_size]; omega, by rw [bs_size]; omega⟩ ?_
  rw [bytesOf_bs _ (digs_dg a)]
  have := rminus_l0 (dg a) (dg b) _ _ rfl rfl hn hm (digs_dg a) (digs_dg b) (by rw [nv_dg, nv_dg]; exact hle) (dg a).length 0 (dg a) 0 (by omega) rfl (by omega) (digs_dg a) (by
    rw [Nat.sub_zero, List.drop_length, Nat.sub_zero, List.drop_length]; rfl)
  rw [nv_dg, nv_dg] at this
  exact this
theorem rdiv_l1 (b : Nat) (hb : 0 < b) (hlb : (dg b).length ≤ 1000) (s : ByteArray) (Q : List Nat) (hQ : Q.length ≤ 1000000) (i : Int) (res : ByteArray × ByteArray) (t : Nat) : ∀ (R q : Nat), R / b = t → R < 10 * b → q + t < 10 →
    Ev (fun k => rf03_divide.l0 k s (bs (dg b)) (i48 (Q ++ [q + t])) (bs (dg (R % b))) (wrap64 (i + 1))) res →
    Ev (fun k => rf03_divide.l1 k s (bs (dg b)) (i48 Q) (bs (dg R)) i (q : Int)) res := by
  induction t with
  | zero =>
    intro R q ht hR hq h
    have hlt : R < b := by
      rcases Nat.lt_or_ge R b with h1 | h1
      · exact h1
      · have := Nat.div_pos h1 hb; omega
    refine Ev.step (fun k => by rw [rf03_divide.l1]) ?_
    rw [rless_eq _ _ (digs_dg R) (digs_dg b), lessN_dg, decide_eq_true hlt]
    simp only [Option.bind_some, if_true]
    rw [Nat.mod_eq_of_lt hlt] at h
    refine Ev.yes (by rw [i48_length]; omega) ?_
    rw [show wrap64 (48 + (q : Int)) % 256 = ((48 + q : Nat) : Int) by rw [w_in (by omega)]; omega]
    rw [i48_append] at h
    exact h
  | succ t ih =>
    intro R q ht hR hq h
    have hge : b ≤ R := by
      rcases Nat.lt_or_ge R b with h1 | h1
      · rw [Nat.div_eq_of_lt h1] at ht; omega
      · exact h1
    have hRl : (dg R).length ≤ 1000000 := by
      have h1 := nv_lt (digs_dg b)
      rw [nv_dg] at h1
      have h2 : R < 10 ^ ((dg b).length + 1) := by rw [Nat.pow_succ]; omega
      have := dg_length_le R _ h2
      omega
    refine Ev.step (fun k => by rw [rf03_divide.l1]) ?_
    rw [rless_eq _ _ (digs_dg R) (digs_dg b), lessN_dg, decide_eq_false (by omega)]
    simp only [Option.bind_some, Bool.false_eq_true, if_false]
    refine Ev.bind (rminus_ev R b hge hRl) ?_
    rw [w_q q (by omega)]
    have ht' : (R - b) / b = t := by
      have : R / b = (R - b) / b + 1 := by
        conv => lhs; rw [show R = (R - b) + b by omega]
        rw [Nat.add_div_right _ hb]
      omega
    refine ih (R - b) (q + 1) ht' (by omega) (by omega) ?_
    rw [show q + 1 + t = q + (t + 1) by omega, show (R - b) % b = R % b from (Nat.mod_eq_sub_mod hge).symm]
    exact h
theorem rdiv_l0 (b : Nat) (hb : 0 < b) (hlb : (dg b).length ≤ 1000) (l : List Nat) (hl : l.length ≤ 1000000) (dl : Digs l) (d : Nat) : ∀ (i : Nat) (Q : List Nat), i + d = l.length → Q.length = i → Digs Q → nv Q = nv (l.take i) / b →
    Ev (fun k => rf03_divide.l0 k (bs l) (bs (dg b)) (i48 Q) (bs (dg (nv (l.take i) % b))) (i : Int)) (bs (dg (nv l / b)), bs (dg (nv l % b))) := by
  induction d with
  | zero =>
    intro i Q hi hQ dQ hq
    refine Ev.step (fun k => by rw [rf03_divide.l0]) (Ev.no (by rw [bs_size]; omega) ?_)
    rw [List.take_of_length_le (by omega)] at *
    rw [strOf_i48]
    refine Ev.bind (rtrim_ev Q dQ) (Ev.is ?_)
    rw [tr_eq_dg dQ, hq]
  | succ d ih =>
    intro i Q hi hQ dQ hq
    have hil : i < l.length := by omega
    have htk : l.take (i + 1) = l.take i ++ [l.getD i 0] := by
      rw [List.take_succ_eq_append_getElem hil, List.getD_eq_getElem?_getD, List.getElem?_eq_getElem hil]; rfl
    have hx := dl.getD i
    have hex : (bs l).extract i (i + 1) = bs [l.getD i 0] := by
      rw [bs_extract, htk, List.drop_append_of_le_length (by rw [List.length_take]; omega), List.drop_eq_nil_of_le (by rw [List.length_take]; omega)]; rfl
    have hmod : nv (l.take i) % b < b := Nat.mod_lt _ hb
    have hlen : (dg (nv (l.take i) % b)).length ≤ 1000 := Nat.le_trans (dg_le_length (by omega)) hlb
    have hsd := step_div (nv (l.take i)) (l.getD i 0) b hb
    rw [← nv_snoc, ← htk] at hsd
    generalize hP : nv (l.take i) = P at *
    generalize l.getD i 0 = x at *
    refine Ev.step (fun k => by rw [rf03_divide.l0]) (Ev.yes (by rw [bs_size]; omega) (Ev.yes (by omega) ?_))
    rw [w_next i (by omega), Int.toNat_natCast, Int.toNat_natCast, hex, bs_size, bs_size, bs_size]
    refine Ev.yes (by omega) (Ev.yes (by omega) (Ev.yes (by rw [List.length_singleton]; omega) ?_))
    rw [bs_append]
    have hD : Digs (dg (P % b) ++ [x]) := (digs_dg _).append (Digs.mk hx Digs.nil)
    refine Ev.bind (rtrim_ev _ hD) ?_
    rw [tr_eq_dg hD, nv_snoc, nv_dg]
    have hR : 10 * (P % b) + x < 10 * b := by omega
    have ht : (10 * (P % b) + x) / b < 10 := by rw [Nat.div_lt_iff_lt_mul hb]; exact hR
    refine rdiv_l1 b hb hlb (bs l) Q (by omega) (i : Int) _ _ _ 0 rfl hR (by omega) ?_
    rw [← hsd.2, Nat.zero_add, w_next i (by omega)]
    refine ih (i + 1) (Q ++ [(10 * (P % b) + x) / b]) (by omega) (by rw [List.length_append, hQ]; rfl) (dQ.append (Digs.mk ht Digs.nil)) ?_
    rw [nv_snoc, hq, hsd.1]
theorem rdiv_ev (b : Nat) (hb : 0 < b) (hlb : (dg b).length ≤ 1000) (l : List Nat) (hl : l.length ≤ 1000000) (dl : Digs l) : Ev (fun k => rf03_divide.f k (bs l) (bs (dg b))) (bs (dg (nv l / b)), bs (dg (nv l % b))) := by
  unfold rf03_divide.f
  have := rdiv_l0 b hb hlb l hl dl l.length 0 [] (by omega) rfl Digs.nil (by rw [List.take_zero, nv_nil, Nat.zero_div])
  rw [List.take_zero, nv_nil, Nat.zero_mod, dg_zero] at this
  exact this
theorem bs_nil_iff (n : Nat) : (bs (dg n)).toList = ([] : List UInt8) ↔ n = 0 := by
  rw [bs_toList]; unfold bsL
  rw [List.map_eq_nil_iff, dg_nil_iff]
theorem rcommon_l0 (n : Nat) : ∀ x y : Nat, y ≤ n → (dg x).length ≤ 1000 → (dg y).length ≤ 1000 → Ev (fun k => rf03_common.l0 k (bs (dg x)) (bs (dg y))) (bs (dg (Nat.gcd x y))) := by
  induction n with
  | zero =>
    intro x y hy _ _
    obtain rfl : y = 0 := by omega
    refine Ev.step (fun k => by rw [rf03_common.l0]) (Ev.yes ((bs_nil_iff 0).mpr rfl) (Ev.is ?_))
    rw [Nat.gcd_zero_right]
  | succ n ih =>
    intro x y hy hlx hly
    refine Ev.step (fun k => by rw [rf03_common.l0]) ?_
    by_cases h0 : y = 0
    · subst h0
      refine Ev.yes ((bs_nil_iff 0).mpr rfl) (Ev.is ?_)
      rw [Nat.gcd_zero_right]
    · refine Ev.no (fun h => h0 ((bs_nil_iff y).mp h)) (Ev.bind (rdiv_ev y (by omega) hly (dg x) (by omega) (digs_dg x)) ?_)
      rw [nv_dg]
      have hlt := Nat.mod_lt x (show 0 < y by omega)
      have := ih y (x % y) (by omega) hly (Nat.le_trans (dg_le_length (by omega)) hly)
      rwa [show Nat.gcd y (x % y) = Nat.gcd x y by rw [Nat.gcd_comm x y, Nat.gcd_rec y x, Nat.gcd_comm]] at this
theorem rcommon_ev (x y : Nat) (hlx : (dg x).length ≤ 1000) (hly : (dg y).length ≤ 1000) : Ev (fun k => rf03_common.f k (bs (dg x)) (bs (dg y))) (bs (dg (Nat.gcd x y))) := by
  unfold rf03_common.f
  exact rcommon_l0 y x y (Nat.le_refl _) hlx hly
theorem nv_take_lt7 (l : List Nat) (dl : Digs l) (hl : l.length ≤ 7) (i : Nat) : nv (l.take i) < 10000000 := by
  have h1 : Digs (l.take i) := fun d hd => dl d (List.mem_of_mem_take hd)
  have h2 := nv_lt h1
  have h3 : 10 ^ (l.take i).length ≤ 10 ^ 7 := pow10_mono (by rw [List.length_take]; omega)
  omega
theorem rnumber_l0 (l : List Nat) (dl : Digs l) (hl : l.length ≤ 7) (d : Nat) : ∀ i : Nat, i + d = l.length → Ev (fun k => rf03_number.l0 k (bs l) ((nv (l.take i) : Nat) : Int) (i : Int)) ((nv l : Nat) : Int) := by
  induction d with
  | zero =>
    intro i hi
    refine Ev.step (fun k => by rw [rf03_number.l0]) (Ev.no (by rw [bs_size]; omega) (Ev.is ?_))
    rw [List.take_of_length_le (by omega)]
  | succ d ih =>
    intro i hi
    have hil : i < l.length := by omega
    have htk : l.take (i + 1) = l.take i ++ [l.getD i 0] := by
      rw [List.take_succ_eq_append_getElem hil, List.getD_eq_getElem?_getD, List.getElem?_eq_getElem hil]; rfl
    have hx := dl.getD i
    have hb := nv_take_lt7 l dl hl i
    have hn := ih (i + 1) (by omega)
    rw [htk, nv_snoc] at hn
    refine Ev.step (fun k => by rw [rf03_number.l0]) (Ev.yes (by rw [bs_size]; omega) (Ev.yes (by omega) ?_))
    rw [bt_bs l dl i hil]
    generalize nv (l.take i) = P at *
    generalize l.getD i 0 = x at *
    have e : wrap64 (wrap64 (wrap64 ((P : Int) * 10) + wrap64 ((48 + x : Nat) : Int)) - 48) = ((10 * P + x : Nat) : Int) := by
      rw [w_in (x := (P : Int) * 10) (by omega), w_in (x := ((48 + x : Nat) : Int)) (by omega), w_in (x := (P : Int) * 10 + ((48 + x : Nat) : Int)) (by omega), w_in (by omega)]; omega
    rw [e, w_next i (by omega)]
    exact hn
theorem rnumber_ev (l : List Nat) (dl : Digs l) (hl : l.length ≤ 7) : Ev (fun k => rf03_number.f k (bs l)) ((nv l : Nat) : Int) := by
  unfold rf03_number.f
  exact rnumber_l0 l dl hl l.length 0 (by omega)
theorem rdigits_l0 (l : List UInt8) (hl : l.length ≤ 1000000) (r : List UInt8) : ∀ i : Nat, l = (l.take i) ++ r → i ≤ l.length → Ev (fun k => rf03_digits.l0 k (oL l) (i : Int)) (((i + (dsOf r).length : Nat)) : Int) := by
  induction r with
  | nil =>
    intro i h hi
    have : i = l.length := by have := congrArg List.length h; rw [List.length_append, List.length_take, List.length_nil] at this; omega
    refine Ev.step (fun k => by rw [rf03_digits.l0]) ?_
    exact Ev.no (by rw [oL_size]; omega) (Ev.is rfl)
  | cons c r ih =>
    intro i h hi
    have hlen := congrArg List.length h
    rw [List.length_append, List.length_take, List.length_cons] at hlen
    have hil : i < l.length := by omega
    have hg : l.getD i 0 = c := by
      rw [List.getD_eq_getElem?_getD]
      conv => lhs; rw [h]
      rw [List.getElem?_append_right (by rw [List.length_take]; omega), List.length_take, show i - min i l.length = 0 by omega]; rfl
    refine Ev.step (fun k => by rw [rf03_digits.l0]) (Ev.yes (by rw [oL_size]; omega) (Ev.yes (by omega) ?_))
    rw [bt_oL, hg, dsOf_cons]
    have hr := isDig_range c
    by_cases hd : isDig c = true
    · have h2 := hr.mp hd
      rw [if_pos hd]
      refine Ev.yes (by omega) (Ev.yes (by omega) ?_)
      rw [w_next i (by omega)]
      have e : l = l.take (i + 1) ++ r := by
        conv => lhs; rw [h]
        rw [List.take_succ_eq_append_getElem hil, List.append_assoc, List.singleton_append]
        congr 2
        rw [List.getD_eq_getElem?_getD, List.getElem?_eq_getElem hil] at hg
        exact hg.symm
      have := ih (i + 1) e (by omega)
      rw [List.length_cons, show i + ((dsOf r).length + 1) = i + 1 + (dsOf r).length by omega]
      exact this
    · have hnd : ¬ (48 ≤ c.toNat ∧ c.toNat ≤ 57) := fun h => hd (hr.mpr h)
      rw [if_neg hd, List.length_nil, Nat.add_zero]
      refine Ev.both (fun h1 => Ev.no (by omega) (Ev.is rfl)) (fun h1 => Ev.is rfl)
theorem rdigits (l : List UInt8) (hl : l.length ≤ 1000000) : Ev (fun k => rf03_digits.f k (oL l)) (((dsOf l).length : Nat) : Int) := by
  unfold rf03_digits.f
  have := rdigits_l0 l hl l 0 (by rw [List.take_zero, List.nil_append]) (by omega)
  rwa [Nat.zero_add] at this
def SplitR (l : List UInt8) (r : ByteArray × ByteArray × Bool) : Prop := match splitM l with | none => r.2.2 = false | some (a, b) => r = (bs (tr a), bs (dg (nv b)), true)
theorem take_ds (l : List UInt8) : l.take (dsOf l).length = bsL (dsOf l) := by
  have h : (bsL (dsOf l) ++ rsOf l).take (dsOf l).length = bsL (dsOf l) := by
    rw [List.take_append_of_le_length (by rw [bsL_length]; exact Nat.le_refl _), List.take_of_length_le (by rw [bsL_length]; exact Nat.le_refl _)]
  rwa [bsL_dsOf] at h
theorem drop_ds (l : List UInt8) : l.drop (dsOf l).length = rsOf l := by
  have h : (bsL (dsOf l) ++ rsOf l).drop (dsOf l).length = rsOf l := by
    rw [List.drop_append_of_le_length (by rw [bsL_length]; exact Nat.le_refl _), List.drop_eq_nil_of_le (by rw [bsL_length]; exact Nat.le_refl _), List.nil_append]
  rwa [bsL_dsOf] at h
theorem head_dig (l : List UInt8) (h : (dsOf l).length ≠ 0) : (((l.getD 0 0).toNat : Nat) : Int) = ((48 + (dsOf l).getD 0 0 : Nat) : Int) := by
  cases l with
  | nil => exact absurd rfl h
  | cons c l =>
    rw [dsOf_cons] at h ⊢
    split at h
    · rename_i hd
      rw [if_pos hd]
      have := (isDig_range c).mp hd
      show ((c.toNat : Nat) : Int) = ((48 + (c.toNat - 48) : Nat) : Int)
      omega
    · exact absurd rfl h
theorem rs_nil {l : List UInt8} (h : rsOf l = []) : oL l = bs (dsOf l) := by
  have := bsL_dsOf l
  rw [h, List.append_nil] at this
  show (⟨l.toArray⟩ : ByteArray) = _
  conv => lhs; rw [← this]
  rfl
theorem zeros_fin : ∀ n : Fin 7, (⟨#[49, 48, 48, 48, 48, 48, 48]⟩ : ByteArray).extract 0 (1 + min n.val 6) = bs (1 :: List.replicate n.val 0) := by decide +kernel
theorem rsplit (l : List UInt8) (hl : l.length ≤ 1000) : ∃ r, Ev (fun k => rf03_split.f k (oL l)) r ∧ SplitR l r := by
  have hlen := dsOf_len l
  have hh := head_dig l
  have st : ∀ r, Ev (fun k => if (((dsOf l).length : Nat) : Int) = 0 then some ((⟨#[]⟩ : ByteArray), (⟨#[]⟩ : ByteArray), false) else if 1 < (((dsOf l).length : Nat) : Int) ∧ bt (oL l) 0 = 48 then some (⟨#[]⟩, ⟨#[]⟩, false) else
      if (((dsOf l).length : Nat) : Int) = ((oL l).size : Int) then (rf03_trim.f k (oL l)).bind fun t => some (t, ⟨#[49]⟩, true) else rf03_split.g k (oL l) ((oL l).extract ((dsOf l).length + 1) (oL l).size) (dsOf l).length) r → Ev (fun k => rf03_split.f k (oL l)) r := by
    intro r hr
    unfold rf03_split.f
    refine Ev.yes (by rw [oL_size]; omega) (Ev.bind (rdigits l (by omega)) ?_)
    rw [Int.toNat_natCast]
    exact Ev.yes ⟨by omega, by rw [oL_size]; omega⟩ hr
  have hb0 : bt (oL l) 0 = (((l.getD 0 0).toNat : Nat) : Int) := bt_oL l 0
  by_cases h0 : (dsOf l).length = 0 ∨ (1 < (dsOf l).length ∧ (dsOf l).getD 0 0 = 0)
  · refine ⟨(⟨#[]⟩, ⟨#[]⟩, false), st _ ?_, by unfold SplitR splitM; rw [if_pos h0]⟩
    refine Ev.both (fun h => Ev.is rfl) (fun h => Ev.yes ⟨by omega, ?_⟩ (Ev.is rfl))
    have := hh (by omega)
    rw [hb0]; omega
  have st1 : ∀ r, Ev (fun k => if (((dsOf l).length : Nat) : Int) = ((oL l).size : Int) then (rf03_trim.f k (oL l)).bind fun t => some (t, ⟨#[49]⟩, true) else rf03_split.g k (oL l) ((oL l).extract ((dsOf l).length + 1) (oL l).size) (dsOf l).length) r → Ev (fun k => rf03_split.f k (oL l)) r := by
    intro r hr
    refine st r (Ev.no (by omega) (Ev.no ?_ hr))
    rintro ⟨h1, h2⟩
    have := hh (by omega)
    rw [hb0] at h2; omega
  cases hrs : rsOf l with
  | nil =>
    rw [hrs, List.length_nil] at hlen
    refine ⟨(bs (tr (dsOf l)), bs (dg (nv [1])), true), st1 _ (Ev.yes (by rw [oL_size]; omega) ?_), by unfold SplitR splitM; rw [if_neg h0, hrs]⟩
    rw [rs_nil hrs]
    refine Ev.bind (rtrim_ev _ (dsOf_digs l)) (Ev.is ?_)
    rw [← trim_eq_dg (l := [1]) (Digs.mk (by decide) Digs.nil) (fun x l' h => by rw [← (List.cons.inj h).1]; decide)]
    rfl
  | cons c r =>
    rw [hrs, List.length_cons] at hlen
    have hlr := dsOf_len r
    have hdr : l.drop ((dsOf l).length + 1) = r := by
      rw [← List.drop_drop, drop_ds, hrs]; rfl
    have hck : l.getD (dsOf l).length 0 = c := by
      have h2 : (l.drop (dsOf l).length)[0]? = some c := by rw [drop_ds, hrs]; rfl
      rw [List.getElem?_drop, Nat.add_zero] at h2
      rw [List.getD_eq_getElem?_getD, h2]; rfl
    have hbc : bt (oL l) (((dsOf l).length : Nat) : Int) = (c.toNat : Int) := by rw [bt_oL, hck]
    have hex : (oL l).extract 0 (dsOf l).length = bs (dsOf l) := by
      rw [oL_extract, List.drop_zero, take_ds]; rfl
    have st2 : ∀ x, Ev (fun k => if (oL r).size = 0 then some ((⟨#[]⟩ : ByteArray), (⟨#[]⟩ : ByteArray), false) else if (((dsOf r).length : Nat) : Int) < ((oL r).size : Int) then some (⟨#[]⟩, ⟨#[]⟩, false) else
        if (c.toNat : Int) = 47 then (rf03_trim.f k (bs (dsOf l))).bind fun t => some (t, oL r, bt (oL r) 0 != 48) else
        (rf03_trim.f k (bs (dsOf l) ++ oL r)).bind fun t => some (t, (⟨#[49, 48, 48, 48, 48, 48, 48]⟩ : ByteArray).extract 0 (1 + min (oL r).size 6), ((c.toNat : Int) == 46) && decide (((oL r).size : Int) ≤ 6))) x → Ev (fun k => rf03_split.f k (oL l)) x := by
      intro x hx
      refine st1 x (Ev.no (by rw [oL_size]; omega) ?_)
      rw [oL_tail, hdr]
      unfold rf03_split.g
      rw [hbc, hex]
      by_cases hr0 : (oL r).size = 0
      · simp only [if_pos hr0] at hx ⊢
        exact hx
      · simp only [if_neg hr0] at hx ⊢
        exact Ev.bind (rdigits r (by omega)) hx
    by_cases h1 : (dsOf r).length = 0 ∨ rsOf r ≠ []
    · refine ⟨(⟨#[]⟩, ⟨#[]⟩, false), st2 _ ?_, by unfold SplitR splitM; rw [if_neg h0, hrs]; dsimp only; rw [if_pos h1]⟩
      refine Ev.both (fun h => Ev.is rfl) (fun h => Ev.yes ?_ (Ev.is rfl))
      rw [oL_size] at h ⊢
      rcases h1 with h1 | h1
      · omega
      · have : (rsOf r).length ≠ 0 := fun h2 => h1 (List.eq_nil_of_length_eq_zero h2)
        omega
    have hrr : rsOf r = [] := Classical.byContradiction fun h => h1 (.inr h)
    have hrl : (dsOf r).length ≠ 0 := fun h => h1 (.inl h)
    have hor := rs_nil hrr
    rw [hrr, List.length_nil] at hlr
    have hbr : bt (oL r) 0 = ((48 + (dsOf r).getD 0 0 : Nat) : Int) := (bt_oL r 0).trans (head_dig r hrl)
    have st3 : ∀ x, Ev (fun k => if (c.toNat : Int) = 47 then (rf03_trim.f k (bs (dsOf l))).bind fun t => some (t, oL r, bt (oL r) 0 != 48) else
        (rf03_trim.f k (bs (dsOf l) ++ oL r)).bind fun t => some (t, (⟨#[49, 48, 48, 48, 48, 48, 48]⟩ : ByteArray).extract 0 (1 + min (oL r).size 6), ((c.toNat : Int) == 46) && decide (((oL r).size : Int) ≤ 6))) x → Ev (fun k => rf03_split.f k (oL l)) x := by
      intro x hx
      refine st2 x (Ev.no (by rw [oL_size]; omega) (Ev.no (by rw [oL_size]; omega) hx))
    have hc47 := u8_eq c 47 (by decide)
    have hc46 := u8_eq c 46 (by decide)
    by_cases h47 : c = 47
    · by_cases hz : (dsOf r).getD 0 0 = 0
      · refine ⟨(bs (tr (dsOf l)), oL r, false), st3 _ (Ev.yes (hc47.mpr h47) (Ev.bind (rtrim_ev _ (dsOf_digs l)) (Ev.is ?_))), by unfold SplitR splitM; rw [if_neg h0, hrs]; dsimp only; rw [if_neg h1, if_pos h47, if_pos hz]⟩
        rw [hbr, hz]; rfl
      · refine ⟨(bs (tr (dsOf l)), bs (dg (nv (dsOf r))), true), st3 _ (Ev.yes (hc47.mpr h47) (Ev.bind (rtrim_ev _ (dsOf_digs l)) (Ev.is ?_))), by unfold SplitR splitM; rw [if_neg h0, hrs]; dsimp only; rw [if_neg h1, if_pos h47, if_neg hz]⟩
        have ht : Trim (dsOf r) := by
          intro x l' e h2
          rw [e] at hz; exact hz h2
        rw [hbr, show (((48 + (dsOf r).getD 0 0 : Nat) : Int) != 48) = true from bne_iff_ne.mpr (by omega), hor, ← trim_eq_dg (dsOf_digs r) ht]
    have happ : bs (dsOf l) ++ oL r = bs (dsOf l ++ dsOf r) := by rw [hor, bs_append]
    have no46 : ∀ b : Bool, b = (((c.toNat : Int) == 46) && decide (((oL r).size : Int) ≤ 6)) → ∀ z, z = (⟨#[49, 48, 48, 48, 48, 48, 48]⟩ : ByteArray).extract 0 (1 + min (oL r).size 6) → Ev (fun k => rf03_split.f k (oL l)) (bs (tr (dsOf l ++ dsOf r)), z, b) := by
      intro b hb z hz
      refine st3 _ (Ev.no (fun h => h47 (hc47.mp h)) ?_)
      rw [happ, ← hb, ← hz]
      exact Ev.bind (rtrim_ev _ ((dsOf_digs l).append (dsOf_digs r))) (Ev.is rfl)
    by_cases h46 : c = 46
    · by_cases h6 : (dsOf r).length ≤ 6
      · refine ⟨_, no46 true (by rw [show ((c.toNat : Int) == 46) = true from beq_iff_eq.mpr (hc46.mpr h46), Bool.true_and, decide_eq_true (by rw [oL_size]; omega)]) _ rfl, ?_⟩
        unfold SplitR splitM
        rw [if_neg h0, hrs]; dsimp only; rw [if_neg h1, if_neg h47, if_pos h46, if_pos h6]; dsimp only
        obtain ⟨z1, z2, z3⟩ := nv_zeros (dsOf r).length
        rw [← trim_eq_dg z2 z3, oL_size, show r.length = (dsOf r).length by omega, zeros_fin ⟨(dsOf r).length, by omega⟩]
      · refine ⟨_, no46 false (by rw [decide_eq_false (show ¬ ((oL r).size : Int) ≤ 6 by rw [oL_size]; omega), Bool.and_false]) _ rfl, ?_⟩
        unfold SplitR splitM
        rw [if_neg h0, hrs]; dsimp only; rw [if_neg h1, if_neg h47, if_pos h46, if_neg h6]
    · refine ⟨_, no46 false (by rw [show ((c.toNat : Int) == 46) = false from beq_eq_false_iff_ne.mpr (fun h => h46 (hc46.mp h)), Bool.false_and]) _ rfl, ?_⟩
      unfold SplitR splitM
      rw [if_neg h0, hrs]; dsimp only; rw [if_neg h1, if_neg h47, if_neg h46]
theorem makeS_nat (n d : Nat) (hd : 0 < d) (hg : Nat.gcd n d = 1) : makeS (n : Int) (d : Int) = if n ≤ 1000000 ∧ d ≤ 1000000 then ((n : Int), (d : Int), 0) else (0, 0, 4) := by
  unfold makeS
  rw [if_neg (by omega), Int.natAbs_natCast, Int.natAbs_natCast, hg, Nat.div_one, Nat.div_one]
  by_cases h : n ≤ 1000000 ∧ d ≤ 1000000
  · rw [if_neg (by omega), if_pos h, decide_eq_false (show ¬ (n : Int) < 0 by omega), decide_eq_false (show ¬ (d : Int) < 0 by omega)]; rfl
  · rw [if_pos (by omega), if_neg h]
theorem rparse_j1 (x0 : ByteArray) (neg : Bool) (t : List UInt8) (ht : t.length ≤ 900) (hn : neg = decide ((t.length : Int) < (x0.size : Int))) : Ev (fun k => rf03_Parse.j1 k x0 (oL t)) (parseT neg t) := by
  obtain ⟨r, hr, hs⟩ := rsplit t (by omega)
  refine Ev.step (fun k => by rw [rf03_Parse.j1]) (Ev.bind hr ?_)
  unfold SplitR at hs
  unfold parseT
  have no : ∀ b : Bool, b = true → Ev (fun k => rf03_Parse.j2 k x0 (oL t) r.1 r.2.1 b) (0, 0, 5) := fun b hb => Ev.step (fun k => by rw [rf03_Parse.j2]) (Ev.yes hb (Ev.is rfl))
  have hlt : neg = true ↔ ((oL t).size : Int) < (x0.size : Int) := by rw [hn, decide_eq_true_iff, oL_size]
  cases hm : splitM t with
  | none =>
    rw [hm] at hs
    refine Ev.no (by rw [hs]; decide) (no true rfl)
  | some ab =>
    obtain ⟨a, b⟩ := ab
    rw [hm] at hs
    dsimp only at hs ⊢
    obtain ⟨da, db, hb, hla, hlb⟩ := splitM_facts hm
    subst hs
    have la := dg_nv_le da
    have lb := dg_nv_le db
    refine Ev.yes rfl ?_
    dsimp only at no ⊢
    rw [tr_eq_dg da] at no ⊢
    have yes : ¬ (neg = true ∧ nv a = 0) → Ev (fun k => rf03_Parse.j2 k x0 (oL t) (bs (dg (nv a))) (bs (dg (nv b))) false) (if (reduceS (nv a) (nv b)).2.2 = true then (if neg = true then -(reduceS (nv a) (nv b)).1 else (reduceS (nv a) (nv b)).1, (reduceS (nv a) (nv b)).2.1, 0) else (0, 0, 4)) := by
      intro hn0
      have hg : 0 < Nat.gcd (nv a) (nv b) := Nat.gcd_pos_of_pos_right _ hb
      have hgl : (dg (Nat.gcd (nv a) (nv b))).length ≤ 1000 := Nat.le_trans (dg_le_length (Nat.gcd_le_right _ hb)) (by omega)
      refine Ev.step (fun k => by rw [rf03_Parse.j2]) (Ev.no (by decide) (Ev.bind (rcommon_ev (nv a) (nv b) (by omega) (by omega)) (Ev.bind (rdiv_ev _ hg hgl (dg (nv a)) (by omega) (digs_dg _)) (Ev.bind (rdiv_ev _ hg hgl (dg (nv b)) (by omega) (digs_dg _)) ?_))))
      rw [nv_dg, nv_dg]
      dsimp only
      rw [bs_size, bs_size]
      have hco : Nat.gcd (nv a / Nat.gcd (nv a) (nv b)) (nv b / Nat.gcd (nv a) (nv b)) = 1 := by
        rw [Nat.gcd_div (Nat.gcd_dvd_left _ _) (Nat.gcd_dvd_right _ _)]; exact Nat.div_self hg
      have hbp : 0 < nv b / Nat.gcd (nv a) (nv b) := Nat.div_pos (Nat.gcd_le_right _ hb) hg
      unfold reduceS
      generalize nv a / Nat.gcd (nv a) (nv b) = n at *
      generalize nv b / Nat.gcd (nv a) (nv b) = d at *
      have big : ∀ x : Bool, x = true → Ev (fun k => rf03_Parse.j3 k x0 (oL t) (bs (dg n)) (bs (dg d)) x) (0, 0, 4) := fun x hx => Ev.step (fun k => by rw [rf03_Parse.j3]) (Ev.yes hx (Ev.is rfl))
      refine Ev.both (fun h => ?_) (fun h => ?_)
      · have h10 := dg_length_gt n 7 (by omega)
        rw [if_neg (show ¬ (n ≤ 1000000 ∧ d ≤ 1000000) by omega)]
        exact big true rfl
      by_cases h7 : 7 < (dg d).length
      · have h10 := dg_length_gt d 7 h7
        rw [if_neg (show ¬ (n ≤ 1000000 ∧ d ≤ 1000000) by omega)]
        exact big _ (decide_eq_true (by omega))
      have hn7 := nv_take_lt7 (dg n) (digs_dg n) (by omega) (dg n).length
      have hd7 := nv_take_lt7 (dg d) (digs_dg d) (by omega) (dg d).length
      rw [List.take_length, nv_dg] at hn7 hd7
      have hnum := rnumber_ev (dg n) (digs_dg n) (by omega)
      have hden := rnumber_ev (dg d) (digs_dg d) (by omega)
      rw [nv_dg] at hnum hden
      refine Ev.step (fun k => by rw [rf03_Parse.j3]) (Ev.no (by rw [decide_eq_false (by omega)]; decide) (Ev.bind hnum (Ev.bind hden (Ev.bind (ref03_Make_ev (n : Int) (d : Int) (by unfold I64; omega) (by unfold I64; omega)) ?_))))
      rw [makeS_nat n d hbp hco]
      by_cases hok : n ≤ 1000000 ∧ d ≤ 1000000
      · rw [if_pos hok, if_pos hok]
        dsimp only
        refine Ev.both (fun h => ?_) (fun h => ?_)
        · unfold rf03_Neg.f
          refine Ev.bind (Ev.is rfl) ?_
          dsimp only
          rw [w_in (x := -(n : Int)) (by omega)]
          refine Ev.yes rfl (Ev.is ?_)
          rw [if_pos rfl, if_pos (hlt.mpr h)]
        · refine Ev.yes rfl (Ev.is ?_)
          rw [if_pos rfl, if_neg (fun h2 => h (hlt.mp h2))]
      · rw [if_neg hok, if_neg hok]
        dsimp only
        refine Ev.both (fun h => ?_) (fun h => ?_)
        · unfold rf03_Neg.f
          refine Ev.bind (Ev.is rfl) ?_
          exact Ev.no (by decide) (Ev.is rfl)
        · exact Ev.no (by decide) (Ev.is rfl)
    refine Ev.both (fun h => ?_) (fun h => ?_)
    · have hneg := hlt.mpr h
      have e : ((bs (dg (nv a))).toList == ([] : List UInt8)) = decide (nv a = 0) := by rw [Bool.eq_iff_iff, beq_iff_eq, decide_eq_true_iff, bs_nil_iff]
      rw [e]
      by_cases h0 : nv a = 0
      · rw [if_pos ⟨hneg, h0⟩]
        exact no _ (decide_eq_true h0)
      · rw [if_neg (fun h2 => h0 h2.2), decide_eq_false h0]
        exact yes (fun h2 => h0 h2.2)
    · have hneg : ¬ neg = true := fun h2 => h (hlt.mp h2)
      rw [if_neg (fun h2 => hneg h2.1)]
      exact yes (fun h2 => hneg h2.1)
theorem ref03_Parse_ev (l : List UInt8) (hl : l.length ≤ 900) : Ev (fun k => rf03_Parse.f k (oL l)) (parseS l) := by
  unfold rf03_Parse.f parseS
  cases l with
  | nil =>
    refine Ev.no (by rw [oL_size]; decide) ?_
    refine Ev.step (fun k => by rw [rf03_Parse.j0]) ?_
    refine Ev.no (by decide) ?_
    exact rparse_j1 (oL []) false [] (by omega) (by decide)
  | cons c t =>
    rw [List.length_cons] at hl
    refine Ev.yes (by rw [oL_size, List.length_cons]; omega) (Ev.yes (by rw [oL_size, List.length_cons]; omega) ?_)
    rw [bt_head]
    have hc := u8_eq c 45 (by decide)
    refine Ev.step (fun k => by rw [rf03_Parse.j0]) ?_
    by_cases h : c = 45
    · subst h
      refine Ev.yes (by decide) (Ev.yes (by rw [oL_size, List.length_cons]; omega) ?_)
      rw [oL_tail]
      exact rparse_j1 _ true t (by omega) (by rw [oL_size, List.length_cons, decide_eq_true (by omega)])
    · have e1 : negOf (c :: t) = false := by
        unfold negOf; rw [List.head?_cons]; exact beq_eq_false_iff_ne.mpr (fun h2 => h (Option.some.inj h2))
      have e2 : (((c.toNat : Nat) : Int) == 45) = false := beq_eq_false_iff_ne.mpr (fun h2 => h (hc.mp h2))
      unfold magOf
      rw [e1, e2]
      exact Ev.no (by decide) (rparse_j1 _ false (c :: t) (by rw [List.length_cons]; omega) (by rw [oL_size, decide_eq_false (by omega)]))
theorem drop_is {α : Type} (d : α) {L : List α} {i : Nat} {c : α} {r : List α} (h : L.drop i = c :: r) : i < L.length ∧ L.getD i d = c ∧ L.drop (i + 1) = r := by
  have hlt : i < L.length := by
    rcases Nat.lt_or_ge i L.length with h1 | h1
    · exact h1
    · rw [List.drop_eq_nil_of_le h1] at h; cases h
  rw [List.drop_eq_getElem_cons hlt] at h
  obtain ⟨h1, h2⟩ := List.cons.inj h
  exact ⟨hlt, by rw [List.getD_eq_getElem?_getD, List.getElem?_eq_getElem hlt, ← h1]; rfl, h2⟩
def partsR : List UInt8 → List UInt8 → List (List UInt8)
  | cur, [] => [cur]
  | cur, c :: r => if c.toNat = 32 then cur :: partsR [] r else partsR (cur ++ [c]) r
theorem partsR_len (R : List UInt8) : ∀ cur, (partsR cur R).length ≤ R.length + 1 := by
  induction R with
  | nil => intro cur; exact Nat.le_refl 1
  | cons c r ih =>
    intro cur
    rw [partsR, List.length_cons]
    split
    · rw [List.length_cons]; have := ih []; omega
    · have := ih (cur ++ [c]); omega
theorem partsR_small (R : List UInt8) : ∀ cur, ∀ p ∈ partsR cur R, p.length ≤ cur.length + R.length := by
  induction R with
  | nil => intro cur p hp; rw [partsR, List.mem_singleton] at hp; subst hp; exact Nat.le_refl _
  | cons c r ih =>
    intro cur p hp
    rw [partsR] at hp
    rw [List.length_cons]
    split at hp
    · rcases List.mem_cons.mp hp with rfl | hp
      · omega
      · have := ih [] p hp; rw [List.length_nil] at this; omega
    · have := ih _ p hp; rw [List.length_append, List.length_singleton] at this; omega
theorem take_drop_snoc (L : List UInt8) (a i : Nat) (c : UInt8) (r : List UInt8) (h : L.drop i = c :: r) (ha : a ≤ i) : (L.take (i + 1)).drop a = (L.take i).drop a ++ [c] := by
  obtain ⟨h1, h2, h3⟩ := drop_at h
  rw [List.take_succ_eq_append_getElem h1, List.drop_append_of_le_length (by rw [List.length_take]; omega)]
  congr 2
  rw [List.getD_eq_getElem?_getD, List.getElem?_eq_getElem h1] at h2
  exact h2
theorem parts_l0 (L : List UInt8) (hL : L.length ≤ 1000000) (R : List UInt8) : ∀ (i a : Nat) (acc : List (List UInt8)), L.drop i = R → i ≤ L.length → a ≤ i → acc.length ≤ i →
    Ev (fun k => rf24_parts.l0 k (oL L) (acc.map oL) (a : Int) (i : Int)) ((acc ++ partsR ((L.take i).drop a) R).map oL) := by
  induction R with
  | nil =>
    intro i a acc h hi ha hacc
    have := drop_end h
    refine Ev.step (fun k => by rw [rf24_parts.l0]) (Ev.yes (by rw [oL_size]; omega) (Ev.yes (by rw [oL_size]; omega) (Ev.yes (by omega) (Ev.yes (by omega) (Ev.yes (by rw [List.length_map]; omega) ?_)))))
    rw [w_next i (by omega), Int.toNat_natCast, Int.toNat_natCast, oL_extract]
    refine Ev.step (fun k => by rw [rf24_parts.l0]) (Ev.no (by rw [oL_size]; omega) (Ev.is ?_))
    rw [partsR, List.map_append]; rfl
  | cons c r ih =>
    intro i a acc h hi ha hacc
    obtain ⟨h1, h2, h3⟩ := drop_at h
    refine Ev.step (fun k => by rw [rf24_parts.l0]) (Ev.yes (by rw [oL_size]; omega) (Ev.no (by rw [oL_size]; omega) (Ev.yes (by omega) (Ev.yes (by rw [oL_size]; omega) ?_))))
    rw [bt_oL, h2, w_next i (by omega), Int.toNat_natCast, Int.toNat_natCast, oL_extract, partsR]
    refine Ev.both (fun s => Ev.yes (by omega) (Ev.yes (by omega) (Ev.yes (by rw [List.length_map]; omega) ?_))) (fun s => ?_)
    · rw [if_pos (by omega)]
      have key := ih (i + 1) (i + 1) (acc ++ [(L.take i).drop a]) h3 (by omega) (Nat.le_refl _) (by rw [List.length_append, List.length_singleton]; omega)
      rw [show (L.take (i + 1)).drop (i + 1) = [] from List.drop_eq_nil_of_le (by rw [List.length_take]; omega), List.map_append, List.append_assoc] at key
      exact key
    · rw [if_neg (by omega)]
      have key := ih (i + 1) a acc h3 (by omega) (by omega) (by omega)
      rw [take_drop_snoc L a i c r h ha] at key
      exact key
theorem ref24_parts_ev (L : List UInt8) (hL : L.length ≤ 1000000) : Ev (fun k => rf24_parts.f k (oL L)) ((partsR [] L).map oL) := by
  have := parts_l0 L hL L 0 0 [] rfl (Nat.zero_le _) (Nat.le_refl _) (Nat.le_refl _)
  exact this
theorem rd_part (P : List (List UInt8)) (i : Nat) : rdOf ByteArray.empty (P.map oL) (i : Int) = oL (P.getD i []) := by
  unfold rdOf
  rw [Int.toNat_natCast, List.getD_eq_getElem?_getD, List.getD_eq_getElem?_getD, List.getElem?_map]
  cases P[i]? <;> rfl
theorem getD_small (P : List (List UInt8)) (m : Nat) (h : ∀ p ∈ P, p.length ≤ m) (i : Nat) : (P.getD i []).length ≤ m := by
  rw [List.getD_eq_getElem?_getD]
  cases hp : P[i]? with
  | none => exact Nat.zero_le _
  | some p => exact h p (List.mem_of_getElem? hp)
theorem ref01_Parse_L (l : List UInt8) (lo hi : Int) (hl : l.length ≤ 1000000) : Ev (fun k => rf01_Parse.f k (oL l) lo hi) (parseL l lo hi) :=
  ref01_Parse (oL l) lo hi (by rw [oL_size]; omega)
theorem parse_in (l : List UInt8) : I64 (parseL l 0 365).1 := by
  by_cases h : (parseL l 0 365).2 = 0
  · exact parse_range l h
  · revert h
    unfold parseL
    split
    · split
      · intro h; exact absurd rfl h
      · intro _; show I64 0; unfold I64; omega
    · intro _; show I64 0; unfold I64; omega
theorem parseS_in (l : List UInt8) : I64 (parseS l).1 ∧ I64 (parseS l).2.1 := by
  by_cases h : (parseS l).2.2 = 0
  · exact (parseS_right l h).2
  · revert h
    have z : I64 0 := by unfold I64; omega
    unfold parseS parseT
    split
    · intro _; exact ⟨z, z⟩
    · split
      · intro _; exact ⟨z, z⟩
      · split
        · intro h; exact absurd rfl h
        · intro _; exact ⟨z, z⟩
theorem rparse_end (L : List UInt8) (P : List (List UInt8)) (n e i : Int) (net : Int) (eom : Bool) (cs : List S53) (hn : I64 net) (hc : Cuts cs) (hl : cs.length ≤ 1000) :
    ∃ r, Ev (fun k => rf24_Parse.j2 k (oL L) (P.map oL) n e i false net eom cs) r ∧ OutT L r := by
  have ht := ref24_Text_ev net hn eom cs hc hl
  unfold termsTextS at ht
  by_cases he : e = 0
  · by_cases hok : termsOk net cs = true
    · rw [if_pos hok] at ht
      by_cases hT : termsT net eom cs = L
      · have key : (oL (termsT net eom cs)).toList = (oL L).toList := by rw [hT]
        exact ⟨(net, eom, cs, 0), Ev.step (fun k => by rw [rf24_Parse.j2]) (Ev.no (by decide) (Ev.bind ht (Ev.yes he (Ev.yes rfl (Ev.yes key (Ev.now _)))))), .inr ⟨net, eom, cs, rfl, hn, hc, hl, hok, hT⟩⟩
      · have key : ¬ (oL (termsT net eom cs)).toList = (oL L).toList := by rw [oL_toList, oL_toList]; exact hT
        exact ⟨errT, Ev.step (fun k => by rw [rf24_Parse.j2]) (Ev.no (by decide) (Ev.bind ht (Ev.yes he (Ev.yes rfl (Ev.no key (Ev.now _)))))), .inl rfl⟩
    · rw [if_neg hok] at ht
      exact ⟨errT, Ev.step (fun k => by rw [rf24_Parse.j2]) (Ev.no (by decide) (Ev.bind ht (Ev.yes he (Ev.no (show ¬ ((2 : Int) = 0) by decide) (Ev.now _))))), .inl rfl⟩
  · exact ⟨errT, Ev.step (fun k => by rw [rf24_Parse.j2]) (Ev.no (by decide) (Ev.bind ht (Ev.no he (Ev.now _)))), .inl rfl⟩
theorem w_two (i : Nat) (h : i ≤ 1000000) : wrap64 ((i : Int) + 2) = ((i + 2 : Nat) : Int) := by unfold wrap64; omega
theorem Ev.step' {α : Type} {g f : Nat → Option α} {Q : α → Prop} (h : ∀ k, g (k + 1) = f k) (k : ∃ r, Ev f r ∧ Q r) : ∃ r, Ev g r ∧ Q r := by
  obtain ⟨r, h1, h2⟩ := k; exact ⟨r, Ev.step h h1, h2⟩
theorem Ev.yes' {α : Type} {c : Prop} [Decidable c] {A B : Nat → Option α} {Q : α → Prop} (h : c) (k : ∃ r, Ev A r ∧ Q r) : ∃ r, Ev (fun n => if c then A n else B n) r ∧ Q r := by
  obtain ⟨r, h1, h2⟩ := k; exact ⟨r, Ev.yes h h1, h2⟩
theorem Ev.no' {α : Type} {c : Prop} [Decidable c] {A B : Nat → Option α} {Q : α → Prop} (h : ¬ c) (k : ∃ r, Ev B r ∧ Q r) : ∃ r, Ev (fun n => if c then A n else B n) r ∧ Q r := by
  obtain ⟨r, h1, h2⟩ := k; exact ⟨r, Ev.no h h1, h2⟩
theorem Ev.bind' {α β : Type} {g : Nat → Option α} {f : Nat → α → Option β} {a : α} {Q : β → Prop} (h : Ev g a) (k : ∃ r, Ev (fun n => f n a) r ∧ Q r) : ∃ r, Ev (fun n => (g n).bind (f n)) r ∧ Q r := by
  obtain ⟨r, h1, h2⟩ := k; exact ⟨r, Ev.bind h h1, h2⟩
theorem Cuts.snoc {cs : List S53} (h : Cuts cs) (c : S53) (hc : I64 c.f0 ∧ I64 c.f1.f0 ∧ I64 c.f1.f1) : Cuts (cs ++ [c]) := fun x hx => by
  rcases List.mem_append.mp hx with hx | hx
  · exact h x hx
  · rw [List.mem_singleton] at hx; subst hx; exact hc
theorem rparse_l0 (L : List UInt8) (P : List (List UInt8)) (hP : P.length ≤ 900) (hp : ∀ p ∈ P, p.length ≤ 900) (net : Int) (hn : I64 net) (eom : Bool) (d : Nat) : ∀ (i : Nat) (e : Int) (cs : List S53), P.length ≤ i + d → i ≤ P.length → Cuts cs → cs.length ≤ i →
    ∃ r, Ev (fun k => rf24_Parse.l0 k (oL L) (P.map oL) (P.length : Int) e (i : Int) net eom cs) r ∧ OutT L r := by
  induction d with
  | zero =>
    intro i e cs h1 h2 h3 h4
    refine Ev.step' (fun k => by rw [rf24_Parse.l0]) ?_
    rw [w_two i (by omega)]
    exact Ev.no' (by omega) (rparse_end L P _ e _ net eom cs hn h3 (by omega))
  | succ d ih =>
    intro i e cs h1 h2 h3 h4
    refine Ev.step' (fun k => by rw [rf24_Parse.l0]) ?_
    rw [w_two i (by omega)]
    by_cases hi : i + 2 < P.length
    · refine Ev.yes' (by omega) ?_
      by_cases he : e = 0
      · rw [he, show ((0 : Int) == 0) = true from rfl]
        refine Ev.step' (fun k => by rw [rf24_Parse.j2]) ?_
        refine Ev.yes' rfl (Ev.yes' (by omega) (Ev.yes' (by rw [List.length_map]; omega) ?_))
        rw [rd_part, w_next i (by omega), rd_part, w_two i (by omega)]
        have hA := parseS_in (P.getD i [])
        have hB := parse_in (P.getD (i + 1) [])
        refine Ev.bind' (ref03_Parse_ev (P.getD i []) (getD_small P 900 hp i)) (Ev.yes' (by omega) (Ev.yes' (by rw [List.length_map]; omega) (Ev.bind' (ref01_Parse_L (P.getD (i + 1) []) 0 365 (by have := getD_small P 900 hp (i + 1); omega)) (Ev.yes' (by omega) ?_))))
        exact ih (i + 2) _ _ (by omega) (by omega) (h3.snoc _ ⟨hB, hA.1, hA.2⟩) (by rw [List.length_append, List.length_singleton]; omega)
      · rw [show (e == (0 : Int)) = false from beq_eq_false_iff_ne.mpr he]
        exact rparse_end L P _ e _ net eom cs hn h3 (by omega)
    · exact Ev.no' (by omega) (rparse_end L P _ e _ net eom cs hn h3 (by omega))
theorem ref24_Parse_total (L : List UInt8) (hL : L.length ≤ 400) : ∃ r, Ev (fun k => rf24_Parse.f k (oL L)) r ∧ OutT L r := by
  unfold rf24_Parse.f
  refine Ev.bind' (ref24_parts_ev L (by omega)) ?_
  have h1 := partsR_len L []
  have h2 := partsR_small L []
  generalize partsR [] L = P at *
  rw [List.length_map]
  have hp : ∀ p ∈ P, p.length ≤ 900 := fun p hpp => by have := h2 p hpp; rw [List.length_nil] at this; omega
  have err : ∃ r, Ev (fun k => rf24_Parse.j0 k (oL L) (P.map oL) (P.length : Int) true) r ∧ OutT L r := by
    refine ⟨errT, Ev.step (fun k => by rw [rf24_Parse.j0]) ?_, .inl rfl⟩
    exact Ev.yes rfl (Ev.now _)
  by_cases c1 : (P.length : Int) < 2
  · exact Ev.yes' c1 err
  refine Ev.no' c1 ?_
  by_cases c2 : ((P.length : Int) % 2) = 0
  · refine Ev.yes' c2 ?_
    by_cases c3 : (P.length : Int) > 12
    · rw [decide_eq_true c3]; exact err
    rw [decide_eq_false c3]
    refine Ev.step' (fun k => by rw [rf24_Parse.j0]) (Ev.no' (by decide) ?_)
    rw [show wrap64 ((P.length : Int) - 1) = ((P.length - 1 : Nat) : Int) by unfold wrap64; omega, show wrap64 ((P.length : Int) - 2) = ((P.length - 2 : Nat) : Int) by unfold wrap64; omega, rd_part, rd_part]
    refine Ev.yes' (by omega) (Ev.yes' (by rw [List.length_map]; omega) (Ev.bind' (ref01_Parse_L (P.getD (P.length - 1) []) 0 365 (by have := getD_small P 900 hp (P.length - 1); omega)) (Ev.yes' (by omega) (Ev.yes' (by rw [List.length_map]; omega) ?_))))
    exact rparse_l0 L P (by omega) hp _ (parse_in _) _ P.length 0 _ [] (by omega) (Nat.zero_le _) (fun c hc => by cases hc) (Nat.le_refl _)
  · exact Ev.no' c2 err
theorem partsR_word (T : List UInt8) (hT : ∀ c ∈ T, c.toNat ≠ 32) : ∀ (cur r : List UInt8), partsR cur (T ++ r) = partsR (cur ++ T) r := by
  induction T with
  | nil => intro cur r; rw [List.nil_append, List.append_nil]
  | cons c T ih =>
    intro cur r
    rw [List.cons_append, partsR, if_neg (hT c List.mem_cons_self), ih (fun x hx => hT x (List.mem_cons_of_mem _ hx)), List.append_assoc]; rfl
theorem parts_word (T : List UInt8) (hT : ∀ c ∈ T, c.toNat ≠ 32) (r : List UInt8) : partsR [] (T ++ 32 :: r) = T :: partsR [] r := by
  rw [partsR_word T hT, partsR, if_pos (by decide), List.nil_append]
theorem parts_last (T : List UInt8) (hT : ∀ c ∈ T, c.toNat ≠ 32) : partsR [] T = [T] := by
  have := partsR_word T hT [] []
  rw [List.append_nil, List.nil_append] at this
  rw [this]; rfl
theorem digits_dark {X : List UInt8} (h : X.all isDig = true) : ∀ c ∈ X, c.toNat ≠ 32 := fun c hc => by
  have := (isDig_range c).mp (List.all_eq_true.mp h c hc); omega
theorem itoa_dark {n : Int} (h : 0 ≤ n) (hi : n ≤ 1000000) : ∀ c ∈ Lib.itoa n, c.toNat ≠ 32 := digits_dark (itoa_nat h hi).1
theorem frac_dark {c : S53} (h : Good c) : ∀ x ∈ fracTextL c.f1.f0 c.f1.f1, x.toNat ≠ 32 := by
  have hi := h.in
  have a := itoa_dark (n := c.f1.f0) (by omega) (by omega)
  have b := itoa_dark (n := c.f1.f1) (by omega) (by omega)
  unfold fracTextL
  split
  · exact a
  · intro x hx
    rcases List.mem_append.mp hx with hx | hx
    · exact a x hx
    · rcases List.mem_cons.mp hx with rfl | hx
      · decide
      · exact b x hx
def pieces (c : S53) : List (List UInt8) := [fracTextL c.f1.f0 c.f1.f1, Lib.itoa c.f0]
theorem parts_text (n : Int) (hn : 0 ≤ n ∧ n ≤ 365) (b : Bool) (l : List S53) (hl : ∀ c ∈ l, Good c) : partsR [] (l.flatMap cutT ++ endT n b) = l.flatMap pieces ++ [eomT b, Lib.itoa n] := by
  induction l with
  | nil =>
    rw [List.flatMap_nil, List.nil_append, endT_eq, parts_word _ (by cases b <;> decide), parts_last _ (itoa_dark hn.1 (by omega))]; rfl
  | cons c l ih =>
    have hc := hl c List.mem_cons_self
    rw [List.flatMap_cons, cutT_eq hc]
    rw [show ((fracTextL c.f1.f0 c.f1.f1 ++ 32 :: (Lib.itoa c.f0 ++ [32])) ++ l.flatMap cutT) ++ endT n b = fracTextL c.f1.f0 c.f1.f1 ++ (32 :: (Lib.itoa c.f0 ++ (32 :: (l.flatMap cutT ++ endT n b)))) by simp]
    rw [parts_word _ (frac_dark hc), parts_word _ (itoa_dark hc.1.1 (by have := hc.1.2; omega)), ih (fun x hx => hl x (List.mem_cons_of_mem _ hx)), List.flatMap_cons]
    rfl
theorem pieces_len (l : List S53) : (l.flatMap pieces).length = 2 * l.length := by
  induction l with
  | nil => rfl
  | cons c l ih => rw [List.flatMap_cons, List.length_append, ih, List.length_cons]; show 2 + _ = _; omega
theorem rparse_text_l0 (L : List UInt8) (P : List (List UInt8)) (n : Int) (hn : 0 ≤ n ∧ n ≤ 365) (b : Bool) (l : List S53) (hok : termsOk n l = true) (hT : termsT n b l = L) (ls : List S53) : ∀ (i : Nat) (cs : List S53), cs ++ ls = l → (∀ c ∈ ls, Good c) →
    P.drop i = ls.flatMap pieces ++ [eomT b, Lib.itoa n] → P.length = i + 2 * ls.length + 2 → P.length ≤ 900 → Ev (fun k => rf24_Parse.l0 k (oL L) (P.map oL) (P.length : Int) 0 (i : Int) n b cs) (n, b, l, 0) := by
  obtain ⟨g1, g2, g3⟩ := termsOk_good hok
  induction ls with
  | nil =>
    intro i cs h1 h2 h3 h4 h5
    rw [List.append_nil] at h1
    subst h1
    refine Ev.step (fun k => by rw [rf24_Parse.l0]) ?_
    rw [w_two i (by omega)]
    have ht := ref24_Text_ev n (by unfold I64; omega) b cs (good_cuts g3) (by omega)
    unfold termsTextS at ht
    rw [if_pos hok] at ht
    have key : (oL (termsT n b cs)).toList = (oL L).toList := by rw [hT]
    refine Ev.no (by rw [List.length_nil] at h4; omega) ?_
    refine Ev.step (fun k => by rw [rf24_Parse.j2]) ?_
    exact Ev.no (by decide) (Ev.bind ht (Ev.yes rfl (Ev.yes rfl (Ev.yes key (Ev.now _)))))
  | cons c ls ih =>
    intro i cs h1 h2 h3 h4 h5
    have hc := h2 c List.mem_cons_self
    have hi := hc.in
    rw [List.length_cons] at h4
    rw [List.flatMap_cons, List.append_assoc] at h3
    obtain ⟨p1, p2, p3⟩ := drop_is [] h3
    obtain ⟨q1, q2, q3⟩ := drop_is [] p3
    refine Ev.step (fun k => by rw [rf24_Parse.l0]) ?_
    rw [w_two i (by omega)]
    refine Ev.yes (by omega) ?_
    refine Ev.step (fun k => by rw [rf24_Parse.j2]) ?_
    refine Ev.yes rfl (Ev.yes (by omega) (Ev.yes (by rw [List.length_map]; omega) ?_))
    rw [rd_part, w_next i (by omega), rd_part, w_two i (by omega), p2, q2]
    have hp := ref03_Parse_ev (fracTextL c.f1.f0 c.f1.f1) (by obtain ⟨_, _, _, _, h, _⟩ := tok_frac hc; omega)
    rw [show parseS (fracTextL c.f1.f0 c.f1.f1) = (c.f1.f0, c.f1.f1, 0) from parse_text _ _ hi.2.2.2.2] at hp
    have hq := ref01_Parse_L (Lib.itoa c.f0) 0 365 (by have := (itoa_nat hc.1.1 (by have := hc.1.2; omega)).2.2; omega)
    rw [parse_itoa c.f0 0 365 (by have := hc.1; unfold I64; omega) hc.1.1 hc.1.2] at hq
    refine Ev.bind hp (Ev.yes (by omega) (Ev.yes (by rw [List.length_map]; omega) (Ev.bind hq (Ev.yes ?_ ?_))))
    · have := congrArg List.length h1; rw [List.length_append, List.length_cons] at this; omega
    · exact ih (i + 2) (cs ++ [c]) (by rw [List.append_assoc]; exact h1) (fun x hx => h2 x (List.mem_cons_of_mem _ hx)) q3 (by omega) h5
theorem ref24_Parse_text (n : Int) (b : Bool) (l : List S53) (h : termsOk n l = true) : Ev (fun k => rf24_Parse.f k (oL (termsT n b l))) (n, b, l, 0) := by
  obtain ⟨g1, g2, g3⟩ := termsOk_good h
  have hL := termsT_len (b := b) h
  unfold rf24_Parse.f
  refine Ev.bind (ref24_parts_ev _ (by omega)) ?_
  have hP : partsR [] (termsT n b l) = l.flatMap pieces ++ [eomT b, Lib.itoa n] := by rw [termsT_eq, parts_text n g1 b l g3]
  have hlen : (partsR [] (termsT n b l)).length = 2 * l.length + 2 := by rw [hP, List.length_append, pieces_len]; rfl
  have hd : (partsR [] (termsT n b l)).drop (2 * l.length) = [eomT b, Lib.itoa n] := by rw [hP, ← pieces_len l, List.drop_left]
  have key := rparse_text_l0 (termsT n b l) (partsR [] (termsT n b l)) n g1 b l h rfl l 0 [] rfl g3 hP (by omega) (by omega)
  generalize partsR [] (termsT n b l) = P at *
  obtain ⟨p1, p2, p3⟩ := drop_is [] hd
  obtain ⟨q1, q2, q3⟩ := drop_is [] p3
  rw [List.length_map]
  refine Ev.no (by omega) (Ev.yes (by omega) ?_)
  rw [decide_eq_false (by omega)]
  refine Ev.step (fun k => by rw [rf24_Parse.j0]) (Ev.no (by decide) ?_)
  rw [show wrap64 ((P.length : Int) - 1) = ((2 * l.length + 1 : Nat) : Int) by unfold wrap64; omega, show wrap64 ((P.length : Int) - 2) = ((2 * l.length : Nat) : Int) by unfold wrap64; omega, rd_part, rd_part, p2, q2, oL_toList]
  have hq := ref01_Parse_L (Lib.itoa n) 0 365 (by have := (itoa_nat g1.1 (by omega)).2.2; omega)
  rw [parse_itoa n 0 365 (by unfold I64; omega) g1.1 g1.2] at hq
  refine Ev.yes (by omega) (Ev.yes (by rw [List.length_map]; omega) (Ev.bind hq (Ev.yes (by omega) (Ev.yes (by rw [List.length_map]; omega) ?_))))
  rw [show (eomT b == ([101, 111, 109] : List UInt8)) = b by cases b <;> rfl]
  exact key
end Go.Proofs.YtelfiofnhchmbaaDoor.A
