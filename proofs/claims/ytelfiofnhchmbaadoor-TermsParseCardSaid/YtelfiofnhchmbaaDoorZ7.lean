-- By pack.py, a program of this session's: declarations of this seat's texts, put together for a claim.
import Derived.Test.YtelfiofnhchmbaaDoorZ5
namespace Go.Proofs.YtelfiofnhchmbaaDoor.A
open Go.RowKit Go.Proofs.YtelfiofnhchmbaaDoor.B Go.Proofs.YtelfiofnhchmbaaDoorW.PrintWords Go.Proofs.YtelfiofnhchmbaaDoorW.PrintLast Go.Proofs.YtelfiofnhchmbaaDoorW.PrintMore
theorem zq24 {P : Prop} (h : P := by repeat (first | (with_reducible first | exact HB.out | apply below_alloc | apply pw_below_drewN | apply below_drew1 | refine below_set ?_ GE285.out) | exact HB.out)) : P := h
theorem zq25 {P : Prop} (h : P := by repeat (first | (with_reducible first | exact HB.out | apply below_alloc | apply pw_below_drewN | apply below_drew1 | refine below_set ?_ GE289.out) | exact HB.out)) : P := h
theorem zq26 {P : Prop} (h : P := by (with_reducible repeat (first | refine blk_drewN ?_ _ | refine blk_drew ?_ | refine blk_alloc ?_ _)); exact BK295.out) : P := h
theorem zq27 {P : Prop} (h : P := by repeat (first | (with_reducible first | exact HB.out | apply below_alloc | apply pw_below_drewN | apply below_drew1 | refine below_set ?_ GE295.out) | exact HB.out)) : P := h
theorem zq29 {P : Prop} (h : P := by (with_reducible repeat (first | refine blk_drewN ?_ _ | refine blk_drew ?_ | refine blk_alloc ?_ _)); refine blk_far ?_ NB295_297.out _; (with_reducible repeat (first | refine blk_drewN ?_ _ | refine blk_drew ?_ | refine blk_alloc ?_ _)); refine blk_far ?_ NB295_297.out _; (with_reducible repeat (first | refine blk_drewN ?_ _ | refine blk_drew ?_ | refine blk_alloc ?_ _)); refine blk_far ?_ NB295_297.out _; (with_reducible repeat (first | refine blk_drewN ?_ _ | refine blk_drew ?_ | refine blk_alloc ?_ _)); exact BK295.out) : P := h
theorem zq30 {P : Prop} (h : P := by (with_reducible repeat (first | refine blk_drewN ?_ _ | refine blk_drew ?_ | refine blk_alloc ?_ _)); refine blk_put (cs := #[.int .i64 ((rd_T53 l0_2 x3_2).f0), .int .i64 ((rd_T53 l0_2 x3_2).f1.f0), .int .i64 0]) ?_ 2 _ rfl; (with_reducible repeat (first | refine blk_drewN ?_ _ | refine blk_drew ?_ | refine blk_alloc ?_ _)); refine blk_put (cs := #[.int .i64 ((rd_T53 l0_2 x3_2).f0), .int .i64 0, .int .i64 0]) ?_ 1 _ rfl; (with_reducible repeat (first | refine blk_drewN ?_ _ | refine blk_drew ?_ | refine blk_alloc ?_ _)); refine blk_put (cs := #[.int .i64 0, .int .i64 0, .int .i64 0]) ?_ 0 _ rfl; (with_reducible repeat (first | refine blk_drewN ?_ _ | refine blk_drew ?_ | refine blk_alloc ?_ _)); exact BK297.out) : P := h
theorem zq31 {P : Prop} (h : P := by repeat (first | (with_reducible first | exact HB.out | apply below_alloc | apply pw_below_drewN | apply below_drew1 | refine below_set ?_ GE295.out | refine below_set ?_ GE297.out) | exact HB.out)) : P := h
theorem zq58 {P : Prop} (h : P := by (with_reducible repeat (first | refine blk_drewN ?_ _ | refine blk_drew ?_ | refine blk_alloc ?_ _)); exact BK291.out) : P := h
theorem zq59 {P : Prop} (h : P := by (with_reducible repeat (first | refine blk_drewN ?_ _ | refine blk_drew ?_ | refine blk_alloc ?_ _)); exact BK292.out) : P := h
theorem zq60 {P : Prop} (h : P := by repeat (first | (with_reducible first | exact HB.out | apply below_alloc | apply pw_below_drewN | apply below_drew1 | refine below_set ?_ GE291.out | refine below_set ?_ GE292.out) | exact HB.out)) : P := h
end Go.Proofs.YtelfiofnhchmbaaDoor.A
namespace Go.Proofs.YtelfiofnhchmbaaDoor.A
open Go.RowKit Go.Proofs.YtelfiofnhchmbaaDoor.B Go.Proofs.YtelfiofnhchmbaaDoorW.PrintWords Go.Proofs.YtelfiofnhchmbaaDoorW.PrintLast Go.Proofs.YtelfiofnhchmbaaDoorW.PrintMore
attribute [local go_sem] max2_int min2_int max_two min_two max_three min_three max_four min_four
set_option linter.unusedVariables false
set_option linter.unusedSimpArgs false
set_option maxHeartbeats 8000000
set_option maxRecDepth 100000
attribute [local go_sem high] eqA53
def rf03_divisor.l0 : Nat → Int → Int → Option (Int)
 | 0, _, _ => none
 | k + 1, x0, x1 => if x1 = 0 then (some x0) else (rf03_divisor.l0 k x1 (Int.tmod x0 x1))
def rf03_divisor.f (k : Nat) (a0 : Int) (a1 : Int) : Option (Int) := rf03_divisor.l0 k a0 a1
theorem rf03_divisor.calls (k : Nat) (a0 a1 r : Int) (w : World) (h : rf03_divisor.f k a0 a1 = some r) :
  Calls Tryd.prog 65 #[.int .u64 a0, .int .u64 a1] w fun e w' => e = .returned (.int .u64 r) ∧ Drawn0 w w' := by
 have H := h
 clear h
 unfold rf03_divisor.f at H
 have H' := sd H
 clear H
 go_enter Tryd.func65, Tryd.ntmps65
 go_wp2
 repeat (go_quiet (fail); try go_wp2)
 go_loopg [0, 1] k (fun kq v0 v1 w' => ∃ (x0_1 : Int) (x1_1 : Int), v0 = .int .u64 x0_1 ∧ v1 = .int .u64 x1_1 ∧ Aside0 (rf03_divisor.l0 kq x0_1 x1_1 = some r) ∧ Aside0 (kq ≤ k) ∧ Drawn0 w w')
 case atStart => exact ⟨(a0), (a1), zq1, zq1, H', ⟨Nat.le_refl _⟩, zq23⟩
 case round =>
  clear H'
  try clear p2
  obtain ⟨x0_1, x1_1, rfl, rfl, HA, HK1, ⟨m1, rfl⟩⟩ := hrel
  cases gk with
  | zero => exact absurd HA.out (by simp [rf03_divisor.l0])
  | succ k1 =>
   have H := HA.out
   clear HA
   simp only [rf03_divisor.l0] at H
   replace H := ifI H
   rcases H with ⟨c3, H⟩ | ⟨c3, H⟩
   ·obtain ⟨c3b0, c3b1⟩ := eqI c3
    clear c3
    obtain rfl := Option.some.inj H
    go_wp2
    repeat (go_quiet (fail); try go_wp2)
    go_ret
    exact ⟨zq1, zq23⟩
   obtain ⟨c3b0, c3b1⟩ := neI c3
   have H' := sd H
   clear H
   go_wp2
   repeat (go_quiet (fail); try go_wp2)
   go_roundg k1
   case measure => have := HK1.out; omega
   case rel => exact ⟨(x1_1), (Int.tmod x0_1 x1_1), zq1, zq1, H', ⟨by have := HK1.out; omega⟩, zq23⟩
def rf03_size.f (a0 : Int) : Option (Int) := if a0 < 0 then (some (IntKind.u64.wrap (-(IntKind.u64.wrap (a0))))) else (some (IntKind.u64.wrap (a0)))
theorem rf03_size.calls (a0 r : Int) (w : World) (h : rf03_size.f a0 = some r) :
  Calls Tryd.prog 66 #[.int .i64 a0] w fun e w' => e = .returned (.int .u64 r) ∧ Drawn0 w w' := by
 have H := h
 clear h
 unfold rf03_size.f at H
 replace H := ifI H
 rcases H with ⟨c2, H⟩ | ⟨c2, H⟩
 ·have c2b0 : decide (a0 < 0) = true := decide_eq_true c2
  clear c2
  obtain rfl := Option.some.inj H
  go_enter Tryd.func66, Tryd.ntmps66
  go_wp2
  go_ret
  exact ⟨zq1, zq23⟩
 have c2b0 : decide (a0 < 0) = false := decide_eq_false c2
 clear c2
 obtain rfl := Option.some.inj H
 go_enter Tryd.func66, Tryd.ntmps66
 go_wp2
 go_ret
 exact ⟨zq1, zq23⟩
def rf03_Right.f (k : Nat) (a0_0 : Int) (a0_1 : Int) : Option (Bool) := if a0_1 ≥ 1 then (if a0_1 ≤ 1000000 then (if a0_0 ≥ (-1000000) then (if a0_0 ≤ 1000000 then ((rf03_size.f a0_0).bind fun t286 => ((rf03_size.f a0_1).bind fun t287 => ((rf03_divisor.f k t286 t287).bind fun t288 => (some (t288 == 1))))) else (some false)) else (some false)) else (some false)) else (some false)
theorem rf03_Right.calls (k : Nat) (a0_0 a0_1 : Int) (r : Bool) (w : World) (h : rf03_Right.f k a0_0 a0_1 = some r) :
  Calls Tryd.prog 43 #[.agg #[.int .i64 a0_0, .int .i64 a0_1]] w fun e w' => e = .returned (.bool r) ∧ Below w.heap.size w w' := by
 have hu38 := Tryd.underlying38
 have HB := sd (Below.refl w.heap.size w)
 have H := h
 clear h
 unfold rf03_Right.f at H
 replace H := ifI H
 rcases H with ⟨c2, H⟩ | ⟨c2, H⟩
 ·have c2b0 : decide (1 ≤ a0_1) = true := decide_eq_true c2
  clear c2
  replace H := ifI H
  rcases H with ⟨c3, H⟩ | ⟨c3, H⟩
  ·have c3b0 : decide (a0_1 ≤ 1000000) = true := decide_eq_true c3
   clear c3
   replace H := ifI H
   rcases H with ⟨c4, H⟩ | ⟨c4, H⟩
   ·have c4b0 : decide ((-1000000) ≤ a0_0) = true := decide_eq_true c4
    clear c4
    replace H := ifI H
    rcases H with ⟨c5, H⟩ | ⟨c5, H⟩
    ·have c5b0 : decide (a0_0 ≤ 1000000) = true := decide_eq_true c5
     clear c5
     replace H := bdI H
     obtain ⟨t286, A6, H⟩ := H
     (try dsimp only at H)
     replace H := bdI H
     obtain ⟨t287, A7, H⟩ := H
     (try dsimp only at H)
     replace H := bdI H
     obtain ⟨t288, A8, H⟩ := H
     (try dsimp only at H)
     obtain rfl := Option.some.inj H
     go_enter Tryd.func43, Tryd.ntmps43
     go_wp2_with (first | ((with_reducible refine gate_dst (N := 1) rfl ?_); refine bxA 1 #[.int .i64 a0_0, .int .i64 a0_1] 38 ?_; intro gb285 hg w9 hbox hb; have BK285 := sd (hbox); have GW285 := gem hg HB; have GE285 := GW285; replace HB := hbm HB hb; clear hb hbox hg; obtain ⟨_, _, _, _⟩ := bk2 BK285) | (go_at_call 66; (with_reducible refine (rf03_size.calls a0_0 t286 _ A6.out).mono ?_); rintro e w' ⟨rfl, ⟨nd, rfl⟩⟩; (try first | exact ⟨rfl, _, World.drewN_drewN _ _ _⟩ | exact ⟨rfl, _, Eq.trans (World.drewN_drewN _ _ _) (congrArg (World.drewN _) (Nat.add_assoc _ _ _))⟩)) | (go_at_call 66; (with_reducible refine (rf03_size.calls a0_1 t287 _ A7.out).mono ?_); rintro e w' ⟨rfl, ⟨nd, rfl⟩⟩; (try first | exact ⟨rfl, _, World.drewN_drewN _ _ _⟩ | exact ⟨rfl, _, Eq.trans (World.drewN_drewN _ _ _) (congrArg (World.drewN _) (Nat.add_assoc _ _ _))⟩)) | (go_at_call 65; (with_reducible refine (rf03_divisor.calls k t286 t287 t288 _ A8.out).mono ?_); rintro e w' ⟨rfl, ⟨nd, rfl⟩⟩; (try first | exact ⟨rfl, _, World.drewN_drewN _ _ _⟩ | exact ⟨rfl, _, Eq.trans (World.drewN_drewN _ _ _) (congrArg (World.drewN _) (Nat.add_assoc _ _ _))⟩)))
     repeat (go_quiet (first | ((with_reducible refine gate_dst (N := 1) rfl ?_); refine bxA 1 #[.int .i64 a0_0, .int .i64 a0_1] 38 ?_; intro gb285 hg w9 hbox hb; have BK285 := sd (hbox); have GW285 := gem hg HB; have GE285 := GW285; replace HB := hbm HB hb; clear hb hbox hg; obtain ⟨_, _, _, _⟩ := bk2 BK285) | (go_at_call 66; (with_reducible refine (rf03_size.calls a0_0 t286 _ A6.out).mono ?_); rintro e w' ⟨rfl, ⟨nd, rfl⟩⟩; (try first | exact ⟨rfl, _, World.drewN_drewN _ _ _⟩ | exact ⟨rfl, _, Eq.trans (World.drewN_drewN _ _ _) (congrArg (World.drewN _) (Nat.add_assoc _ _ _))⟩)) | (go_at_call 66; (with_reducible refine (rf03_size.calls a0_1 t287 _ A7.out).mono ?_); rintro e w' ⟨rfl, ⟨nd, rfl⟩⟩; (try first | exact ⟨rfl, _, World.drewN_drewN _ _ _⟩ | exact ⟨rfl, _, Eq.trans (World.drewN_drewN _ _ _) (congrArg (World.drewN _) (Nat.add_assoc _ _ _))⟩)) | (go_at_call 65; (with_reducible refine (rf03_divisor.calls k t286 t287 t288 _ A8.out).mono ?_); rintro e w' ⟨rfl, ⟨nd, rfl⟩⟩; (try first | exact ⟨rfl, _, World.drewN_drewN _ _ _⟩ | exact ⟨rfl, _, Eq.trans (World.drewN_drewN _ _ _) (congrArg (World.drewN _) (Nat.add_assoc _ _ _))⟩))); try go_wp2_with (first | ((with_reducible refine gate_dst (N := 1) rfl ?_); refine bxA 1 #[.int .i64 a0_0, .int .i64 a0_1] 38 ?_; intro gb285 hg w9 hbox hb; have BK285 := sd (hbox); have GW285 := gem hg HB; have GE285 := GW285; replace HB := hbm HB hb; clear hb hbox hg; obtain ⟨_, _, _, _⟩ := bk2 BK285) | (go_at_call 66; (with_reducible refine (rf03_size.calls a0_0 t286 _ A6.out).mono ?_); rintro e w' ⟨rfl, ⟨nd, rfl⟩⟩; (try first | exact ⟨rfl, _, World.drewN_drewN _ _ _⟩ | exact ⟨rfl, _, Eq.trans (World.drewN_drewN _ _ _) (congrArg (World.drewN _) (Nat.add_assoc _ _ _))⟩)) | (go_at_call 66; (with_reducible refine (rf03_size.calls a0_1 t287 _ A7.out).mono ?_); rintro e w' ⟨rfl, ⟨nd, rfl⟩⟩; (try first | exact ⟨rfl, _, World.drewN_drewN _ _ _⟩ | exact ⟨rfl, _, Eq.trans (World.drewN_drewN _ _ _) (congrArg (World.drewN _) (Nat.add_assoc _ _ _))⟩)) | (go_at_call 65; (with_reducible refine (rf03_divisor.calls k t286 t287 t288 _ A8.out).mono ?_); rintro e w' ⟨rfl, ⟨nd, rfl⟩⟩; (try first | exact ⟨rfl, _, World.drewN_drewN _ _ _⟩ | exact ⟨rfl, _, Eq.trans (World.drewN_drewN _ _ _) (congrArg (World.drewN _) (Nat.add_assoc _ _ _))⟩))))
     go_ret
     exact ⟨zq8, zq24⟩
    have c5b0 : decide (a0_0 ≤ 1000000) = false := decide_eq_false c5
    clear c5
    obtain rfl := Option.some.inj H
    go_enter Tryd.func43, Tryd.ntmps43
    go_wp2_with (first | ((with_reducible refine gate_dst (N := 1) rfl ?_); refine bxA 1 #[.int .i64 a0_0, .int .i64 a0_1] 38 ?_; intro gb285 hg w11 hbox hb; have BK285 := sd (hbox); have GW285 := gem hg HB; have GE285 := GW285; replace HB := hbm HB hb; clear hb hbox hg; obtain ⟨_, _, _, _⟩ := bk2 BK285))
    repeat (go_quiet (first | ((with_reducible refine gate_dst (N := 1) rfl ?_); refine bxA 1 #[.int .i64 a0_0, .int .i64 a0_1] 38 ?_; intro gb285 hg w11 hbox hb; have BK285 := sd (hbox); have GW285 := gem hg HB; have GE285 := GW285; replace HB := hbm HB hb; clear hb hbox hg; obtain ⟨_, _, _, _⟩ := bk2 BK285)); try go_wp2_with (first | ((with_reducible refine gate_dst (N := 1) rfl ?_); refine bxA 1 #[.int .i64 a0_0, .int .i64 a0_1] 38 ?_; intro gb285 hg w11 hbox hb; have BK285 := sd (hbox); have GW285 := gem hg HB; have GE285 := GW285; replace HB := hbm HB hb; clear hb hbox hg; obtain ⟨_, _, _, _⟩ := bk2 BK285)))
    go_ret
    exact ⟨zq8, zq24⟩
   have c4b0 : decide ((-1000000) ≤ a0_0) = false := decide_eq_false c4
   clear c4
   obtain rfl := Option.some.inj H
   go_enter Tryd.func43, Tryd.ntmps43
   go_wp2_with (first | ((with_reducible refine gate_dst (N := 1) rfl ?_); refine bxA 1 #[.int .i64 a0_0, .int .i64 a0_1] 38 ?_; intro gb285 hg w13 hbox hb; have BK285 := sd (hbox); have GW285 := gem hg HB; have GE285 := GW285; replace HB := hbm HB hb; clear hb hbox hg; obtain ⟨_, _, _, _⟩ := bk2 BK285))
   repeat (go_quiet (first | ((with_reducible refine gate_dst (N := 1) rfl ?_); refine bxA 1 #[.int .i64 a0_0, .int .i64 a0_1] 38 ?_; intro gb285 hg w13 hbox hb; have BK285 := sd (hbox); have GW285 := gem hg HB; have GE285 := GW285; replace HB := hbm HB hb; clear hb hbox hg; obtain ⟨_, _, _, _⟩ := bk2 BK285)); try go_wp2_with (first | ((with_reducible refine gate_dst (N := 1) rfl ?_); refine bxA 1 #[.int .i64 a0_0, .int .i64 a0_1] 38 ?_; intro gb285 hg w13 hbox hb; have BK285 := sd (hbox); have GW285 := gem hg HB; have GE285 := GW285; replace HB := hbm HB hb; clear hb hbox hg; obtain ⟨_, _, _, _⟩ := bk2 BK285)))
   go_ret
   exact ⟨zq8, zq24⟩
  have c3b0 : decide (a0_1 ≤ 1000000) = false := decide_eq_false c3
  clear c3
  obtain rfl := Option.some.inj H
  go_enter Tryd.func43, Tryd.ntmps43
  go_wp2_with (first | ((with_reducible refine gate_dst (N := 1) rfl ?_); refine bxA 1 #[.int .i64 a0_0, .int .i64 a0_1] 38 ?_; intro gb285 hg w15 hbox hb; have BK285 := sd (hbox); have GW285 := gem hg HB; have GE285 := GW285; replace HB := hbm HB hb; clear hb hbox hg; obtain ⟨_, _, _, _⟩ := bk2 BK285))
  repeat (go_quiet (first | ((with_reducible refine gate_dst (N := 1) rfl ?_); refine bxA 1 #[.int .i64 a0_0, .int .i64 a0_1] 38 ?_; intro gb285 hg w15 hbox hb; have BK285 := sd (hbox); have GW285 := gem hg HB; have GE285 := GW285; replace HB := hbm HB hb; clear hb hbox hg; obtain ⟨_, _, _, _⟩ := bk2 BK285)); try go_wp2_with (first | ((with_reducible refine gate_dst (N := 1) rfl ?_); refine bxA 1 #[.int .i64 a0_0, .int .i64 a0_1] 38 ?_; intro gb285 hg w15 hbox hb; have BK285 := sd (hbox); have GW285 := gem hg HB; have GE285 := GW285; replace HB := hbm HB hb; clear hb hbox hg; obtain ⟨_, _, _, _⟩ := bk2 BK285)))
  go_ret
  exact ⟨zq8, zq24⟩
 have c2b0 : decide (1 ≤ a0_1) = false := decide_eq_false c2
 clear c2
 obtain rfl := Option.some.inj H
 go_enter Tryd.func43, Tryd.ntmps43
 go_wp2_with (first | ((with_reducible refine gate_dst (N := 1) rfl ?_); refine bxA 1 #[.int .i64 a0_0, .int .i64 a0_1] 38 ?_; intro gb285 hg w17 hbox hb; have BK285 := sd (hbox); have GW285 := gem hg HB; have GE285 := GW285; replace HB := hbm HB hb; clear hb hbox hg; obtain ⟨_, _, _, _⟩ := bk2 BK285))
 repeat (go_quiet (first | ((with_reducible refine gate_dst (N := 1) rfl ?_); refine bxA 1 #[.int .i64 a0_0, .int .i64 a0_1] 38 ?_; intro gb285 hg w17 hbox hb; have BK285 := sd (hbox); have GW285 := gem hg HB; have GE285 := GW285; replace HB := hbm HB hb; clear hb hbox hg; obtain ⟨_, _, _, _⟩ := bk2 BK285)); try go_wp2_with (first | ((with_reducible refine gate_dst (N := 1) rfl ?_); refine bxA 1 #[.int .i64 a0_0, .int .i64 a0_1] 38 ?_; intro gb285 hg w17 hbox hb; have BK285 := sd (hbox); have GW285 := gem hg HB; have GE285 := GW285; replace HB := hbm HB hb; clear hb hbox hg; obtain ⟨_, _, _, _⟩ := bk2 BK285)))
 go_ret
 exact ⟨zq8, zq24⟩
def rf24_share.f (k : Nat) (a0_0 : Int) (a0_1 : Int) : Option (Bool) := (rf03_Right.f k a0_0 a0_1).bind fun t290 => (if t290 = true then (if a0_0 > 0 then (some (decide (a0_0 < a0_1))) else (some false)) else (some false))
theorem rf24_share.calls (k : Nat) (a0_0 a0_1 : Int) (r : Bool) (w : World) (h : rf24_share.f k a0_0 a0_1 = some r) :
  Calls Tryd.prog 29 #[.agg #[.int .i64 a0_0, .int .i64 a0_1]] w fun e w' => e = .returned (.bool r) ∧ Below w.heap.size w w' := by
 have hu38 := Tryd.underlying38
 have HB := sd (Below.refl w.heap.size w)
 have H := h
 clear h
 unfold rf24_share.f at H
 replace H := bdI H
 obtain ⟨t290, A2, H⟩ := H
 (try dsimp only at H)
 by_cases c3 : t290 = true
 ·subst c3
  rw [if_pos rfl] at H
  replace H := ifI H
  rcases H with ⟨c4, H⟩ | ⟨c4, H⟩
  ·have c4b0 : decide (0 < a0_0) = true := decide_eq_true c4
   clear c4
   obtain rfl := Option.some.inj H
   go_enter Tryd.func29, Tryd.ntmps29
   go_wp2_with (first | ((with_reducible refine gate_dst (N := 1) rfl ?_); refine bxA 1 #[.int .i64 a0_0, .int .i64 a0_1] 38 ?_; intro gb289 hg w5 hbox hb; have BK289 := sd (hbox); have GW289 := gem hg HB; have GE289 := GW289; replace HB := hbm HB hb; clear hb hbox hg; obtain ⟨_, _, _, _⟩ := bk2 BK289) | ((with_reducible refine gate_callee (f := 43) rfl ?_); refine gL 4 Tryd.func43 #[.agg #[.int .i64 a0_0, .int .i64 a0_1]] ?_; (with_reducible refine (rf03_Right.calls k a0_0 a0_1 true _ A2.out).mono ?_); rintro e w7 ⟨rfl, hb⟩; refine ⟨_, rfl, ?_⟩; replace BK289 := bkm BK289 hb; replace HB := hbm HB hb; clear hb; obtain ⟨_, _, _, _⟩ := bk2 BK289))
   go_ret
   exact ⟨zq8, zq25⟩
  have c4b0 : decide (0 < a0_0) = false := decide_eq_false c4
  clear c4
  obtain rfl := Option.some.inj H
  go_enter Tryd.func29, Tryd.ntmps29
  go_wp2_with (first | ((with_reducible refine gate_dst (N := 1) rfl ?_); refine bxA 1 #[.int .i64 a0_0, .int .i64 a0_1] 38 ?_; intro gb289 hg w9 hbox hb; have BK289 := sd (hbox); have GW289 := gem hg HB; have GE289 := GW289; replace HB := hbm HB hb; clear hb hbox hg; obtain ⟨_, _, _, _⟩ := bk2 BK289) | ((with_reducible refine gate_callee (f := 43) rfl ?_); refine gL 4 Tryd.func43 #[.agg #[.int .i64 a0_0, .int .i64 a0_1]] ?_; (with_reducible refine (rf03_Right.calls k a0_0 a0_1 true _ A2.out).mono ?_); rintro e w11 ⟨rfl, hb⟩; refine ⟨_, rfl, ?_⟩; replace BK289 := bkm BK289 hb; replace HB := hbm HB hb; clear hb; obtain ⟨_, _, _, _⟩ := bk2 BK289))
  go_ret
  exact ⟨zq8, zq25⟩
 replace c3 := Bool.eq_false_iff.mpr c3
 subst c3
 rw [if_neg Bool.false_ne_true] at H
 obtain rfl := Option.some.inj H
 go_enter Tryd.func29, Tryd.ntmps29
 go_wp2_with (first | ((with_reducible refine gate_dst (N := 1) rfl ?_); refine bxA 1 #[.int .i64 a0_0, .int .i64 a0_1] 38 ?_; intro gb289 hg w13 hbox hb; have BK289 := sd (hbox); have GW289 := gem hg HB; have GE289 := GW289; replace HB := hbm HB hb; clear hb hbox hg; obtain ⟨_, _, _, _⟩ := bk2 BK289) | ((with_reducible refine gate_callee (f := 43) rfl ?_); refine gL 4 Tryd.func43 #[.agg #[.int .i64 a0_0, .int .i64 a0_1]] ?_; (with_reducible refine (rf03_Right.calls k a0_0 a0_1 false _ A2.out).mono ?_); rintro e w15 ⟨rfl, hb⟩; refine ⟨_, rfl, ?_⟩; replace BK289 := bkm BK289 hb; replace HB := hbm HB hb; clear hb))
 go_ret
 exact ⟨zq8, zq25⟩
end Go.Proofs.YtelfiofnhchmbaaDoor.A
namespace Go.Proofs.YtelfiofnhchmbaaDoor.A
open Go.RowKit Go.Proofs.YtelfiofnhchmbaaDoor.B Go.Proofs.YtelfiofnhchmbaaDoorW.PrintWords Go.Proofs.YtelfiofnhchmbaaDoorW.PrintLast Go.Proofs.YtelfiofnhchmbaaDoorW.PrintMore
attribute [local go_sem] max2_int min2_int max_two min_two max_three min_three max_four min_four
set_option linter.unusedVariables false
set_option linter.unusedSimpArgs false
set_option maxHeartbeats 8000000
set_option maxRecDepth 100000
def rf03_Cmp.j0 : Nat → Int → Int → Bool → Option (Int)
 | 0, _, _, _ => none
 | k + 1, x5, x6, x29 => if x29 = true then (some 0) else (if x5 < x6 then (some (-1)) else (some 1))
def rf03_Cmp.f (k : Nat) (a0_0 : Int) (a0_1 : Int) (a1_0 : Int) (a1_1 : Int) : Option (Int) := (rf03_Right.f k a0_0 a0_1).bind fun t293 => (if t293 = true then ((rf03_Right.f k a1_0 a1_1).bind fun t294 => (if t294 = true then (rf03_Cmp.j0 k (wrap64 (a0_0 * a1_1)) (wrap64 (a1_0 * a0_1)) ((wrap64 (a0_0 * a1_1)) == (wrap64 (a1_0 * a0_1)))) else (rf03_Cmp.j0 k (wrap64 (a0_0 * a1_1)) (wrap64 (a1_0 * a0_1)) true))) else (rf03_Cmp.j0 k (wrap64 (a0_0 * a1_1)) (wrap64 (a1_0 * a0_1)) true))
theorem rf03_Cmp.calls (k : Nat) (a0_0 a0_1 a1_0 a1_1 r : Int) (w : World) (h : rf03_Cmp.f k a0_0 a0_1 a1_0 a1_1 = some r) :
  Calls Tryd.prog 30 #[.agg #[.int .i64 a0_0, .int .i64 a0_1], .agg #[.int .i64 a1_0, .int .i64 a1_1]] w fun e w' => e = .returned (.int .i64 r) ∧ Below w.heap.size w w' := by
 have hu38 := Tryd.underlying38
 have HB := sd (Below.refl w.heap.size w)
 have H := h
 clear h
 unfold rf03_Cmp.f at H
 have HC3 := sd H
 clear H
 go_enter Tryd.func30, Tryd.ntmps30
 go_upto_region 2 with (first | ((with_reducible refine gate_dst (N := 2) rfl ?_); refine bxA 2 #[.int .i64 a0_0, .int .i64 a0_1] 38 ?_; intro gb291 hg w4 hbox hb; have BK291 := sd (hbox); have GW291 := gem hg HB; have GE291 := GW291; replace HB := hbm HB hb; clear hb hbox hg) | ((with_reducible refine gate_dst (N := 3) rfl ?_); refine bxA 3 #[.int .i64 a1_0, .int .i64 a1_1] 38 ?_; intro gb292 hg w5 hbox hb; have BK292 := sd (hbox); have GW292 := gem hg HB; have GE292 := GW292; have NB291_292 := nlm hg BK291; have NB292_291 := ngm hg BK291; replace BK291 := bkm BK291 hb; replace HB := hbm HB hb; clear hb hbox hg; have hnb6 := NB291_292.out; have hnc6 := NB292_291.out; obtain ⟨_, _, _, _⟩ := bk2 BK291; obtain ⟨_, _, _, _⟩ := bk2 BK292))
 repeat (go_quiet (first | ((with_reducible refine gate_dst (N := 2) rfl ?_); refine bxA 2 #[.int .i64 a0_0, .int .i64 a0_1] 38 ?_; intro gb291 hg w4 hbox hb; have BK291 := sd (hbox); have GW291 := gem hg HB; have GE291 := GW291; replace HB := hbm HB hb; clear hb hbox hg) | ((with_reducible refine gate_dst (N := 3) rfl ?_); refine bxA 3 #[.int .i64 a1_0, .int .i64 a1_1] 38 ?_; intro gb292 hg w5 hbox hb; have BK292 := sd (hbox); have GW292 := gem hg HB; have GE292 := GW292; have NB291_292 := nlm hg BK291; have NB292_291 := ngm hg BK291; replace BK291 := bkm BK291 hb; replace HB := hbm HB hb; clear hb hbox hg; have hnb6 := NB291_292.out; have hnc6 := NB292_291.out; obtain ⟨_, _, _, _⟩ := bk2 BK291; obtain ⟨_, _, _, _⟩ := bk2 BK292)); go_upto_region 2 with (first | ((with_reducible refine gate_dst (N := 2) rfl ?_); refine bxA 2 #[.int .i64 a0_0, .int .i64 a0_1] 38 ?_; intro gb291 hg w4 hbox hb; have BK291 := sd (hbox); have GW291 := gem hg HB; have GE291 := GW291; replace HB := hbm HB hb; clear hb hbox hg) | ((with_reducible refine gate_dst (N := 3) rfl ?_); refine bxA 3 #[.int .i64 a1_0, .int .i64 a1_1] 38 ?_; intro gb292 hg w5 hbox hb; have BK292 := sd (hbox); have GW292 := gem hg HB; have GE292 := GW292; have NB291_292 := nlm hg BK291; have NB292_291 := ngm hg BK291; replace BK291 := bkm BK291 hb; replace HB := hbm HB hb; clear hb hbox hg; have hnb6 := NB291_292.out; have hnc6 := NB292_291.out; obtain ⟨_, _, _, _⟩ := bk2 BK291; obtain ⟨_, _, _, _⟩ := bk2 BK292)))
 (try simp only [Act.put, List.setIfInBounds_toArray, List.set_cons_zero, List.set_cons_succ])
 go_cut [29] (fun v29 wc => ∃ (kq : Nat) (x29_2 : Bool), v29 = .bool x29_2 ∧ Aside0 (rf03_Cmp.j0 kq (wrap64 (a0_0 * a1_1)) (wrap64 (a1_0 * a0_1)) x29_2 = some r) ∧ Aside0 (kq ≤ k) ∧ Aside0 (wc.heap[gb291]? = some (.cells #[.int .i64 a0_0, .int .i64 a0_1] 38 (0, 0))) ∧ Aside0 (wc.heap[gb292]? = some (.cells #[.int .i64 a1_0, .int .i64 a1_1] 38 (0, 0))) ∧ Aside0 (Below w.heap.size w wc))
 case first =>
  have H := HC3.out
  clear HC3
  replace H := bdI H
  obtain ⟨t293, A9, H⟩ := H
  (try dsimp only at H)
  by_cases c10 : t293 = true
  ·subst c10
   rw [if_pos rfl] at H
   replace H := bdI H
   obtain ⟨t294, A11, H⟩ := H
   (try dsimp only at H)
   by_cases c12 : t294 = true
   ·subst c12
    rw [if_pos rfl] at H
    have H' := sd H
    clear H
    have hnb13 := NB291_292.out
    have hnc13 := NB292_291.out
    obtain ⟨_, _, _, _⟩ := bk2 BK291
    go_wp2_with (first | (go_at_call 43; (with_reducible refine (rf03_Right.calls k a0_0 a0_1 true _ A9.out).mono ?_); rintro e w15 ⟨rfl, hb⟩; replace BK291 := bkm BK291 hb; replace BK292 := bkm BK292 hb; replace HB := hbm HB hb; clear hb; obtain ⟨_, _, _, _⟩ := bk2 BK292) | (go_at_call 43; (with_reducible refine (rf03_Right.calls k a1_0 a1_1 true _ A11.out).mono ?_); rintro e w17 ⟨rfl, hb⟩; replace BK291 := bkm BK291 hb; replace BK292 := bkm BK292 hb; replace HB := hbm HB hb; clear hb))
    repeat (go_quiet (first | (go_at_call 43; (with_reducible refine (rf03_Right.calls k a0_0 a0_1 true _ A9.out).mono ?_); rintro e w15 ⟨rfl, hb⟩; replace BK291 := bkm BK291 hb; replace BK292 := bkm BK292 hb; replace HB := hbm HB hb; clear hb; obtain ⟨_, _, _, _⟩ := bk2 BK292) | (go_at_call 43; (with_reducible refine (rf03_Right.calls k a1_0 a1_1 true _ A11.out).mono ?_); rintro e w17 ⟨rfl, hb⟩; replace BK291 := bkm BK291 hb; replace BK292 := bkm BK292 hb; replace HB := hbm HB hb; clear hb)); try go_wp2_with (first | (go_at_call 43; (with_reducible refine (rf03_Right.calls k a0_0 a0_1 true _ A9.out).mono ?_); rintro e w15 ⟨rfl, hb⟩; replace BK291 := bkm BK291 hb; replace BK292 := bkm BK292 hb; replace HB := hbm HB hb; clear hb; obtain ⟨_, _, _, _⟩ := bk2 BK292) | (go_at_call 43; (with_reducible refine (rf03_Right.calls k a1_0 a1_1 true _ A11.out).mono ?_); rintro e w17 ⟨rfl, hb⟩; replace BK291 := bkm BK291 hb; replace BK292 := bkm BK292 hb; replace HB := hbm HB hb; clear hb)))
    go_meet
    case rel => exact ⟨_, (((wrap64 (a0_0 * a1_1)) == (wrap64 (a1_0 * a0_1)))), zq1, H', ⟨by first | omega | exact Nat.le_refl _⟩, ⟨zq58⟩, ⟨zq59⟩, ⟨zq60⟩⟩
   replace c12 := Bool.eq_false_iff.mpr c12
   subst c12
   rw [if_neg Bool.false_ne_true] at H
   have H' := sd H
   clear H
   have hnb18 := NB291_292.out
   have hnc18 := NB292_291.out
   obtain ⟨_, _, _, _⟩ := bk2 BK291
   go_wp2_with (first | (go_at_call 43; (with_reducible refine (rf03_Right.calls k a0_0 a0_1 true _ A9.out).mono ?_); rintro e w20 ⟨rfl, hb⟩; replace BK291 := bkm BK291 hb; replace BK292 := bkm BK292 hb; replace HB := hbm HB hb; clear hb; obtain ⟨_, _, _, _⟩ := bk2 BK292) | (go_at_call 43; (with_reducible refine (rf03_Right.calls k a1_0 a1_1 false _ A11.out).mono ?_); rintro e w22 ⟨rfl, hb⟩; replace BK291 := bkm BK291 hb; replace BK292 := bkm BK292 hb; replace HB := hbm HB hb; clear hb))
   repeat (go_quiet (first | (go_at_call 43; (with_reducible refine (rf03_Right.calls k a0_0 a0_1 true _ A9.out).mono ?_); rintro e w20 ⟨rfl, hb⟩; replace BK291 := bkm BK291 hb; replace BK292 := bkm BK292 hb; replace HB := hbm HB hb; clear hb; obtain ⟨_, _, _, _⟩ := bk2 BK292) | (go_at_call 43; (with_reducible refine (rf03_Right.calls k a1_0 a1_1 false _ A11.out).mono ?_); rintro e w22 ⟨rfl, hb⟩; replace BK291 := bkm BK291 hb; replace BK292 := bkm BK292 hb; replace HB := hbm HB hb; clear hb)); try go_wp2_with (first | (go_at_call 43; (with_reducible refine (rf03_Right.calls k a0_0 a0_1 true _ A9.out).mono ?_); rintro e w20 ⟨rfl, hb⟩; replace BK291 := bkm BK291 hb; replace BK292 := bkm BK292 hb; replace HB := hbm HB hb; clear hb; obtain ⟨_, _, _, _⟩ := bk2 BK292) | (go_at_call 43; (with_reducible refine (rf03_Right.calls k a1_0 a1_1 false _ A11.out).mono ?_); rintro e w22 ⟨rfl, hb⟩; replace BK291 := bkm BK291 hb; replace BK292 := bkm BK292 hb; replace HB := hbm HB hb; clear hb)))
   go_meet
   case rel => exact ⟨_, (true), zq1, H', ⟨by first | omega | exact Nat.le_refl _⟩, ⟨zq58⟩, ⟨zq59⟩, ⟨zq60⟩⟩
  replace c10 := Bool.eq_false_iff.mpr c10
  subst c10
  rw [if_neg Bool.false_ne_true] at H
  have H' := sd H
  clear H
  have hnb23 := NB291_292.out
  have hnc23 := NB292_291.out
  obtain ⟨_, _, _, _⟩ := bk2 BK291
  go_wp2_with (first | (go_at_call 43; (with_reducible refine (rf03_Right.calls k a0_0 a0_1 false _ A9.out).mono ?_); rintro e w25 ⟨rfl, hb⟩; replace BK291 := bkm BK291 hb; replace BK292 := bkm BK292 hb; replace HB := hbm HB hb; clear hb))
  repeat (go_quiet (first | (go_at_call 43; (with_reducible refine (rf03_Right.calls k a0_0 a0_1 false _ A9.out).mono ?_); rintro e w25 ⟨rfl, hb⟩; replace BK291 := bkm BK291 hb; replace BK292 := bkm BK292 hb; replace HB := hbm HB hb; clear hb)); try go_wp2_with (first | (go_at_call 43; (with_reducible refine (rf03_Right.calls k a0_0 a0_1 false _ A9.out).mono ?_); rintro e w25 ⟨rfl, hb⟩; replace BK291 := bkm BK291 hb; replace BK292 := bkm BK292 hb; replace HB := hbm HB hb; clear hb)))
  go_meet
  case rel => exact ⟨_, (true), zq1, H', ⟨by first | omega | exact Nat.le_refl _⟩, ⟨zq58⟩, ⟨zq59⟩, ⟨zq60⟩⟩
 case rest =>
  clear HC3
  try clear c1
  try clear c2
  try clear p2
  try clear c3
  try clear c6
  try clear p6
  try clear c10
  try clear c12
  try clear c13
  try clear c18
  try clear c23
  try clear hcz14_0
  try clear hcz14_1
  try clear hcz16_0
  try clear hcz16_1
  try clear hcz19_0
  try clear hcz19_1
  try clear hcz21_0
  try clear hcz21_1
  try clear hcz24_0
  try clear hcz24_1
  try clear hcz7_0
  try clear hcz7_1
  try clear hcz8_0
  try clear hcz8_1
  try clear hfz14_0
  try clear hfz14_1
  try clear hfz16_0
  try clear hfz16_1
  try clear hfz19_0
  try clear hfz19_1
  try clear hfz21_0
  try clear hfz21_1
  try clear hfz24_0
  try clear hfz24_1
  try clear hfz7_0
  try clear hfz7_1
  try clear hfz8_0
  try clear hfz8_1
  obtain ⟨kq, x29_2, rfl, HA, HJ2, BK291, BK292, HB⟩ := hcut
  cases kq with
  | zero => exact absurd HA.out (by simp [rf03_Cmp.j0])
  | succ kj2 =>
   have H := HA.out
   clear HA
   simp only [rf03_Cmp.j0] at H
   by_cases c26 : x29_2 = true
   ·subst c26
    rw [if_pos rfl] at H
    obtain rfl := Option.some.inj H
    go_wp2
    repeat (go_quiet (fail); try go_wp2)
    go_ret
    exact ⟨zq8, zq60⟩
   replace c26 := Bool.eq_false_iff.mpr c26
   subst c26
   rw [if_neg Bool.false_ne_true] at H
   replace H := ifI H
   rcases H with ⟨c27, H⟩ | ⟨c27, H⟩
   ·have c27b0 : decide ((wrap64 (a0_0 * a1_1)) < (wrap64 (a1_0 * a0_1))) = true := decide_eq_true c27
    clear c27
    obtain rfl := Option.some.inj H
    go_wp2
    repeat (go_quiet (fail); try go_wp2)
    go_ret
    exact ⟨zq8, zq60⟩
   have c27b0 : decide ((wrap64 (a0_0 * a1_1)) < (wrap64 (a1_0 * a0_1))) = false := decide_eq_false c27
   clear c27
   obtain rfl := Option.some.inj H
   go_wp2
   repeat (go_quiet (fail); try go_wp2)
   go_ret
   exact ⟨zq8, zq60⟩
mutual
def rf24_Right.j0 : Nat → Bool → Int → Bool → List (S53) → Option (Bool)
 | 0, _, _, _, _ => none
 | k + 1, x18, x296000, x296001, x296002 => if x18 = true then (some false) else (rf24_Right.l0 k 0 x296000 x296001 x296002)
def rf24_Right.l0 : Nat → Int → Int → Bool → List (S53) → Option (Bool)
 | 0, _, _, _, _ => none
 | k + 1, x3, x296000, x296001, x296002 => if x3 < (x296002.length : Int) then (if 0 ≤ x3 then (if ((rd_T53 x296002 x3).f0) < 0 then (rf24_Right.j2 k x3 true x296000 x296001 x296002 ((rd_T53 x296002 x3).f0) ((rd_T53 x296002 x3).f1.f0) ((rd_T53 x296002 x3).f1.f1)) else (if ((rd_T53 x296002 x3).f0) > 365 then (rf24_Right.j2 k x3 true x296000 x296001 x296002 ((rd_T53 x296002 x3).f0) ((rd_T53 x296002 x3).f1.f0) ((rd_T53 x296002 x3).f1.f1)) else ((rf24_share.f k ((rd_T53 x296002 x3).f1.f0) ((rd_T53 x296002 x3).f1.f1)).bind fun t298 => (rf24_Right.j2 k x3 (!t298) x296000 x296001 x296002 ((rd_T53 x296002 x3).f0) ((rd_T53 x296002 x3).f1.f0) ((rd_T53 x296002 x3).f1.f1))))) else (none)) else (some true)
def rf24_Right.j2 : Nat → Int → Bool → Int → Bool → List (S53) → Int → Int → Int → Option (Bool)
 | 0, _, _, _, _, _, _, _, _ => none
 | k + 1, x3, x44, x296000, x296001, x296002, x298000, x298001, x298002 => if x44 = true then (some false) else (if x3 > 0 then (if 0 ≤ (wrap64 (x3 - 1)) then (if (wrap64 (x3 - 1)) < (x296002.length : Int) then (if x298000 ≤ ((rd_T53 x296002 (wrap64 (x3 - 1))).f0) then (some false) else ((rf03_Cmp.f k x298001 x298002 ((rd_T53 x296002 (wrap64 (x3 - 1))).f1.f0) ((rd_T53 x296002 (wrap64 (x3 - 1))).f1.f1)).bind fun t301 => (if t301 ≥ 0 then (some false) else (rf24_Right.l0 k (wrap64 (x3 + 1)) x296000 x296001 x296002)))) else (none)) else (none)) else (rf24_Right.l0 k (wrap64 (x3 + 1)) x296000 x296001 x296002))
end
def rf24_Right.f (k : Nat) (a0_0 : Int) (a0_1 : Bool) (l0_2 : List (S53)) : Option (Bool) := if a0_0 < 0 then (rf24_Right.j0 k true a0_0 a0_1 l0_2) else (if a0_0 > 365 then (rf24_Right.j0 k true a0_0 a0_1 l0_2) else (rf24_Right.j0 k (decide ((l0_2.length : Int) > 5)) a0_0 a0_1 l0_2))
def rf24_Right.T9 : Bool × List (List Nat × List Nat) := (true, [([], []), ([0], [0]), ([1], [1]), ([2], [2]), ([3, 2], [2, 3]), ([2], [2]), ([5, 2], [2, 5]), ([2], [2]), ([7, 2], [2, 7]), ([6, 8, 2], [2, 6, 8]), ([9, 2], [2, 9]), ([10, 2], [2, 10]), ([4, 11, 2], [2, 4, 11]), ([12, 2, 2], [2, 12]), ([13], [13]), ([14, 13], [13, 14]), ([13], [13]), ([16, 13], [13, 16]), ([13], [13]), ([18, 13], [13, 18]), ([17, 19, 13], [13, 17, 19]), ([20, 13], [13, 20]), ([21, 13], [13, 21]), ([15, 22, 13, 13], [13, 15, 22]), ([23, 13], [13, 23]), ([13, 24, 2], [2, 13, 24]), ([2, 25], [2, 25])])
def rf24_Right.B9 : List Nat := [0, 1, 3, 7, 15, 7, 39, 7, 135, 487, 999, 2023, 4095, 8191, 16383, 32767, 16383, 81919, 16383, 278527, 999423, 2047999, 4145151, 8388607, 16777215, 33554431, 67108863]
theorem rf24_Right.tab9 : rtab .any (opsOf Tryd.f13 9) = rf24_Right.T9 := by kernel_rfl
theorem rf24_Right.bits9 : waitsOk rf24_Right.T9.2 rf24_Right.B9 = true := by kernel_rfl
theorem rf24_Right.calls (k : Nat) (a0_0 : Int) (a0_1 : Bool) (A0_2 : Option Addr) (c0_2 : Nat) (l0_2 : List (S53)) (r : Bool) (w : World) (hr0_2 : Kd.C k53 w A0_2 l0_2.length l0_2) (hc0_2 : l0_2.length ≤ c0_2) (h : rf24_Right.f k a0_0 a0_1 l0_2 = some r) :
  Calls Tryd.prog 13 #[.agg #[.int .i64 a0_0, .bool a0_1, .slice A0_2 l0_2.length c0_2]] w fun e w' => e = .returned (.bool r) ∧ Below w.heap.size w w' := by
 have hu24 := Tryd.underlying24
 have hu53 := Tryd.underlying53
 have hu38 := Tryd.underlying38
 have HR0_2 := sd hr0_2
 have HC0_2 := sd hc0_2
 clear hr0_2 hc0_2
 have HB := sd (Below.refl w.heap.size w)
 have H := h
 clear h
 unfold rf24_Right.f at H
 have HC2 := sd H
 clear H
 go_enter Tryd.func13, Tryd.ntmps13
 go_upto_region 1 with (first | ((with_reducible refine gate_dst (N := 1) rfl ?_); (try (refine gate_guard (by rfl) ?_; dsimp only)); refine bxA 1 #[.int .i64 a0_0, .bool a0_1, .slice A0_2 l0_2.length c0_2] 24 ?_; intro gb295 hg w3 hbox hb; have BK295 := sd (hbox); have GW295 := gem hg HB; have GE295 := GW295; replace HB := hbm HB hb; clear hb hbox hg))
 (try simp only [Act.put, List.setIfInBounds_toArray, List.set_cons_zero, List.set_cons_succ])
 go_cut [18] (fun v18 wc => ∃ (kq : Nat) (x18_1 : Bool), v18 = .bool x18_1 ∧ Aside0 (rf24_Right.j0 kq x18_1 a0_0 a0_1 l0_2 = some r) ∧ Aside0 (kq ≤ k) ∧ Aside0 (wc.heap[gb295]? = some (.cells #[.int .i64 a0_0, .bool a0_1, (.slice A0_2 l0_2.length c0_2)] 24 (0, 0))) ∧ Aside0 (Below w.heap.size w wc))
 case first =>
  have H := HC2.out
  clear HC2
  replace H := ifI H
  rcases H with ⟨c4, H⟩ | ⟨c4, H⟩
  ·have c4b0 : decide (a0_0 < 0) = true := decide_eq_true c4
   clear c4
   (first | rw [c4b0] | (simp only [i64_w, i32_w]; rw [c4b0]) | skip)
   have H' := sd H
   clear H
   obtain ⟨_, _, _, _, _, _⟩ := bk3 BK295
   go_wp2
   go_meet
   case rel => exact ⟨_, (true), zq1, H', ⟨by first | omega | exact Nat.le_refl _⟩, ⟨zq26⟩, ⟨zq27⟩⟩
  have c4b0 : decide (a0_0 < 0) = false := decide_eq_false c4
  clear c4
  (first | rw [c4b0] | (simp only [i64_w, i32_w]; rw [c4b0]) | skip)
  replace H := ifI H
  rcases H with ⟨c6, H⟩ | ⟨c6, H⟩
  ·have c6b0 : decide (365 < a0_0) = true := decide_eq_true c6
   clear c6
   have H' := sd H
   clear H
   obtain ⟨_, _, _, _, _, _⟩ := bk3 BK295
   go_wp2
   go_meet
   case rel => exact ⟨_, (true), zq1, H', ⟨by first | omega | exact Nat.le_refl _⟩, ⟨zq26⟩, ⟨zq27⟩⟩
  have c6b0 : decide (365 < a0_0) = false := decide_eq_false c6
  clear c6
  have H' := sd H
  clear H
  obtain ⟨_, _, _, _, _, _⟩ := bk3 BK295
  go_wp2
  go_meet
  case rel => exact ⟨_, (decide ((l0_2.length : Int) > 5)), zq1, H', ⟨by first | omega | exact Nat.le_refl _⟩, ⟨zq26⟩, ⟨zq27⟩⟩
 case rest =>
  clear HC2
  try clear c1
  try clear p2
  try clear c4
  try clear c4b0
  try clear c6
  try clear c6b0
  try clear hcz5_0
  try clear hcz5_1
  try clear hcz5_2
  try clear hcz7_0
  try clear hcz7_1
  try clear hcz7_2
  try clear hcz8_0
  try clear hcz8_1
  try clear hcz8_2
  try clear hfz5_0
  try clear hfz5_1
  try clear hfz5_2
  try clear hfz7_0
  try clear hfz7_1
  try clear hfz7_2
  try clear hfz8_0
  try clear hfz8_1
  try clear hfz8_2
  obtain ⟨kq, x18_1, rfl, HA, HJ1, BK295, HB⟩ := hcut
  cases kq with
  | zero => exact absurd HA.out (by simp [rf24_Right.j0])
  | succ kj1 =>
   have H := HA.out
   clear HA
   simp only [rf24_Right.j0] at H
   by_cases c9 : x18_1 = true
   ·subst c9
    rw [if_pos rfl] at H
    obtain rfl := Option.some.inj H
    go_wp2
    go_ret
    exact ⟨zq8, zq27⟩
   replace c9 := Bool.eq_false_iff.mpr c9
   subst c9
   rw [if_neg Bool.false_ne_true] at H
   have H' := sd H
   clear H
   go_wp2
   go_loopg [3] kj1 (fun kq v3 w' => ∃ (x3_2 : Int), v3 = .int .i64 x3_2 ∧ Aside0 (rf24_Right.l0 kq x3_2 a0_0 a0_1 l0_2 = some r) ∧ Aside0 (kq ≤ kj1) ∧ Aside0 (w'.heap[gb295]? = some (.cells #[.int .i64 a0_0, .bool a0_1, (.slice A0_2 l0_2.length c0_2)] 24 (0, 0))) ∧ Aside0 (Below w.heap.size w w'))
   case atStart => exact ⟨(0), zq1, H', ⟨Nat.le_refl _⟩, ⟨zq26⟩, ⟨zq27⟩⟩
   case round =>
    clear H'
    try clear c1
    try clear p2
    try clear c4
    try clear c4b0
    try clear c6
    try clear c6b0
    try clear c9
    try clear hcz5_0
    try clear hcz5_1
    try clear hcz5_2
    try clear hcz7_0
    try clear hcz7_1
    try clear hcz7_2
    try clear hcz8_0
    try clear hcz8_1
    try clear hcz8_2
    try clear hfz5_0
    try clear hfz5_1
    try clear hfz5_2
    try clear hfz7_0
    try clear hfz7_1
    try clear hfz7_2
    try clear hfz8_0
    try clear hfz8_1
    try clear hfz8_2
    try clear p2
    obtain ⟨x3_2, rfl, HA, HK2, BK295, HB⟩ := hrel
    cases gk with
    | zero => exact absurd HA.out (by simp [rf24_Right.l0])
    | succ k2 =>
     have H := HA.out
     clear HA
     simp only [rf24_Right.l0] at H
     replace H := ifI H
     rcases H with ⟨c10, H⟩ | ⟨c10, H⟩
     ·have c10b0 : decide (x3_2 < (l0_2.length : Int)) = true := decide_eq_true c10
      clear c10
      replace H := ifI H
      rcases H with ⟨c11, H⟩ | ⟨c11, H⟩
      ·have c11b0 : decide (0 ≤ x3_2) = true := decide_eq_true c11
       clear c11
       have HC12 := sd H
       clear H
       obtain ⟨_, _, _, _, _, _⟩ := bk3 BK295
       have p296 : 0 ≤ (x3_2 : Int) := od
       have q296 : x3_2 < (l0_2.length : Int) := od
       obtain ⟨ad296, e296, hx296_0, hx296_1, hx296_2⟩ := at_T53 HR0_2.out x3_2 p296 q296
       cases e296
       replace hx296_0 := (HB.out.cell (World.block_lt_of_cell? w _ hx296_0)).trans hx296_0
       replace hx296_1 := (HB.out.cell (World.block_lt_of_cell? w _ hx296_1)).trans hx296_1
       replace hx296_2 := (HB.out.cell (World.block_lt_of_cell? w _ hx296_2)).trans hx296_2
       replace p296 := eq_true p296
       replace q296 := eq_true q296
       go_upto_region 7 with (first | ((with_reducible refine gate_dst (N := 4) rfl ?_); (try (refine gate_guard (by rfl) ?_; dsimp only)); refine bxA 4 #[.int .i64 0, .int .i64 0, .int .i64 0] 53 ?_; intro gb297 hg w14 hbox hb; have BK297 := sd (hbox); have GW297 := gem hg HB; have GE297 := GW297; have NB295_297 := nlm hg BK295; have NB297_295 := ngm hg BK295; replace BK295 := bkm BK295 hb; replace HB := hbm HB hb; clear hb hbox hg; have hnb15 := NB297_295.out; have hnc15 := NB295_297.out; obtain ⟨_, _, _, _, _, _⟩ := bk3 BK297))
       (try simp only [Act.put, List.setIfInBounds_toArray, List.set_cons_zero, List.set_cons_succ])
       go_cut [44] (fun v44 wc => ∃ (kq : Nat) (x44_11 : Bool), v44 = .bool x44_11 ∧ Aside0 (rf24_Right.j2 kq x3_2 x44_11 a0_0 a0_1 l0_2 ((rd_T53 l0_2 x3_2).f0) ((rd_T53 l0_2 x3_2).f1.f0) ((rd_T53 l0_2 x3_2).f1.f1) = some r) ∧ Aside0 (kq ≤ k2) ∧ Aside0 (wc.heap[gb295]? = some (.cells #[.int .i64 a0_0, .bool a0_1, (.slice (some ad296) l0_2.length c0_2)] 24 (0, 0))) ∧ Aside0 (wc.heap[gb297]? = some (.cells #[.int .i64 ((rd_T53 l0_2 x3_2).f0), .int .i64 ((rd_T53 l0_2 x3_2).f1.f0), .int .i64 ((rd_T53 l0_2 x3_2).f1.f1)] 53 (0, 0))) ∧ Aside0 (Below w.heap.size w wc))
       case first =>
        have H := HC12.out
        clear HC12
        replace H := ifI H
        rcases H with ⟨c17, H⟩ | ⟨c17, H⟩
        ·have c17b0 : decide (((rd_T53 l0_2 x3_2).f0) < 0) = true := decide_eq_true c17
         clear c17
         (first | rw [c17b0] | (simp only [i64_w, i32_w]; rw [c17b0]) | skip)
         have H' := sd H
         clear H
         have hnb18 := NB297_295.out
         have hnc18 := NB295_297.out
         obtain ⟨_, _, _, _, _, _⟩ := bk3 BK297
         go_wp2
         go_meet
         case rel => exact ⟨_, (true), zq1, H', ⟨zq28⟩, ⟨zq29⟩, ⟨zq30⟩, ⟨zq31⟩⟩
        have c17b0 : decide (((rd_T53 l0_2 x3_2).f0) < 0) = false := decide_eq_false c17
        clear c17
        (first | rw [c17b0] | (simp only [i64_w, i32_w]; rw [c17b0]) | skip)
        replace H := ifI H
        rcases H with ⟨c20, H⟩ | ⟨c20, H⟩
        ·have c20b0 : decide (365 < ((rd_T53 l0_2 x3_2).f0)) = true := decide_eq_true c20
         clear c20
         have H' := sd H
         clear H
         have hnb21 := NB297_295.out
         have hnc21 := NB295_297.out
         obtain ⟨_, _, _, _, _, _⟩ := bk3 BK297
         go_wp2
         go_meet
         case rel => exact ⟨_, (true), zq1, H', ⟨zq28⟩, ⟨zq29⟩, ⟨zq30⟩, ⟨zq31⟩⟩
        have c20b0 : decide (365 < ((rd_T53 l0_2 x3_2).f0)) = false := decide_eq_false c20
        clear c20
        replace H := bdI H
        obtain ⟨t298, A23, H⟩ := H
        (try dsimp only at H)
        have H' := sd H
        clear H
        have hnb24 := NB297_295.out
        have hnc24 := NB295_297.out
        obtain ⟨_, _, _, _, _, _⟩ := bk3 BK297
        go_wp2_with (first | (go_at_call 29; (with_reducible refine (rf24_share.calls k2 ((rd_T53 l0_2 x3_2).f1.f0) ((rd_T53 l0_2 x3_2).f1.f1) t298 _ A23.out).mono ?_); rintro e w26 ⟨rfl, hb⟩; replace BK295 := sd (blk_below (g := gb295) (o := .cells #[.int .i64 a0_0, .bool a0_1, .slice (some ad296) l0_2.length c0_2] 24 (0, 0)) zq29 hb); replace BK297 := sd (blk_below (g := gb297) (o := .cells #[.int .i64 ((rd_T53 l0_2 x3_2).f0), .int .i64 ((rd_T53 l0_2 x3_2).f1.f0), .int .i64 ((rd_T53 l0_2 x3_2).f1.f1)] 53 (0, 0)) zq30 hb); replace HB := hbm HB hb; clear hb))
        go_meet
        case rel => exact ⟨_, (!t298), zq1, H', ⟨zq28⟩, ⟨zq26⟩, ⟨by (with_reducible repeat (first | refine blk_drewN ?_ _ | refine blk_drew ?_ | refine blk_alloc ?_ _)); exact BK297.out⟩, ⟨zq31⟩⟩
       case rest =>
        clear HC12
        try clear c1
        try clear c2
        try clear p2
        try clear q2
        try clear hx2
        try clear c4
        try clear c4b0
        try clear c6
        try clear c6b0
        try clear c9
        try clear c10
        try clear c10b0
        try clear c11
        try clear c11b0
        try clear c13
        try clear c15
        try clear c17
        try clear c17b0
        try clear c18
        try clear c20
        try clear c20b0
        try clear c21
        try clear c24
        try clear hcz13_0
        try clear hcz13_1
        try clear hcz13_2
        try clear hcz16_0
        try clear hcz16_1
        try clear hcz16_2
        try clear hcz19_0
        try clear hcz19_1
        try clear hcz19_2
        try clear hcz22_0
        try clear hcz22_1
        try clear hcz22_2
        try clear hcz25_0
        try clear hcz25_1
        try clear hcz25_2
        try clear hcz5_0
        try clear hcz5_1
        try clear hcz5_2
        try clear hcz7_0
        try clear hcz7_1
        try clear hcz7_2
        try clear hcz8_0
        try clear hcz8_1
        try clear hcz8_2
        try clear hfz13_0
        try clear hfz13_1
        try clear hfz13_2
        try clear hfz16_0
        try clear hfz16_1
        try clear hfz16_2
        try clear hfz19_0
        try clear hfz19_1
        try clear hfz19_2
        try clear hfz22_0
        try clear hfz22_1
        try clear hfz22_2
        try clear hfz25_0
        try clear hfz25_1
        try clear hfz25_2
        try clear hfz5_0
        try clear hfz5_1
        try clear hfz5_2
        try clear hfz7_0
        try clear hfz7_1
        try clear hfz7_2
        try clear hfz8_0
        try clear hfz8_1
        try clear hfz8_2
        try clear hx296_0
        try clear hx296_1
        try clear hx296_2
        try clear p2
        try clear p296
        try clear q296
        obtain ⟨kq, x44_11, rfl, HA, HJ11, BK295, BK297, HB⟩ := hcut
        cases kq with
        | zero => exact absurd HA.out (by simp [rf24_Right.j2])
        | succ kj11 =>
         have H := HA.out
         clear HA
         simp only [rf24_Right.j2] at H
         by_cases c27 : x44_11 = true
         ·subst c27
          rw [if_pos rfl] at H
          obtain rfl := Option.some.inj H
          go_wp2
          go_ret
          exact ⟨zq8, zq31⟩
         replace c27 := Bool.eq_false_iff.mpr c27
         subst c27
         rw [if_neg Bool.false_ne_true] at H
         replace H := ifI H
         rcases H with ⟨c28, H⟩ | ⟨c28, H⟩
         ·have c28b0 : decide (0 < x3_2) = true := decide_eq_true c28
          clear c28
          obtain ⟨ji29, hji29⟩ : ∃ j_ : Int, (wrap64 (x3_2 - 1)) = j_ := ⟨_, rfl⟩
          replace H : (if 0 ≤ (ji29) then (if (ji29) < (l0_2.length : Int) then (if ((rd_T53 l0_2 x3_2).f0) ≤ ((rd_T53 l0_2 (ji29)).f0) then (some false) else ((rf03_Cmp.f kj11 ((rd_T53 l0_2 x3_2).f1.f0) ((rd_T53 l0_2 x3_2).f1.f1) ((rd_T53 l0_2 (ji29)).f1.f0) ((rd_T53 l0_2 (ji29)).f1.f1)).bind fun t301 => (if t301 ≥ 0 then (some false) else (rf24_Right.l0 kj11 (wrap64 (x3_2 + 1)) a0_0 a0_1 l0_2)))) else (none)) else (none)) = some r := by first | (rw [hji29] at H; exact H) | (simp only [hji29] at H ⊢; exact H)
          have hji29w : (IntKind.i64.wrap (x3_2 - 1)) = ji29 := (i64_w _).trans hji29
          replace H := ifI H
          rcases H with ⟨c30, H⟩ | ⟨c30, H⟩
          ·have c30b0 : decide (0 ≤ (ji29)) = true := decide_eq_true c30
           clear c30
           replace H := ifI H
           rcases H with ⟨c31, H⟩ | ⟨c31, H⟩
           ·have c31b0 : decide ((ji29) < (l0_2.length : Int)) = true := decide_eq_true c31
            clear c31
            replace H := ifI H
            rcases H with ⟨c32, H⟩ | ⟨c32, H⟩
            ·have c32b0 : decide (((rd_T53 l0_2 x3_2).f0) ≤ ((rd_T53 l0_2 (ji29)).f0)) = true := decide_eq_true c32
             clear c32
             obtain rfl := Option.some.inj H
             try go_wp2
             replace BK295 := sd (blk_drew BK295.out)
             replace BK297 := sd (blk_drew BK297.out)
             replace HB := sd (below_drew1 HB.out)
             have p299 : 0 ≤ ((ji29) : Int) := od
             have q299 : (ji29) < (l0_2.length : Int) := od
             obtain ⟨ad299, e299, hx299_0, hx299_1, hx299_2⟩ := at_T53 HR0_2.out (ji29) p299 q299
             have hw299_2 := hx299_2
             have hw299_1 := hx299_1
             have hw299_0 := hx299_0
             obtain rfl : ad296 = ad299 := (by injection e299)
             replace hx299_0 := (HB.out.cell (World.block_lt_of_cell? w _ hx299_0)).trans hx299_0
             replace hx299_1 := (HB.out.cell (World.block_lt_of_cell? w _ hx299_1)).trans hx299_1
             replace hx299_2 := (HB.out.cell (World.block_lt_of_cell? w _ hx299_2)).trans hx299_2
             replace p299 := eq_true p299
             replace q299 := eq_true q299
             refine start_ (n := 27) (S := fun w' => w'.cell? ⟨gb297, 0, none⟩ = some (.int .i64 ((rd_T53 l0_2 x3_2).f0)) ∧ w'.cell? ⟨gb297, 1, none⟩ = some (.int .i64 ((rd_T53 l0_2 x3_2).f1.f0)) ∧ w'.cell? ⟨gb297, 2, none⟩ = some (.int .i64 ((rd_T53 l0_2 x3_2).f1.f1)) ∧ w'.cell? ⟨gb295, 0, none⟩ = some (.int .i64 a0_0) ∧ w'.cell? ⟨gb295, 1, none⟩ = some (.bool a0_1) ∧ w'.cell? ⟨gb295, 2, none⟩ = some (.slice (some ad296) l0_2.length c0_2) ∧ w'.cell? (ad296.add (((ji29)).toNat * 3)) = some (.int .i64 ((rd_T53 l0_2 (ji29)).f0)) ∧ w'.cell? ⟨(ad296.add (((ji29)).toNat * 3)).block, (ad296.add (((ji29)).toNat * 3)).off + 1, none⟩ = some (.int .i64 ((rd_T53 l0_2 (ji29)).f1.f0)) ∧ w'.cell? ⟨(ad296.add (((ji29)).toNat * 3)).block, (ad296.add (((ji29)).toNat * 3)).off + 2, none⟩ = some (.int .i64 ((rd_T53 l0_2 (ji29)).f1.f1))) (ds := []) #[false, false, false, false, false, false, false, false, false, false, false, false, false, false, false, false, false, false, false, false, false, false, false, false, false, false, false] (by kernel_rfl) rfl rfl ⟨(blk_cell BK297.out 0).trans rfl, (blk_cell BK297.out 1).trans rfl, (blk_cell BK297.out 2).trans rfl, (blk_cell BK295.out 0).trans rfl, (blk_cell BK295.out 1).trans rfl, (blk_cell BK295.out 2).trans rfl, ((HB.out.cell (World.block_lt_of_cell? w _ hw299_0)).trans hw299_0), ((HB.out.cell (World.block_lt_of_cell? w _ hw299_1)).trans hw299_1), ((HB.out.cell (World.block_lt_of_cell? w _ hw299_2)).trans hw299_2)⟩ (fun hHeld => ?_); refine with_tabW rf24_Right.tab9 rf24_Right.bits9 (fun HT_ HW_ => ?_)
             generalize wc.drew = w33 at BK295 BK297 HB hx299_0 hx299_1 hx299_2 hHeld ⊢
             refine pA 0 45 HT_.out ?_
             refine pA 1 46 HT_.out ?_
             refine pA 2 47 HT_.out ?_
             refine pA 3 48 HT_.out ?_
             refine pA 5 50 HT_.out ?_
             refine pA 7 52 HT_.out ?_
             refine pA 8 53 HT_.out ?_
             refine tA 4 49 HT_.out HW_.out hHeld ?_
             refine tA 6 51 HT_.out HW_.out hHeld ?_
             refine pA 9 54 HT_.out ?_
             refine pA 10 55 HT_.out ?_
             refine tA 11 56 HT_.out HW_.out hHeld ?_
             refine pA 12 57 HT_.out ?_
             refine pA 13 58 HT_.out ?_
             refine oA 14 59 HT_.out ?_
             refine oA 15 60 HT_.out ?_
             refine oA 16 61 HT_.out ?_
             refine oA 17 62 HT_.out ?_
             refine oA 18 63 HT_.out ?_
             refine oA 19 64 HT_.out ?_
             refine oA 20 65 HT_.out ?_
             refine oA 21 66 HT_.out ?_
             refine oA 22 67 HT_.out ?_
             refine oA 23 68 HT_.out ?_
             refine oA 24 69 HT_.out ?_
             refine pA 25 70 HT_.out ?_
             refine pA 26 71 HT_.out ?_
             refine done_ (done_of HT_.out (by kernel_rfl)) ?_
             try go_wp2
             go_ret
             exact ⟨by first | rfl | (simp [errW_none, errW_some] <;> rfl) | (simp only [← hji29]; first | rfl | (simp [errW_none, errW_some] <;> rfl)) | (simp [*, errW_none, errW_some] <;> rfl), zq31⟩
            have c32b0 : decide (((rd_T53 l0_2 x3_2).f0) ≤ ((rd_T53 l0_2 (ji29)).f0)) = false := decide_eq_false c32
            clear c32
            replace H := bdI H
            obtain ⟨t301, A34, H⟩ := H
            (try dsimp only at H)
            replace H := ifI H
            rcases H with ⟨c35, H⟩ | ⟨c35, H⟩
            ·have c35b0 : decide (0 ≤ t301) = true := decide_eq_true c35
             clear c35
             obtain rfl := Option.some.inj H
             try go_wp2
             replace BK295 := sd (blk_drew BK295.out)
             replace BK297 := sd (blk_drew BK297.out)
             replace HB := sd (below_drew1 HB.out)
             have p299 : 0 ≤ ((ji29) : Int) := od
             have q299 : (ji29) < (l0_2.length : Int) := od
             obtain ⟨ad299, e299, hx299_0, hx299_1, hx299_2⟩ := at_T53 HR0_2.out (ji29) p299 q299
             have hw299_2 := hx299_2
             have hw299_1 := hx299_1
             have hw299_0 := hx299_0
             obtain rfl : ad296 = ad299 := (by injection e299)
             replace hx299_0 := (HB.out.cell (World.block_lt_of_cell? w _ hx299_0)).trans hx299_0
             replace hx299_1 := (HB.out.cell (World.block_lt_of_cell? w _ hx299_1)).trans hx299_1
             replace hx299_2 := (HB.out.cell (World.block_lt_of_cell? w _ hx299_2)).trans hx299_2
             replace p299 := eq_true p299
             replace q299 := eq_true q299
             have p300 : 0 ≤ ((ji29) : Int) := od
             have q300 : (ji29) < (l0_2.length : Int) := od
             obtain ⟨ad300, e300, hx300_0, hx300_1, hx300_2⟩ := at_T53 HR0_2.out (ji29) p300 q300
             have hw300_2 := hx300_2
             have hw300_1 := hx300_1
             have hw300_0 := hx300_0
             obtain rfl : ad296 = ad300 := (by injection e300)
             replace hx300_0 := (HB.out.cell (World.block_lt_of_cell? w _ hx300_0)).trans hx300_0
             replace hx300_1 := (HB.out.cell (World.block_lt_of_cell? w _ hx300_1)).trans hx300_1
             replace hx300_2 := (HB.out.cell (World.block_lt_of_cell? w _ hx300_2)).trans hx300_2
             replace p300 := eq_true p300
             replace q300 := eq_true q300
             refine start_ (n := 27) (S := fun w' => w'.cell? ⟨gb297, 0, none⟩ = some (.int .i64 ((rd_T53 l0_2 x3_2).f0)) ∧ w'.cell? ⟨gb297, 1, none⟩ = some (.int .i64 ((rd_T53 l0_2 x3_2).f1.f0)) ∧ w'.cell? ⟨gb297, 2, none⟩ = some (.int .i64 ((rd_T53 l0_2 x3_2).f1.f1)) ∧ w'.cell? ⟨gb295, 0, none⟩ = some (.int .i64 a0_0) ∧ w'.cell? ⟨gb295, 1, none⟩ = some (.bool a0_1) ∧ w'.cell? ⟨gb295, 2, none⟩ = some (.slice (some ad296) l0_2.length c0_2) ∧ w'.cell? (ad296.add (((ji29)).toNat * 3)) = some (.int .i64 ((rd_T53 l0_2 (ji29)).f0)) ∧ w'.cell? ⟨(ad296.add (((ji29)).toNat * 3)).block, (ad296.add (((ji29)).toNat * 3)).off + 1, none⟩ = some (.int .i64 ((rd_T53 l0_2 (ji29)).f1.f0)) ∧ w'.cell? ⟨(ad296.add (((ji29)).toNat * 3)).block, (ad296.add (((ji29)).toNat * 3)).off + 2, none⟩ = some (.int .i64 ((rd_T53 l0_2 (ji29)).f1.f1)) ∧ w'.cell? (ad296.add (((ji29)).toNat * 3)) = some (.int .i64 ((rd_T53 l0_2 (ji29)).f0)) ∧ w'.cell? ⟨(ad296.add (((ji29)).toNat * 3)).block, (ad296.add (((ji29)).toNat * 3)).off + 1, none⟩ = some (.int .i64 ((rd_T53 l0_2 (ji29)).f1.f0)) ∧ w'.cell? ⟨(ad296.add (((ji29)).toNat * 3)).block, (ad296.add (((ji29)).toNat * 3)).off + 2, none⟩ = some (.int .i64 ((rd_T53 l0_2 (ji29)).f1.f1))) (ds := []) #[false, false, false, false, false, false, false, false, false, false, false, false, false, false, false, false, false, false, false, false, false, false, false, false, false, false, false] (by kernel_rfl) rfl rfl ⟨(blk_cell BK297.out 0).trans rfl, (blk_cell BK297.out 1).trans rfl, (blk_cell BK297.out 2).trans rfl, (blk_cell BK295.out 0).trans rfl, (blk_cell BK295.out 1).trans rfl, (blk_cell BK295.out 2).trans rfl, ((HB.out.cell (World.block_lt_of_cell? w _ hw299_0)).trans hw299_0), ((HB.out.cell (World.block_lt_of_cell? w _ hw299_1)).trans hw299_1), ((HB.out.cell (World.block_lt_of_cell? w _ hw299_2)).trans hw299_2), ((HB.out.cell (World.block_lt_of_cell? w _ hw300_0)).trans hw300_0), ((HB.out.cell (World.block_lt_of_cell? w _ hw300_1)).trans hw300_1), ((HB.out.cell (World.block_lt_of_cell? w _ hw300_2)).trans hw300_2)⟩ (fun hHeld => ?_); refine with_tabW rf24_Right.tab9 rf24_Right.bits9 (fun HT_ HW_ => ?_)
             generalize wc.drew = w36 at BK295 BK297 HB hx299_0 hx299_1 hx299_2 hx300_0 hx300_1 hx300_2 hHeld ⊢
             refine pA 0 45 HT_.out ?_
             refine pA 1 46 HT_.out ?_
             refine pA 2 47 HT_.out ?_
             refine pA 3 48 HT_.out ?_
             refine pA 5 50 HT_.out ?_
             refine pA 7 52 HT_.out ?_
             refine pA 8 53 HT_.out ?_
             refine tA 4 49 HT_.out HW_.out hHeld ?_
             refine tA 6 51 HT_.out HW_.out hHeld ?_
             refine pA 9 54 HT_.out ?_
             refine pA 10 55 HT_.out ?_
             refine tA 11 56 HT_.out HW_.out hHeld ?_
             refine pA 12 57 HT_.out ?_
             refine pA 13 58 HT_.out ?_
             refine pA 14 59 HT_.out ?_
             refine pA 16 61 HT_.out ?_
             refine pA 18 63 HT_.out ?_
             refine pA 19 64 HT_.out ?_
             refine tA 15 60 HT_.out HW_.out hHeld ?_
             refine tA 17 62 HT_.out HW_.out hHeld ?_
             refine pA 20 65 HT_.out ?_
             refine pA 21 66 HT_.out ?_
             refine tA 22 67 HT_.out HW_.out hHeld ?_
             refine one_ (i := 23) (N := some 68) #[true, true, true, true, true, true, true, true, true, true, true, true, true, true, true, true, true, true, true, true, true, true, true, true, false, false, false] rfl rfl (one_of HT_.out (by kernel_rfl)) (by decide) (fun K hK => ?_)
             refine goes_ Tryd.func30 (by kernel_rfl) rfl #[.agg #[.int .i64 ((rd_T53 l0_2 x3_2).f1.f0), .int .i64 ((rd_T53 l0_2 x3_2).f1.f1)], .agg #[.int .i64 ((rd_T53 l0_2 (ji29)).f1.f0), .int .i64 ((rd_T53 l0_2 (ji29)).f1.f1)]] (by rfl) rfl rfl (by (try simp only [List.map_toArray, List.map_cons, List.map_nil]); first | done | (simp only [hji29]; rfl) | rfl | (simp only [List.length_drop, List.length_take]; rfl)) ?_
             with_reducible refine (rf03_Cmp.calls kj11 ((rd_T53 l0_2 x3_2).f1.f0) ((rd_T53 l0_2 x3_2).f1.f1) ((rd_T53 l0_2 (ji29)).f1.f0) ((rd_T53 l0_2 (ji29)).f1.f1) t301 _ A34.out).mono ?_
             rintro e w37 ⟨rfl, hb⟩
             refine ⟨_, rfl, ?_⟩
             replace BK295 := bkm BK295 hb
             replace BK297 := bkm BK297 hb
             replace HB := hbm HB hb
             clear hb
             refine hK.out _ _ ⟨(blk_cell BK297.out 0).trans rfl, (blk_cell BK297.out 1).trans rfl, (blk_cell BK297.out 2).trans rfl, (blk_cell BK295.out 0).trans rfl, (blk_cell BK295.out 1).trans rfl, (blk_cell BK295.out 2).trans rfl, ((HB.out.cell (World.block_lt_of_cell? w _ hw299_0)).trans hw299_0), ((HB.out.cell (World.block_lt_of_cell? w _ hw299_1)).trans hw299_1), ((HB.out.cell (World.block_lt_of_cell? w _ hw299_2)).trans hw299_2), ((HB.out.cell (World.block_lt_of_cell? w _ hw300_0)).trans hw300_0), ((HB.out.cell (World.block_lt_of_cell? w _ hw300_1)).trans hw300_1), ((HB.out.cell (World.block_lt_of_cell? w _ hw300_2)).trans hw300_2)⟩ (fun hHeld => ?_)
             clear hK K
             refine nA 68 ?_
             refine pA 24 69 HT_.out ?_
             refine pA 25 70 HT_.out ?_
             refine pA 26 71 HT_.out ?_
             refine done_ (done_of HT_.out (by kernel_rfl)) ?_
             try go_wp2
             go_ret
             exact ⟨by first | rfl | (simp [errW_none, errW_some] <;> rfl) | (simp only [← hji29]; first | rfl | (simp [errW_none, errW_some] <;> rfl)) | (simp [*, errW_none, errW_some] <;> rfl), zq31⟩
            have c35b0 : decide (0 ≤ t301) = false := decide_eq_false c35
            clear c35
            have H' := sd H
            clear H
            try go_wp2
            replace BK295 := sd (blk_drew BK295.out)
            replace BK297 := sd (blk_drew BK297.out)
            replace HB := sd (below_drew1 HB.out)
            have p299 : 0 ≤ ((ji29) : Int) := od
            have q299 : (ji29) < (l0_2.length : Int) := od
            obtain ⟨ad299, e299, hx299_0, hx299_1, hx299_2⟩ := at_T53 HR0_2.out (ji29) p299 q299
            have hw299_2 := hx299_2
            have hw299_1 := hx299_1
            have hw299_0 := hx299_0
            obtain rfl : ad296 = ad299 := (by injection e299)
            replace hx299_0 := (HB.out.cell (World.block_lt_of_cell? w _ hx299_0)).trans hx299_0
            replace hx299_1 := (HB.out.cell (World.block_lt_of_cell? w _ hx299_1)).trans hx299_1
            replace hx299_2 := (HB.out.cell (World.block_lt_of_cell? w _ hx299_2)).trans hx299_2
            replace p299 := eq_true p299
            replace q299 := eq_true q299
            have p300 : 0 ≤ ((ji29) : Int) := od
            have q300 : (ji29) < (l0_2.length : Int) := od
            obtain ⟨ad300, e300, hx300_0, hx300_1, hx300_2⟩ := at_T53 HR0_2.out (ji29) p300 q300
            have hw300_2 := hx300_2
            have hw300_1 := hx300_1
            have hw300_0 := hx300_0
            obtain rfl : ad296 = ad300 := (by injection e300)
            replace hx300_0 := (HB.out.cell (World.block_lt_of_cell? w _ hx300_0)).trans hx300_0
            replace hx300_1 := (HB.out.cell (World.block_lt_of_cell? w _ hx300_1)).trans hx300_1
            replace hx300_2 := (HB.out.cell (World.block_lt_of_cell? w _ hx300_2)).trans hx300_2
            replace p300 := eq_true p300
            replace q300 := eq_true q300
            refine start_ (n := 27) (S := fun w' => w'.cell? ⟨gb297, 0, none⟩ = some (.int .i64 ((rd_T53 l0_2 x3_2).f0)) ∧ w'.cell? ⟨gb297, 1, none⟩ = some (.int .i64 ((rd_T53 l0_2 x3_2).f1.f0)) ∧ w'.cell? ⟨gb297, 2, none⟩ = some (.int .i64 ((rd_T53 l0_2 x3_2).f1.f1)) ∧ w'.cell? ⟨gb295, 0, none⟩ = some (.int .i64 a0_0) ∧ w'.cell? ⟨gb295, 1, none⟩ = some (.bool a0_1) ∧ w'.cell? ⟨gb295, 2, none⟩ = some (.slice (some ad296) l0_2.length c0_2) ∧ w'.cell? (ad296.add (((ji29)).toNat * 3)) = some (.int .i64 ((rd_T53 l0_2 (ji29)).f0)) ∧ w'.cell? ⟨(ad296.add (((ji29)).toNat * 3)).block, (ad296.add (((ji29)).toNat * 3)).off + 1, none⟩ = some (.int .i64 ((rd_T53 l0_2 (ji29)).f1.f0)) ∧ w'.cell? ⟨(ad296.add (((ji29)).toNat * 3)).block, (ad296.add (((ji29)).toNat * 3)).off + 2, none⟩ = some (.int .i64 ((rd_T53 l0_2 (ji29)).f1.f1)) ∧ w'.cell? (ad296.add (((ji29)).toNat * 3)) = some (.int .i64 ((rd_T53 l0_2 (ji29)).f0)) ∧ w'.cell? ⟨(ad296.add (((ji29)).toNat * 3)).block, (ad296.add (((ji29)).toNat * 3)).off + 1, none⟩ = some (.int .i64 ((rd_T53 l0_2 (ji29)).f1.f0)) ∧ w'.cell? ⟨(ad296.add (((ji29)).toNat * 3)).block, (ad296.add (((ji29)).toNat * 3)).off + 2, none⟩ = some (.int .i64 ((rd_T53 l0_2 (ji29)).f1.f1))) (ds := []) #[false, false, false, false, false, false, false, false, false, false, false, false, false, false, false, false, false, false, false, false, false, false, false, false, false, false, false] (by kernel_rfl) rfl rfl ⟨(blk_cell BK297.out 0).trans rfl, (blk_cell BK297.out 1).trans rfl, (blk_cell BK297.out 2).trans rfl, (blk_cell BK295.out 0).trans rfl, (blk_cell BK295.out 1).trans rfl, (blk_cell BK295.out 2).trans rfl, ((HB.out.cell (World.block_lt_of_cell? w _ hw299_0)).trans hw299_0), ((HB.out.cell (World.block_lt_of_cell? w _ hw299_1)).trans hw299_1), ((HB.out.cell (World.block_lt_of_cell? w _ hw299_2)).trans hw299_2), ((HB.out.cell (World.block_lt_of_cell? w _ hw300_0)).trans hw300_0), ((HB.out.cell (World.block_lt_of_cell? w _ hw300_1)).trans hw300_1), ((HB.out.cell (World.block_lt_of_cell? w _ hw300_2)).trans hw300_2)⟩ (fun hHeld => ?_); refine with_tabW rf24_Right.tab9 rf24_Right.bits9 (fun HT_ HW_ => ?_)
            generalize wc.drew = w38 at BK295 BK297 HB hx299_0 hx299_1 hx299_2 hx300_0 hx300_1 hx300_2 hHeld ⊢
            refine pA 0 45 HT_.out ?_
            refine pA 1 46 HT_.out ?_
            refine pA 2 47 HT_.out ?_
            refine pA 3 48 HT_.out ?_
            refine pA 5 50 HT_.out ?_
            refine pA 7 52 HT_.out ?_
            refine pA 8 53 HT_.out ?_
            refine tA 4 49 HT_.out HW_.out hHeld ?_
            refine tA 6 51 HT_.out HW_.out hHeld ?_
            refine pA 9 54 HT_.out ?_
            refine pA 10 55 HT_.out ?_
            refine tA 11 56 HT_.out HW_.out hHeld ?_
            refine pA 12 57 HT_.out ?_
            refine pA 13 58 HT_.out ?_
            refine pA 14 59 HT_.out ?_
            refine pA 16 61 HT_.out ?_
            refine pA 18 63 HT_.out ?_
            refine pA 19 64 HT_.out ?_
            refine tA 15 60 HT_.out HW_.out hHeld ?_
            refine tA 17 62 HT_.out HW_.out hHeld ?_
            refine pA 20 65 HT_.out ?_
            refine pA 21 66 HT_.out ?_
            refine tA 22 67 HT_.out HW_.out hHeld ?_
            refine one_ (i := 23) (N := some 68) #[true, true, true, true, true, true, true, true, true, true, true, true, true, true, true, true, true, true, true, true, true, true, true, true, false, false, false] rfl rfl (one_of HT_.out (by kernel_rfl)) (by decide) (fun K hK => ?_)
            refine goes_ Tryd.func30 (by kernel_rfl) rfl #[.agg #[.int .i64 ((rd_T53 l0_2 x3_2).f1.f0), .int .i64 ((rd_T53 l0_2 x3_2).f1.f1)], .agg #[.int .i64 ((rd_T53 l0_2 (ji29)).f1.f0), .int .i64 ((rd_T53 l0_2 (ji29)).f1.f1)]] (by rfl) rfl rfl (by (try simp only [List.map_toArray, List.map_cons, List.map_nil]); first | done | (simp only [hji29]; rfl) | rfl | (simp only [List.length_drop, List.length_take]; rfl)) ?_
            with_reducible refine (rf03_Cmp.calls kj11 ((rd_T53 l0_2 x3_2).f1.f0) ((rd_T53 l0_2 x3_2).f1.f1) ((rd_T53 l0_2 (ji29)).f1.f0) ((rd_T53 l0_2 (ji29)).f1.f1) t301 _ A34.out).mono ?_
            rintro e w39 ⟨rfl, hb⟩
            refine ⟨_, rfl, ?_⟩
            replace BK295 := bkm BK295 hb
            replace BK297 := bkm BK297 hb
            replace HB := hbm HB hb
            clear hb
            refine hK.out _ _ ⟨(blk_cell BK297.out 0).trans rfl, (blk_cell BK297.out 1).trans rfl, (blk_cell BK297.out 2).trans rfl, (blk_cell BK295.out 0).trans rfl, (blk_cell BK295.out 1).trans rfl, (blk_cell BK295.out 2).trans rfl, ((HB.out.cell (World.block_lt_of_cell? w _ hw299_0)).trans hw299_0), ((HB.out.cell (World.block_lt_of_cell? w _ hw299_1)).trans hw299_1), ((HB.out.cell (World.block_lt_of_cell? w _ hw299_2)).trans hw299_2), ((HB.out.cell (World.block_lt_of_cell? w _ hw300_0)).trans hw300_0), ((HB.out.cell (World.block_lt_of_cell? w _ hw300_1)).trans hw300_1), ((HB.out.cell (World.block_lt_of_cell? w _ hw300_2)).trans hw300_2)⟩ (fun hHeld => ?_)
            clear hK K
            refine nA 68 ?_
            refine pA 24 69 HT_.out ?_
            refine pA 25 70 HT_.out ?_
            refine pA 26 71 HT_.out ?_
            refine done_ (done_of HT_.out (by kernel_rfl)) ?_
            try go_wp2
            go_roundg kj11
            case measure => have := HJ1.out; have := HK2.out; have := HJ11.out; omega
            case rel => exact ⟨(wrap64 (x3_2 + 1)), zq1, H', ⟨by have := HJ1.out; have := HK2.out; have := HJ11.out; omega⟩, ⟨zq26⟩, ⟨zq31⟩⟩
           exact absurd H (by simp)
          exact absurd H (by simp)
         have c28b0 : decide (0 < x3_2) = false := decide_eq_false c28
         clear c28
         have H' := sd H
         clear H
         try go_wp2
         replace BK295 := sd (blk_drew BK295.out)
         replace BK297 := sd (blk_drew BK297.out)
         replace HB := sd (below_drew1 HB.out)
         refine start_ (n := 27) (S := fun w' => True) (ds := []) #[false, false, false, false, false, false, false, false, false, false, false, false, false, false, false, false, false, false, false, false, false, false, false, false, false, false, false] (by kernel_rfl) rfl rfl trivial (fun hHeld => ?_); refine with_tabW rf24_Right.tab9 rf24_Right.bits9 (fun HT_ HW_ => ?_)
         generalize wc.drew = w40 at BK295 BK297 HB hHeld ⊢
         refine pA 0 45 HT_.out ?_
         refine pA 1 46 HT_.out ?_
         refine pA 2 47 HT_.out ?_
         refine oA 3 48 HT_.out ?_
         refine oA 4 49 HT_.out ?_
         refine oA 5 50 HT_.out ?_
         refine oA 6 51 HT_.out ?_
         refine oA 7 52 HT_.out ?_
         refine oA 8 53 HT_.out ?_
         refine oA 9 54 HT_.out ?_
         refine oA 10 55 HT_.out ?_
         refine oA 11 56 HT_.out ?_
         refine oA 12 57 HT_.out ?_
         refine oA 13 58 HT_.out ?_
         refine oA 14 59 HT_.out ?_
         refine oA 15 60 HT_.out ?_
         refine oA 16 61 HT_.out ?_
         refine oA 17 62 HT_.out ?_
         refine oA 18 63 HT_.out ?_
         refine oA 19 64 HT_.out ?_
         refine oA 20 65 HT_.out ?_
         refine oA 21 66 HT_.out ?_
         refine oA 22 67 HT_.out ?_
         refine oA 23 68 HT_.out ?_
         refine oA 24 69 HT_.out ?_
         refine oA 25 70 HT_.out ?_
         refine pA 26 71 HT_.out ?_
         refine done_ (done_of HT_.out (by kernel_rfl)) ?_
         try go_wp2
         go_roundg kj11
         case measure => have := HJ1.out; have := HK2.out; have := HJ11.out; omega
         case rel => exact ⟨(wrap64 (x3_2 + 1)), zq1, H', ⟨by have := HJ1.out; have := HK2.out; have := HJ11.out; omega⟩, ⟨zq26⟩, ⟨zq31⟩⟩
      exact absurd H (by simp)
     have c10b0 : decide (x3_2 < (l0_2.length : Int)) = false := decide_eq_false c10
     clear c10
     obtain rfl := Option.some.inj H
     obtain ⟨_, _, _, _, _, _⟩ := bk3 BK295
     go_wp2
     go_ret
     exact ⟨zq8, zq27⟩
end Go.Proofs.YtelfiofnhchmbaaDoor.A
namespace Go.Proofs.YtelfiofnhchmbaaDoor.A
open Go.RowKit Go.Proofs.YtelfiofnhchmbaaDoor.B Go.Proofs.YtelfiofnhchmbaaDoorW.PrintWords Go.Proofs.YtelfiofnhchmbaaDoorW.PrintLast Go.Proofs.YtelfiofnhchmbaaDoorW.PrintMore
theorem wrap64_in {x : Int} (h : I64 x) : wrap64 x = x := by unfold I64 at h; unfold wrap64; omega
end Go.Proofs.YtelfiofnhchmbaaDoor.A
namespace Go.Proofs.YtelfiofnhchmbaaDoor.A
open Go.RowKit Go.Proofs.YtelfiofnhchmbaaDoor.B Go.Proofs.YtelfiofnhchmbaaDoorW.PrintWords Go.Proofs.YtelfiofnhchmbaaDoorW.PrintLast Go.Proofs.YtelfiofnhchmbaaDoorW.PrintMore
set_option linter.unusedVariables false
set_option linter.unusedSimpArgs false
theorem ref03_size_eq (a : Int) (ha : I64 a) : rf03_size.f a = some (a.natAbs : Int) := by
  unfold rf03_size.f; exact size_wrap a ha
theorem ref03_divisor_ev (x y : Nat) : Ev (fun k => rf03_divisor.f k (x : Int) (y : Int)) ((Nat.gcd x y : Nat) : Int) := by
  unfold rf03_divisor.f
  exact gcd_of rf03_divisor.l0 (fun k x y => by rw [rf03_divisor.l0]) y x y (Nat.le_refl _)
theorem ref03_Right_ev (n d : Int) (hn : I64 n) (hd : I64 d) : Ev (fun k => rf03_Right.f k n d) (rightS n d) := by
  unfold rf03_Right.f
  have no : ¬ (1 ≤ d ∧ d ≤ 1000000 ∧ n.natAbs ≤ 1000000 ∧ Nat.gcd n.natAbs d.natAbs = 1) → false = rightS n d := fun h => by
    rw [Eq.comm, ← Bool.not_eq_true, rightS_iff]; exact h
  refine Ev.both (fun h1 => Ev.both (fun h2 => Ev.both (fun h3 => Ev.both (fun h4 => ?_) (fun h => Ev.is (no (by omega)))) (fun h => Ev.is (no (by omega)))) (fun h => Ev.is (no (by omega)))) (fun h => Ev.is (no (by omega)))
  rw [ref03_size_eq n hn, ref03_size_eq d hd]
  simp only [Option.bind_some]
  refine Ev.bind (ref03_divisor_ev _ _) (Ev.is ?_)
  rw [Bool.eq_iff_iff, beq_iff_eq, rightS_iff]
  constructor
  · intro h; exact ⟨by omega, by omega, by omega, by omega⟩
  · intro h; have := h.2.2.2; omega
theorem mul_bound {x y : Int} (hx : -1000000 ≤ x ∧ x ≤ 1000000) (hy : -1000000 ≤ y ∧ y ≤ 1000000) : -1000000000000 ≤ x * y ∧ x * y ≤ 1000000000000 := by
  have h : (x * y).natAbs ≤ 1000000 * 1000000 := by
    rw [Int.natAbs_mul]; exact Nat.mul_le_mul (by omega) (by omega)
  omega
theorem wrap_mul {x y : Int} (hx : -1000000 ≤ x ∧ x ≤ 1000000) (hy : -1000000 ≤ y ∧ y ≤ 1000000) : wrap64 (x * y) = x * y := by
  have := mul_bound hx hy
  exact wrap64_in (by unfold I64; omega)
theorem ref03_Cmp_ev (a b c d : Int) (ha : I64 a) (hb : I64 b) (hc : I64 c) (hd : I64 d) : Ev (fun k => rf03_Cmp.f k a b c d) (if rightS a b = true ∧ rightS c d = true then cmpS a d c b else 0) := by
  unfold rf03_Cmp.f
  have e : ∀ x y : Int, Ev (fun k => rf03_Cmp.j0 k x y true) 0 := fun x y => Ev.step (fun k => by rw [rf03_Cmp.j0]) (Ev.yes rfl (Ev.is rfl))
  refine Ev.bind (ref03_Right_ev a b ha hb) (Ev.both (fun h1 => ?_) (fun h1 => by rw [if_neg (fun h => h1 h.1)]; exact e _ _))
  refine Ev.bind (ref03_Right_ev c d hc hd) (Ev.both (fun h2 => ?_) (fun h2 => by rw [if_neg (fun h => h2 h.2)]; exact e _ _))
  have b1 := right_bounds h1
  have b2 := right_bounds h2
  rw [if_pos ⟨h1, h2⟩, wrap_mul (x := a) (y := d) (by omega) (by omega), wrap_mul (x := c) (y := b) (by omega) (by omega)]
  refine Ev.step (fun k => by rw [rf03_Cmp.j0]) ?_
  unfold cmpS
  refine Ev.both (fun h => Ev.is ?_) (fun h => Ev.both (fun h3 => Ev.is (by rw [if_pos h3])) (fun h3 => Ev.is ?_))
  · rw [beq_iff_eq] at h; rw [if_neg (by omega), if_neg (by omega)]
  · rw [beq_iff_eq] at h; rw [if_neg h3, if_pos (by omega)]
theorem share_ev (a b : Int) (ha : I64 a) (hb : I64 b) : Ev (fun k => rf24_share.f k a b) (shareS a b) := by
  unfold rf24_share.f shareS
  refine Ev.bind (ref03_Right_ev a b ha hb) (Ev.both (fun h => ?_) (fun h => Ev.is ?_))
  · rw [h, Bool.true_and]
    refine Ev.both (fun h1 => Ev.is ?_) (fun h1 => Ev.is ?_)
    · rw [decide_eq_true (show 0 < a by omega), Bool.true_and]
    · rw [decide_eq_false (show ¬ 0 < a by omega), Bool.false_and]
  · rw [Bool.eq_false_iff.mpr h, Bool.false_and]
theorem cmp_neg (a d c b : Int) : (cmpS a d c b ≥ 0) = ¬ (a * d < c * b) := by
  unfold cmpS
  apply propext
  split
  · constructor <;> intro h <;> omega
  · split
    · constructor <;> intro h <;> omega
    · constructor <;> intro h <;> omega
theorem rright_j2 (l : List S53) (hl : Cuts l) (hlen : l.length ≤ 1000) (n : Int) (b : Bool) (i d : Nat) (hid : i + (d + 1) = l.length) (x44 : Bool)
    (ih : Ev (fun k => rf24_Right.l0 k ((i + 1 : Nat) : Int) n b l) (okFrom l (i + 1) d)) :
    Ev (fun k => rf24_Right.j2 k (i : Int) x44 n b l (cutAt l i).f0 (cutAt l i).f1.f0 (cutAt l i).f1.f1) (!x44 && ((decide (i = 0) || nextS (cutAt l (i - 1)) (cutAt l i)) && okFrom l (i + 1) d)) := by
  refine Ev.step (fun k => by rw [rf24_Right.j2]) (Ev.both (fun h => Ev.is ?_) (fun h => ?_))
  · rw [h]; rfl
  rw [Bool.eq_false_iff.mpr h]
  by_cases h0 : i = 0
  · refine Ev.no (by omega) ?_
    rw [w_succ i (by omega), decide_eq_true h0]
    exact ih
  · rw [decide_eq_false h0]
    refine Ev.yes (by omega) ?_
    rw [w_prev i (by omega) (by omega), w_succ i (by omega)]
    refine Ev.yes (by omega) (Ev.yes (by omega) ?_)
    rw [rd_cut]
    unfold nextS
    refine Ev.both (fun h1 => Ev.is ?_) (fun h1 => ?_)
    · rw [decide_eq_false (show ¬ (cutAt l (i - 1)).f0 < (cutAt l i).f0 by omega)]; rfl
    rw [decide_eq_true (show (cutAt l (i - 1)).f0 < (cutAt l i).f0 by omega)]
    refine Ev.bind (ref03_Cmp_ev _ _ _ _ (hl.at i).2.1 (hl.at i).2.2 (hl.at (i - 1)).2.1 (hl.at (i - 1)).2.2) ?_
    by_cases hr : rightS (cutAt l (i - 1)).f1.f0 (cutAt l (i - 1)).f1.f1 = true ∧ rightS (cutAt l i).f1.f0 (cutAt l i).f1.f1 = true
    · rw [if_pos hr.symm, decide_eq_true hr]
      refine Ev.both (fun h2 => Ev.is ?_) (fun h2 => ?_)
      · rw [cmp_neg] at h2
        rw [decide_eq_false h2]; rfl
      · rw [cmp_neg] at h2
        rw [decide_eq_true (Classical.not_not.mp h2)]
        exact ih
    · rw [if_neg (fun h => hr h.symm), decide_eq_false hr]
      exact Ev.yes (by omega) (Ev.is rfl)
theorem rright_l0 (l : List S53) (hl : Cuts l) (hlen : l.length ≤ 1000) (n : Int) (b : Bool) (d : Nat) : ∀ i : Nat, i + d = l.length → Ev (fun k => rf24_Right.l0 k (i : Int) n b l) (okFrom l i d) := by
  induction d with
  | zero =>
    intro i hi
    refine Ev.step (fun k => by rw [rf24_Right.l0]) ?_
    exact Ev.no (by omega) (Ev.is rfl)
  | succ d ih =>
    intro i hi
    refine Ev.step (fun k => by rw [rf24_Right.l0]) (Ev.yes (by omega) (Ev.yes (by omega) ?_))
    rw [rd_cut]
    have ih1 := ih (i + 1) (by omega)
    show Ev _ (okAt l i && okFrom l (i + 1) d)
    unfold okAt inY
    refine Ev.both (fun h => ?_) (fun h => Ev.both (fun h1 => ?_) (fun h1 => ?_))
    · rw [decide_eq_false (show ¬ 0 ≤ (cutAt l i).f0 by omega)]
      exact rright_j2 l hl hlen n b i d hi true ih1
    · rw [decide_eq_false (show ¬ (cutAt l i).f0 ≤ 365 by omega), Bool.and_false]
      exact rright_j2 l hl hlen n b i d hi true ih1
    · rw [decide_eq_true (show 0 ≤ (cutAt l i).f0 by omega), decide_eq_true (show (cutAt l i).f0 ≤ 365 by omega), Bool.true_and, Bool.true_and]
      refine Ev.bind (share_ev _ _ (hl.at i).2.1 (hl.at i).2.2) ?_
      have := rright_j2 l hl hlen n b i d hi (!shareS (cutAt l i).f1.f0 (cutAt l i).f1.f1) ih1
      rw [Bool.not_not, ← Bool.and_assoc] at this
      exact this
theorem ref24_Right_ev (n : Int) (b : Bool) (l : List S53) (hl : Cuts l) (hlen : l.length ≤ 1000) : Ev (fun k => rf24_Right.f k n b l) (termsOk n l) := by
  unfold rf24_Right.f termsOk inY
  have key : ∀ x : Bool, Ev (fun k => rf24_Right.j0 k x n b l) (!x && okFrom l 0 l.length) := fun x => by
    refine Ev.step (fun k => by rw [rf24_Right.j0]) (Ev.both (fun h => Ev.is ?_) (fun h => ?_))
    · rw [h]; rfl
    · rw [Bool.eq_false_iff.mpr h]
      exact rright_l0 l hl hlen n b l.length 0 (by omega)
  refine Ev.both (fun h => ?_) (fun h => Ev.both (fun h1 => ?_) (fun h1 => ?_))
  · rw [decide_eq_false (show ¬ 0 ≤ n by omega)]
    exact key true
  · rw [decide_eq_false (show ¬ n ≤ 365 by omega), Bool.and_false]
    exact key true
  · rw [decide_eq_true (show 0 ≤ n by omega), decide_eq_true (show n ≤ 365 by omega), Bool.true_and, Bool.true_and]
    have := key (decide ((l.length : Int) > 5))
    rw [show (!decide ((l.length : Int) > 5)) = decide (l.length ≤ 5) by
      by_cases h5 : l.length ≤ 5
      · rw [decide_eq_true h5, decide_eq_false (show ¬ (l.length : Int) > 5 by omega)]; rfl
      · rw [decide_eq_false h5, decide_eq_true (show (l.length : Int) > 5 by omega)]; rfl] at this
    exact this
theorem Ev.same {α : Type} {g : Nat → Option α} {a b : α} (h : Ev g a) (k : Ev g b) : a = b := by
  obtain ⟨m, hm⟩ := h
  obtain ⟨n, hn⟩ := k
  exact Option.some.inj ((hm (m + n) (by omega)).symm.trans (hn (m + n) (by omega)))
end Go.Proofs.YtelfiofnhchmbaaDoor.A
