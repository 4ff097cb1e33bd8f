-- By pack.py, a program of this session's: declarations of this seat's texts, put together for a claim.
import Derived.Test.YtelfiofnhchmbaaDoorZ7
import Derived.Test.YtelfiofnhchmbaaDoorZ9
namespace Go.Proofs.YtelfiofnhchmbaaDoor.A
open Go.RowKit Go.Proofs.YtelfiofnhchmbaaDoor.B Go.Proofs.YtelfiofnhchmbaaDoorW.PrintWords Go.Proofs.YtelfiofnhchmbaaDoorW.PrintLast Go.Proofs.YtelfiofnhchmbaaDoorW.PrintMore
theorem zq33 {P : Prop} (h : P := by repeat (first | (with_reducible first | exact HB.out | apply below_alloc | apply pw_below_drewN | apply below_drew1 | refine below_set ?_ GE307.out) | exact HB.out)) : P := h
theorem zq69 {P : Prop} (h : P := by repeat (first | (with_reducible first | exact HB.out | apply below_alloc | apply pw_below_drewN | apply below_drew1 | refine below_set ?_ GE302.out) | exact HB.out)) : P := h
end Go.Proofs.YtelfiofnhchmbaaDoor.A
namespace Go.Proofs.YtelfiofnhchmbaaDoor.A
open Go.RowKit Go.Proofs.YtelfiofnhchmbaaDoor.B Go.Proofs.YtelfiofnhchmbaaDoorW.PrintWords Go.Proofs.YtelfiofnhchmbaaDoorW.PrintLast Go.Proofs.YtelfiofnhchmbaaDoorW.PrintMore
attribute [local go_sem] max2_int min2_int max_two min_two max_three min_three max_four min_four
set_option linter.unusedVariables false
set_option linter.unusedSimpArgs false
set_option maxHeartbeats 8000000
set_option maxRecDepth 100000
mutual
def rf01_Text.l0 : Nat → Int → ByteArray → Int → Option (ByteArray)
 | 0, _, _, _ => none
 | k + 1, x0, x3, x4 => if x4 = 0 then (rf01_Text.j1 k x0 x3 x4 (x3.toList == ([] : List UInt8))) else (rf01_Text.j1 k x0 x3 x4 true)
def rf01_Text.j1 : Nat → Int → ByteArray → Int → Bool → Option (ByteArray)
 | 0, _, _, _, _ => none
 | k + 1, x0, x3, x4, x12 => if x12 = true then (if (Int.tmod x4 10) < 0 then (if 0 ≤ (wrap64 (-(Int.tmod x4 10))) then (if (wrap64 (-(Int.tmod x4 10))) ≤ (wrap64 ((wrap64 (-(Int.tmod x4 10))) + 1)) then (if (wrap64 ((wrap64 (-(Int.tmod x4 10))) + 1)) ≤ 10 then (if ((⟨#[48, 49, 50, 51, 52, 53, 54, 55, 56, 57]⟩ : ByteArray).extract ((wrap64 (-(Int.tmod x4 10))) : Int).toNat ((wrap64 ((wrap64 (-(Int.tmod x4 10))) + 1)) : Int).toNat).size + x3.size ≤ 9223372036854775807 then (rf01_Text.l0 k x0 (((⟨#[48, 49, 50, 51, 52, 53, 54, 55, 56, 57]⟩ : ByteArray).extract ((wrap64 (-(Int.tmod x4 10))) : Int).toNat ((wrap64 ((wrap64 (-(Int.tmod x4 10))) + 1)) : Int).toNat) ++ x3) (wrap64 (Int.tdiv x4 10))) else (none)) else (none)) else (none)) else (none)) else (if 0 ≤ (Int.tmod x4 10) then (if (Int.tmod x4 10) ≤ (wrap64 ((Int.tmod x4 10) + 1)) then (if (wrap64 ((Int.tmod x4 10) + 1)) ≤ 10 then (if ((⟨#[48, 49, 50, 51, 52, 53, 54, 55, 56, 57]⟩ : ByteArray).extract ((Int.tmod x4 10) : Int).toNat ((wrap64 ((Int.tmod x4 10) + 1)) : Int).toNat).size + x3.size ≤ 9223372036854775807 then (rf01_Text.l0 k x0 (((⟨#[48, 49, 50, 51, 52, 53, 54, 55, 56, 57]⟩ : ByteArray).extract ((Int.tmod x4 10) : Int).toNat ((wrap64 ((Int.tmod x4 10) + 1)) : Int).toNat) ++ x3) (wrap64 (Int.tdiv x4 10))) else (none)) else (none)) else (none)) else (none))) else (if x0 < 0 then (if 1 + x3.size ≤ 9223372036854775807 then (some ((⟨#[45]⟩ : ByteArray) ++ x3)) else (none)) else (some x3))
end
def rf01_Text.f (k : Nat) (a0 : Int) : Option (ByteArray) := rf01_Text.l0 k a0 (⟨#[]⟩ : ByteArray) a0
theorem rf01_Text.calls (k : Nat) (a0 : Int) (r : ByteArray) (w : World) (h : rf01_Text.f k a0 = some r) :
  Calls Tryd.prog 25 #[.int .i64 a0] w fun e w' => e = .returned (.string r) ∧ Drawn0 w w' := by
 have H := h
 clear h
 unfold rf01_Text.f at H
 have H' := sd H
 clear H
 go_enter Tryd.func25, Tryd.ntmps25
 go_wp2
 go_loopg [3, 4] k (fun kq v3 v4 w' => ∃ (x3_1 : ByteArray) (x4_1 : Int), v3 = .string x3_1 ∧ v4 = .int .i64 x4_1 ∧ Aside0 (rf01_Text.l0 kq a0 x3_1 x4_1 = some r) ∧ Aside0 (kq ≤ k) ∧ Drawn0 w w')
 case atStart => exact ⟨((⟨#[]⟩ : ByteArray)), (a0), zq1, zq1, H', ⟨Nat.le_refl _⟩, zq23⟩
 case round =>
  clear H'
  obtain ⟨x3_1, x4_1, rfl, rfl, HA, HK1, ⟨m1, rfl⟩⟩ := hrel
  cases gk with
  | zero => exact absurd HA.out (by simp [rf01_Text.l0])
  | succ k1 =>
   have H := HA.out
   clear HA
   simp only [rf01_Text.l0] at H
   have HC2 := sd H
   clear H
   go_upto_region 3 with (fail)
   go_cut [12] (fun v12 wc => ∃ (kq : Nat) (x12_1 : Bool), v12 = .bool x12_1 ∧ Aside0 (rf01_Text.j1 kq a0 x3_1 x4_1 x12_1 = some r) ∧ Aside0 (kq ≤ k1) ∧ Drawn0 w wc)
   case first =>
    have H := HC2.out
    clear HC2
    replace H := ifI H
    rcases H with ⟨c3, H⟩ | ⟨c3, H⟩
    ·obtain ⟨c3b0, c3b1⟩ := eqI c3
     clear c3
     (first | rw [c3b0] | (simp only [i64_w, i32_w]; rw [c3b0]) | skip)
     have H' := sd H
     clear H
     go_wp2
     go_meet
     case rel => exact ⟨_, ((x3_1.toList == ([] : List UInt8))), zq1, H', ⟨zq68⟩, zq23⟩
    obtain ⟨c3b0, c3b1⟩ := neI c3
    (first | rw [c3b0] | (simp only [i64_w, i32_w]; rw [c3b0]) | skip)
    have H' := sd H
    clear H
    go_wp2
    go_meet
    case rel => exact ⟨_, (true), zq1, H', ⟨zq68⟩, zq23⟩
   case rest =>
    clear HC2
    try clear c2
    try clear p2
    try clear c3
    try clear c3b0
    try clear c3b1
    obtain ⟨kq, x12_1, rfl, HA, HJ1, ⟨mc1, rfl⟩⟩ := hcut
    cases kq with
    | zero => exact absurd HA.out (by simp [rf01_Text.j1])
    | succ kj1 =>
     have H := HA.out
     clear HA
     simp only [rf01_Text.j1] at H
     by_cases c4 : x12_1 = true
     ·subst c4
      rw [if_pos rfl] at H
      replace H := ifI H
      rcases H with ⟨c5, H⟩ | ⟨c5, H⟩
      ·have c5b0 : decide ((Int.tmod x4_1 10) < 0) = true := decide_eq_true c5
       clear c5
       obtain ⟨ji6, hji6⟩ : ∃ j_ : Int, (wrap64 (-(Int.tmod x4_1 10))) = j_ := ⟨_, rfl⟩
       replace H : (if 0 ≤ (ji6) then (if (ji6) ≤ (wrap64 ((ji6) + 1)) then (if (wrap64 ((ji6) + 1)) ≤ 10 then (if ((⟨#[48, 49, 50, 51, 52, 53, 54, 55, 56, 57]⟩ : ByteArray).extract ((ji6) : Int).toNat ((wrap64 ((ji6) + 1)) : Int).toNat).size + x3_1.size ≤ 9223372036854775807 then (rf01_Text.l0 kj1 a0 (((⟨#[48, 49, 50, 51, 52, 53, 54, 55, 56, 57]⟩ : ByteArray).extract ((ji6) : Int).toNat ((wrap64 ((ji6) + 1)) : Int).toNat) ++ x3_1) (wrap64 (Int.tdiv x4_1 10))) else (none)) else (none)) else (none)) else (none)) = some r := by first | (rw [hji6] at H; exact H) | (simp only [hji6] at H ⊢; exact H)
       have hji6w : (IntKind.i64.wrap (-(Int.tmod x4_1 10))) = ji6 := (i64_w _).trans hji6
       replace H := ifI H
       rcases H with ⟨c7, H⟩ | ⟨c7, H⟩
       ·have c7b0 := eq_true c7
        have c7b1 : decide (0 ≤ (ji6)) = true := decide_eq_true c7
        clear c7
        replace H := ifI H
        rcases H with ⟨c8, H⟩ | ⟨c8, H⟩
        ·have c8b0 := eq_true c8
         have c8b1 : decide ((ji6) ≤ (wrap64 ((ji6) + 1))) = true := decide_eq_true c8
         replace H := ifI H
         rcases H with ⟨c9, H⟩ | ⟨c9, H⟩
         ·have c9b0 := eq_true c9
          have c9b1 : decide ((wrap64 ((ji6) + 1)) ≤ 10) = true := decide_eq_true c9
          replace H := ifI H
          rcases H with ⟨c10, H⟩ | ⟨c10, H⟩
          ·have c10b0 := eq_true c10
           have c10b1 : decide (((⟨#[48, 49, 50, 51, 52, 53, 54, 55, 56, 57]⟩ : ByteArray).extract ((ji6) : Int).toNat ((wrap64 ((ji6) + 1)) : Int).toNat).size + x3_1.size ≤ 9223372036854775807) = true := decide_eq_true c10
           try have c10b2 : (9223372036854775807 < ((⟨#[48, 49, 50, 51, 52, 53, 54, 55, 56, 57]⟩ : ByteArray).extract ((ji6) : Int).toNat ((wrap64 ((ji6) + 1)) : Int).toNat).size + x3_1.size) = False := eq_false (Nat.not_lt.2 c10)
           try (have c10z := c10; simp [*] at c10z; have c10z1 := eq_false (Nat.not_lt.2 c10z))
           have H' := sd H
           clear H
           go_wp2
           go_roundg kj1
           case measure => have := HK1.out; have := HJ1.out; omega
           case rel => exact ⟨(((⟨#[48, 49, 50, 51, 52, 53, 54, 55, 56, 57]⟩ : ByteArray).extract ((ji6) : Int).toNat ((wrap64 ((ji6) + 1)) : Int).toNat) ++ x3_1), (wrap64 (Int.tdiv x4_1 10)), (by first | rfl | (simp; done) | (simp only [← hji6] <;> (first | rfl | simp)) | (simp [*]; done)), zq1, H', ⟨by have := HK1.out; have := HJ1.out; omega⟩, zq23⟩
          exact absurd H (by simp)
         exact absurd H (by simp)
        exact absurd H (by simp)
       exact absurd H (by simp)
      have c5b0 : decide ((Int.tmod x4_1 10) < 0) = false := decide_eq_false c5
      clear c5
      obtain ⟨ji11, hji11⟩ : ∃ j_ : Int, (Int.tmod x4_1 10) = j_ := ⟨_, rfl⟩
      replace H : (if 0 ≤ (ji11) then (if (ji11) ≤ (wrap64 ((ji11) + 1)) then (if (wrap64 ((ji11) + 1)) ≤ 10 then (if ((⟨#[48, 49, 50, 51, 52, 53, 54, 55, 56, 57]⟩ : ByteArray).extract ((ji11) : Int).toNat ((wrap64 ((ji11) + 1)) : Int).toNat).size + x3_1.size ≤ 9223372036854775807 then (rf01_Text.l0 kj1 a0 (((⟨#[48, 49, 50, 51, 52, 53, 54, 55, 56, 57]⟩ : ByteArray).extract ((ji11) : Int).toNat ((wrap64 ((ji11) + 1)) : Int).toNat) ++ x3_1) (wrap64 (Int.tdiv x4_1 10))) else (none)) else (none)) else (none)) else (none)) = some r := by first | (rw [hji11] at H; exact H) | (simp only [hji11] at H ⊢; exact H)
      (try rw [hji11] at c5b0)
      replace H := ifI H
      rcases H with ⟨c12, H⟩ | ⟨c12, H⟩
      ·have c12b0 := eq_true c12
       have c12b1 : decide (0 ≤ (ji11)) = true := decide_eq_true c12
       clear c12
       replace H := ifI H
       rcases H with ⟨c13, H⟩ | ⟨c13, H⟩
       ·have c13b0 := eq_true c13
        have c13b1 : decide ((ji11) ≤ (wrap64 ((ji11) + 1))) = true := decide_eq_true c13
        replace H := ifI H
        rcases H with ⟨c14, H⟩ | ⟨c14, H⟩
        ·have c14b0 := eq_true c14
         have c14b1 : decide ((wrap64 ((ji11) + 1)) ≤ 10) = true := decide_eq_true c14
         replace H := ifI H
         rcases H with ⟨c15, H⟩ | ⟨c15, H⟩
         ·have c15b0 := eq_true c15
          have c15b1 : decide (((⟨#[48, 49, 50, 51, 52, 53, 54, 55, 56, 57]⟩ : ByteArray).extract ((ji11) : Int).toNat ((wrap64 ((ji11) + 1)) : Int).toNat).size + x3_1.size ≤ 9223372036854775807) = true := decide_eq_true c15
          try have c15b2 : (9223372036854775807 < ((⟨#[48, 49, 50, 51, 52, 53, 54, 55, 56, 57]⟩ : ByteArray).extract ((ji11) : Int).toNat ((wrap64 ((ji11) + 1)) : Int).toNat).size + x3_1.size) = False := eq_false (Nat.not_lt.2 c15)
          try (have c15z := c15; simp [*] at c15z; have c15z1 := eq_false (Nat.not_lt.2 c15z))
          have H' := sd H
          clear H
          go_wp2
          go_roundg kj1
          case measure => have := HK1.out; have := HJ1.out; omega
          case rel => exact ⟨(((⟨#[48, 49, 50, 51, 52, 53, 54, 55, 56, 57]⟩ : ByteArray).extract ((ji11) : Int).toNat ((wrap64 ((ji11) + 1)) : Int).toNat) ++ x3_1), (wrap64 (Int.tdiv x4_1 10)), (by first | rfl | (simp; done) | (simp only [← hji11] <;> (first | rfl | simp)) | (simp [*]; done)), zq1, H', ⟨by have := HK1.out; have := HJ1.out; omega⟩, zq23⟩
         exact absurd H (by simp)
        exact absurd H (by simp)
       exact absurd H (by simp)
      exact absurd H (by simp)
     replace c4 := Bool.eq_false_iff.mpr c4
     subst c4
     rw [if_neg Bool.false_ne_true] at H
     replace H := ifI H
     rcases H with ⟨c16, H⟩ | ⟨c16, H⟩
     ·have c16b0 : decide (a0 < 0) = true := decide_eq_true c16
      clear c16
      replace H := ifI H
      rcases H with ⟨c17, H⟩ | ⟨c17, H⟩
      ·have c17b0 := eq_true c17
       have c17b1 : decide (1 + x3_1.size ≤ 9223372036854775807) = true := decide_eq_true c17
       try have c17b2 : (9223372036854775807 < 1 + x3_1.size) = False := eq_false (Nat.not_lt.2 c17)
       obtain rfl := Option.some.inj H
       go_wp2
       go_ret
       exact ⟨zq1, zq23⟩
      exact absurd H (by simp)
     have c16b0 : decide (a0 < 0) = false := decide_eq_false c16
     clear c16
     obtain rfl := Option.some.inj H
     go_wp2
     go_ret
     exact ⟨zq1, zq23⟩
def rf03_Text.f (k : Nat) (a0_0 : Int) (a0_1 : Int) : Option (ByteArray × Int) := (rf03_Right.f k a0_0 a0_1).bind fun t303 => (if t303 = true then (if a0_1 = 1 then ((rf01_Text.f k a0_0).bind fun t304 => (some (t304, 0))) else ((rf01_Text.f k a0_0).bind fun t305 => (if t305.size + 1 ≤ 9223372036854775807 then ((rf01_Text.f k a0_1).bind fun t306 => (if (t305 ++ (⟨#[47]⟩ : ByteArray)).size + t306.size ≤ 9223372036854775807 then (some ((t305 ++ (⟨#[47]⟩ : ByteArray)) ++ t306, 0)) else (none))) else (none)))) else (some ((⟨#[]⟩ : ByteArray), 2)))
theorem rf03_Text.calls (k : Nat) (a0_0 a0_1 : Int) (r1 : ByteArray) (r2 : Int) (w : World) (h : rf03_Text.f k a0_0 a0_1 = some (r1, r2)) :
  Calls Tryd.prog 24 #[.agg #[.int .i64 a0_0, .int .i64 a0_1]] w fun e w' => e = .returned (.tuple #[.string r1, .int .i64 r2]) ∧ Below w.heap.size w w' := by
 have hu38 := Tryd.underlying38
 have HB := sd (Below.refl w.heap.size w)
 have H := h
 clear h
 unfold rf03_Text.f at H
 replace H := bdI H
 obtain ⟨t303, A2, H⟩ := H
 (try dsimp only at H)
 by_cases c3 : t303 = true
 ·subst c3
  rw [if_pos rfl] at H
  replace H := ifI H
  rcases H with ⟨c4, H⟩ | ⟨c4, H⟩
  ·obtain ⟨c4b0, c4b1⟩ := eqI c4
   clear c4
   replace H := bdI H
   obtain ⟨t304, A5, H⟩ := H
   (try dsimp only at H)
   simp only [Option.some.injEq, Prod.mk.injEq] at H
   obtain ⟨rfl, rfl⟩ := H
   go_enter Tryd.func24, Tryd.ntmps24
   go_wp2_with (first | ((with_reducible refine gate_dst (N := 1) rfl ?_); refine bxA 1 #[.int .i64 a0_0, .int .i64 a0_1] 38 ?_; intro gb302 hg w6 hbox hb; have BK302 := sd (hbox); have GW302 := gem hg HB; have GE302 := GW302; replace HB := hbm HB hb; clear hb hbox hg; obtain ⟨_, _, _, _⟩ := bk2 BK302) | (go_at_call 43; (with_reducible refine (rf03_Right.calls k a0_0 a0_1 true _ A2.out).mono ?_); rintro e w8 ⟨rfl, hb⟩; replace BK302 := bkm BK302 hb; replace HB := hbm HB hb; clear hb; obtain ⟨_, _, _, _⟩ := bk2 BK302) | (go_at_call 25; (with_reducible refine (rf01_Text.calls k a0_0 t304 _ A5.out).mono ?_); rintro e w' ⟨rfl, ⟨nd, rfl⟩⟩; (try first | exact ⟨rfl, _, World.drewN_drewN _ _ _⟩ | exact ⟨rfl, _, Eq.trans (World.drewN_drewN _ _ _) (congrArg (World.drewN _) (Nat.add_assoc _ _ _))⟩)))
   repeat (go_quiet (first | ((with_reducible refine gate_dst (N := 1) rfl ?_); refine bxA 1 #[.int .i64 a0_0, .int .i64 a0_1] 38 ?_; intro gb302 hg w6 hbox hb; have BK302 := sd (hbox); have GW302 := gem hg HB; have GE302 := GW302; replace HB := hbm HB hb; clear hb hbox hg; obtain ⟨_, _, _, _⟩ := bk2 BK302) | (go_at_call 43; (with_reducible refine (rf03_Right.calls k a0_0 a0_1 true _ A2.out).mono ?_); rintro e w8 ⟨rfl, hb⟩; replace BK302 := bkm BK302 hb; replace HB := hbm HB hb; clear hb; obtain ⟨_, _, _, _⟩ := bk2 BK302) | (go_at_call 25; (with_reducible refine (rf01_Text.calls k a0_0 t304 _ A5.out).mono ?_); rintro e w' ⟨rfl, ⟨nd, rfl⟩⟩; (try first | exact ⟨rfl, _, World.drewN_drewN _ _ _⟩ | exact ⟨rfl, _, Eq.trans (World.drewN_drewN _ _ _) (congrArg (World.drewN _) (Nat.add_assoc _ _ _))⟩))); try go_wp2_with (first | ((with_reducible refine gate_dst (N := 1) rfl ?_); refine bxA 1 #[.int .i64 a0_0, .int .i64 a0_1] 38 ?_; intro gb302 hg w6 hbox hb; have BK302 := sd (hbox); have GW302 := gem hg HB; have GE302 := GW302; replace HB := hbm HB hb; clear hb hbox hg; obtain ⟨_, _, _, _⟩ := bk2 BK302) | (go_at_call 43; (with_reducible refine (rf03_Right.calls k a0_0 a0_1 true _ A2.out).mono ?_); rintro e w8 ⟨rfl, hb⟩; replace BK302 := bkm BK302 hb; replace HB := hbm HB hb; clear hb; obtain ⟨_, _, _, _⟩ := bk2 BK302) | (go_at_call 25; (with_reducible refine (rf01_Text.calls k a0_0 t304 _ A5.out).mono ?_); rintro e w' ⟨rfl, ⟨nd, rfl⟩⟩; (try first | exact ⟨rfl, _, World.drewN_drewN _ _ _⟩ | exact ⟨rfl, _, Eq.trans (World.drewN_drewN _ _ _) (congrArg (World.drewN _) (Nat.add_assoc _ _ _))⟩))))
   go_ret2
   exact ⟨zq8, zq69⟩
  obtain ⟨c4b0, c4b1⟩ := neI c4
  replace H := bdI H
  obtain ⟨t305, A10, H⟩ := H
  (try dsimp only at H)
  replace H := ifI H
  rcases H with ⟨c11, H⟩ | ⟨c11, H⟩
  ·have c11b0 := eq_true c11
   have c11b1 : decide (t305.size + 1 ≤ 9223372036854775807) = true := decide_eq_true c11
   try have c11b2 : (9223372036854775807 < t305.size + 1) = False := eq_false (Nat.not_lt.2 c11)
   replace H := bdI H
   obtain ⟨t306, A12, H⟩ := H
   (try dsimp only at H)
   replace H := ifI H
   rcases H with ⟨c13, H⟩ | ⟨c13, H⟩
   ·have c13b0 := eq_true c13
    have c13b1 : decide ((t305 ++ (⟨#[47]⟩ : ByteArray)).size + t306.size ≤ 9223372036854775807) = true := decide_eq_true c13
    try have c13b2 : (9223372036854775807 < (t305 ++ (⟨#[47]⟩ : ByteArray)).size + t306.size) = False := eq_false (Nat.not_lt.2 c13)
    try have c13y : (9223372036854775807 < t305.size + 1 + t306.size) = False := by have h_ := c13b2; simp only [ByteArray.size_append] at h_; exact h_
    simp only [Option.some.injEq, Prod.mk.injEq] at H
    obtain ⟨rfl, rfl⟩ := H
    go_enter Tryd.func24, Tryd.ntmps24
    go_wp2_with (first | ((with_reducible refine gate_dst (N := 1) rfl ?_); refine bxA 1 #[.int .i64 a0_0, .int .i64 a0_1] 38 ?_; intro gb302 hg w14 hbox hb; have BK302 := sd (hbox); have GW302 := gem hg HB; have GE302 := GW302; replace HB := hbm HB hb; clear hb hbox hg; obtain ⟨_, _, _, _⟩ := bk2 BK302) | (go_at_call 43; (with_reducible refine (rf03_Right.calls k a0_0 a0_1 true _ A2.out).mono ?_); rintro e w16 ⟨rfl, hb⟩; replace BK302 := bkm BK302 hb; replace HB := hbm HB hb; clear hb; obtain ⟨_, _, _, _⟩ := bk2 BK302) | (go_at_call 25; (with_reducible refine (rf01_Text.calls k a0_0 t305 _ A10.out).mono ?_); rintro e w' ⟨rfl, ⟨nd, rfl⟩⟩; (try first | exact ⟨rfl, _, World.drewN_drewN _ _ _⟩ | exact ⟨rfl, _, Eq.trans (World.drewN_drewN _ _ _) (congrArg (World.drewN _) (Nat.add_assoc _ _ _))⟩)) | (go_at_call 25; (with_reducible refine (rf01_Text.calls k a0_1 t306 _ A12.out).mono ?_); rintro e w' ⟨rfl, ⟨nd, rfl⟩⟩; (try first | exact ⟨rfl, _, World.drewN_drewN _ _ _⟩ | exact ⟨rfl, _, Eq.trans (World.drewN_drewN _ _ _) (congrArg (World.drewN _) (Nat.add_assoc _ _ _))⟩)))
    repeat (go_quiet (first | ((with_reducible refine gate_dst (N := 1) rfl ?_); refine bxA 1 #[.int .i64 a0_0, .int .i64 a0_1] 38 ?_; intro gb302 hg w14 hbox hb; have BK302 := sd (hbox); have GW302 := gem hg HB; have GE302 := GW302; replace HB := hbm HB hb; clear hb hbox hg; obtain ⟨_, _, _, _⟩ := bk2 BK302) | (go_at_call 43; (with_reducible refine (rf03_Right.calls k a0_0 a0_1 true _ A2.out).mono ?_); rintro e w16 ⟨rfl, hb⟩; replace BK302 := bkm BK302 hb; replace HB := hbm HB hb; clear hb; obtain ⟨_, _, _, _⟩ := bk2 BK302) | (go_at_call 25; (with_reducible refine (rf01_Text.calls k a0_0 t305 _ A10.out).mono ?_); rintro e w' ⟨rfl, ⟨nd, rfl⟩⟩; (try first | exact ⟨rfl, _, World.drewN_drewN _ _ _⟩ | exact ⟨rfl, _, Eq.trans (World.drewN_drewN _ _ _) (congrArg (World.drewN _) (Nat.add_assoc _ _ _))⟩)) | (go_at_call 25; (with_reducible refine (rf01_Text.calls k a0_1 t306 _ A12.out).mono ?_); rintro e w' ⟨rfl, ⟨nd, rfl⟩⟩; (try first | exact ⟨rfl, _, World.drewN_drewN _ _ _⟩ | exact ⟨rfl, _, Eq.trans (World.drewN_drewN _ _ _) (congrArg (World.drewN _) (Nat.add_assoc _ _ _))⟩))); try go_wp2_with (first | ((with_reducible refine gate_dst (N := 1) rfl ?_); refine bxA 1 #[.int .i64 a0_0, .int .i64 a0_1] 38 ?_; intro gb302 hg w14 hbox hb; have BK302 := sd (hbox); have GW302 := gem hg HB; have GE302 := GW302; replace HB := hbm HB hb; clear hb hbox hg; obtain ⟨_, _, _, _⟩ := bk2 BK302) | (go_at_call 43; (with_reducible refine (rf03_Right.calls k a0_0 a0_1 true _ A2.out).mono ?_); rintro e w16 ⟨rfl, hb⟩; replace BK302 := bkm BK302 hb; replace HB := hbm HB hb; clear hb; obtain ⟨_, _, _, _⟩ := bk2 BK302) | (go_at_call 25; (with_reducible refine (rf01_Text.calls k a0_0 t305 _ A10.out).mono ?_); rintro e w' ⟨rfl, ⟨nd, rfl⟩⟩; (try first | exact ⟨rfl, _, World.drewN_drewN _ _ _⟩ | exact ⟨rfl, _, Eq.trans (World.drewN_drewN _ _ _) (congrArg (World.drewN _) (Nat.add_assoc _ _ _))⟩)) | (go_at_call 25; (with_reducible refine (rf01_Text.calls k a0_1 t306 _ A12.out).mono ?_); rintro e w' ⟨rfl, ⟨nd, rfl⟩⟩; (try first | exact ⟨rfl, _, World.drewN_drewN _ _ _⟩ | exact ⟨rfl, _, Eq.trans (World.drewN_drewN _ _ _) (congrArg (World.drewN _) (Nat.add_assoc _ _ _))⟩))))
    go_ret2
    exact ⟨zq8, zq69⟩
   exact absurd H (by simp)
  exact absurd H (by simp)
 replace c3 := Bool.eq_false_iff.mpr c3
 subst c3
 rw [if_neg Bool.false_ne_true] at H
 simp only [Option.some.injEq, Prod.mk.injEq] at H
 obtain ⟨rfl, rfl⟩ := H
 go_enter Tryd.func24, Tryd.ntmps24
 go_wp2_with (first | ((with_reducible refine gate_dst (N := 1) rfl ?_); refine bxA 1 #[.int .i64 a0_0, .int .i64 a0_1] 38 ?_; intro gb302 hg w18 hbox hb; have BK302 := sd (hbox); have GW302 := gem hg HB; have GE302 := GW302; replace HB := hbm HB hb; clear hb hbox hg; obtain ⟨_, _, _, _⟩ := bk2 BK302) | (go_at_call 43; (with_reducible refine (rf03_Right.calls k a0_0 a0_1 false _ A2.out).mono ?_); rintro e w20 ⟨rfl, hb⟩; replace BK302 := bkm BK302 hb; replace HB := hbm HB hb; clear hb))
 repeat (go_quiet (first | ((with_reducible refine gate_dst (N := 1) rfl ?_); refine bxA 1 #[.int .i64 a0_0, .int .i64 a0_1] 38 ?_; intro gb302 hg w18 hbox hb; have BK302 := sd (hbox); have GW302 := gem hg HB; have GE302 := GW302; replace HB := hbm HB hb; clear hb hbox hg; obtain ⟨_, _, _, _⟩ := bk2 BK302) | (go_at_call 43; (with_reducible refine (rf03_Right.calls k a0_0 a0_1 false _ A2.out).mono ?_); rintro e w20 ⟨rfl, hb⟩; replace BK302 := bkm BK302 hb; replace HB := hbm HB hb; clear hb)); try go_wp2_with (first | ((with_reducible refine gate_dst (N := 1) rfl ?_); refine bxA 1 #[.int .i64 a0_0, .int .i64 a0_1] 38 ?_; intro gb302 hg w18 hbox hb; have BK302 := sd (hbox); have GW302 := gem hg HB; have GE302 := GW302; replace HB := hbm HB hb; clear hb hbox hg; obtain ⟨_, _, _, _⟩ := bk2 BK302) | (go_at_call 43; (with_reducible refine (rf03_Right.calls k a0_0 a0_1 false _ A2.out).mono ?_); rintro e w20 ⟨rfl, hb⟩; replace BK302 := bkm BK302 hb; replace HB := hbm HB hb; clear hb)))
 go_ret2
 exact ⟨zq8, zq69⟩
def rf24_Text.l0 : Nat → ByteArray → Int → Int → Bool → List (S53) → Option (ByteArray × Int)
 | 0, _, _, _, _, _ => none
 | k + 1, x4, x5, x308000, x308001, x308002 => if x5 < (x308002.length : Int) then (if 0 ≤ x5 then ((rf03_Text.f k ((rd_T53 x308002 x5).f1.f0) ((rd_T53 x308002 x5).f1.f1)).bind fun bt310 => (if bt310.1.size + 1 ≤ 9223372036854775807 then ((rf01_Text.f k ((rd_T53 x308002 x5).f0)).bind fun t313 => (if (bt310.1 ++ (⟨#[32]⟩ : ByteArray)).size + t313.size ≤ 9223372036854775807 then (if ((bt310.1 ++ (⟨#[32]⟩ : ByteArray)) ++ t313).size + 1 ≤ 9223372036854775807 then (if x4.size + (((bt310.1 ++ (⟨#[32]⟩ : ByteArray)) ++ t313) ++ (⟨#[32]⟩ : ByteArray)).size ≤ 9223372036854775807 then (rf24_Text.l0 k (x4 ++ (((bt310.1 ++ (⟨#[32]⟩ : ByteArray)) ++ t313) ++ (⟨#[32]⟩ : ByteArray))) (wrap64 (x5 + 1)) x308000 x308001 x308002) else (none)) else (none)) else (none))) else (none))) else (none)) else (if x308001 = true then (if x4.size + 4 ≤ 9223372036854775807 then ((rf01_Text.f k x308000).bind fun t314 => (if (x4 ++ (⟨#[101, 111, 109, 32]⟩ : ByteArray)).size + t314.size ≤ 9223372036854775807 then (some ((x4 ++ (⟨#[101, 111, 109, 32]⟩ : ByteArray)) ++ t314, 0)) else (none))) else (none)) else (if x4.size + 4 ≤ 9223372036854775807 then ((rf01_Text.f k x308000).bind fun t315 => (if (x4 ++ (⟨#[110, 101, 116, 32]⟩ : ByteArray)).size + t315.size ≤ 9223372036854775807 then (some ((x4 ++ (⟨#[110, 101, 116, 32]⟩ : ByteArray)) ++ t315, 0)) else (none))) else (none)))
def rf24_Text.f (k : Nat) (a0_0 : Int) (a0_1 : Bool) (l0_2 : List (S53)) : Option (ByteArray × Int) := (rf24_Right.f k a0_0 a0_1 l0_2).bind fun t308 => (if t308 = true then (rf24_Text.l0 k (⟨#[]⟩ : ByteArray) 0 a0_0 a0_1 l0_2) else (some ((⟨#[]⟩ : ByteArray), 2)))
theorem rf24_Text.calls (k : Nat) (a0_0 : Int) (a0_1 : Bool) (A0_2 : Option Addr) (c0_2 : Nat) (l0_2 : List (S53)) (r1 : ByteArray) (r2 : Int) (w : World) (hr0_2 : Kd.C k53 w A0_2 l0_2.length l0_2) (hc0_2 : l0_2.length ≤ c0_2) (h : rf24_Text.f k a0_0 a0_1 l0_2 = some (r1, r2)) :
  Calls Tryd.prog 11 #[.agg #[.int .i64 a0_0, .bool a0_1, .slice A0_2 l0_2.length c0_2]] w fun e w' => e = .returned (.tuple #[.string r1, .int .i64 r2]) ∧ Below w.heap.size w w' := by
 have hu24 := Tryd.underlying24
 have hu38 := Tryd.underlying38
 have HR0_2 := sd hr0_2
 have HC0_2 := sd hc0_2
 clear hr0_2 hc0_2
 have HB := sd (Below.refl w.heap.size w)
 have H := h
 clear h
 unfold rf24_Text.f at H
 replace H := bdI H
 obtain ⟨t308, A2, H⟩ := H
 (try dsimp only at H)
 by_cases c3 : t308 = true
 ·subst c3
  rw [if_pos rfl] at H
  have H' := sd H
  clear H
  go_enter Tryd.func11, Tryd.ntmps11
  go_wp2_with (first | ((with_reducible refine gate_dst (N := 1) rfl ?_); refine bxA 1 #[.int .i64 a0_0, .bool a0_1, .slice A0_2 l0_2.length c0_2] 24 ?_; intro gb307 hg w4 hbox hb; have BK307 := sd (hbox); have GW307 := gem hg HB; have GE307 := GW307; replace HB := hbm HB hb; clear hb hbox hg; obtain ⟨_, _, _, _, _, _⟩ := bk3 BK307) | ((with_reducible refine gate_callee (f := 13) rfl ?_); refine gL 9 Tryd.func13 #[.agg #[.int .i64 a0_0, .bool a0_1, .slice A0_2 l0_2.length c0_2]] ?_; (with_reducible refine (rf24_Right.calls k a0_0 a0_1 _ _ l0_2 true _ ?side1 ?side2 A2.out).mono ?_); (case side1 => exact zq32); (case side2 => exact HC0_2.out); rintro e w6 ⟨rfl, hb⟩; refine ⟨_, rfl, ?_⟩; replace BK307 := bkm BK307 hb; replace HB := hbm HB hb; clear hb))
  go_loopg [4, 5] k (fun kq v4 v5 w' => ∃ (x4_1 : ByteArray) (x5_1 : Int), v4 = .string x4_1 ∧ v5 = .int .i64 x5_1 ∧ Aside0 (rf24_Text.l0 kq x4_1 x5_1 a0_0 a0_1 l0_2 = some (r1, r2)) ∧ Aside0 (kq ≤ k) ∧ Aside0 (w'.heap[gb307]? = some (.cells #[.int .i64 a0_0, .bool a0_1, (.slice A0_2 l0_2.length c0_2)] 24 (0, 0))) ∧ Aside0 (Below w.heap.size w w'))
  case atStart => exact ⟨((⟨#[]⟩ : ByteArray)), (0), zq1, zq1, H', ⟨Nat.le_refl _⟩, ⟨by (with_reducible repeat (first | refine blk_drewN ?_ _ | refine blk_drew ?_ | refine blk_alloc ?_ _)); exact BK307.out⟩, ⟨zq33⟩⟩
  case round =>
   clear H'
   try clear c1
   try clear p2
   try clear c3
   try clear hcz5_0
   try clear hcz5_1
   try clear hcz5_2
   try clear hfz5_0
   try clear hfz5_1
   try clear hfz5_2
   obtain ⟨x4_1, x5_1, rfl, rfl, HA, HK1, BK307, HB⟩ := hrel
   cases gk with
   | zero => exact absurd HA.out (by simp [rf24_Text.l0])
   | succ k1 =>
    have H := HA.out
    clear HA
    simp only [rf24_Text.l0] at H
    replace H := ifI H
    rcases H with ⟨c7, H⟩ | ⟨c7, H⟩
    ·have c7b0 : decide (x5_1 < (l0_2.length : Int)) = true := decide_eq_true c7
     clear c7
     replace H := ifI H
     rcases H with ⟨c8, H⟩ | ⟨c8, H⟩
     ·have c8b0 : decide (0 ≤ x5_1) = true := decide_eq_true c8
      clear c8
      replace H := bdI H
      obtain ⟨⟨t310, t311⟩, A9, H⟩ := H
      (try dsimp only at H)
      replace H := ifI H
      rcases H with ⟨c10, H⟩ | ⟨c10, H⟩
      ·have c10b0 := eq_true c10
       have c10b1 : decide (t310.size + 1 ≤ 9223372036854775807) = true := decide_eq_true c10
       try have c10b2 : (9223372036854775807 < t310.size + 1) = False := eq_false (Nat.not_lt.2 c10)
       replace H := bdI H
       obtain ⟨t313, A11, H⟩ := H
       (try dsimp only at H)
       replace H := ifI H
       rcases H with ⟨c12, H⟩ | ⟨c12, H⟩
       ·have c12b0 := eq_true c12
        have c12b1 : decide ((t310 ++ (⟨#[32]⟩ : ByteArray)).size + t313.size ≤ 9223372036854775807) = true := decide_eq_true c12
        try have c12b2 : (9223372036854775807 < (t310 ++ (⟨#[32]⟩ : ByteArray)).size + t313.size) = False := eq_false (Nat.not_lt.2 c12)
        try have c12y : (9223372036854775807 < t310.size + 1 + t313.size) = False := by have h_ := c12b2; simp only [ByteArray.size_append] at h_; exact h_
        replace H := ifI H
        rcases H with ⟨c13, H⟩ | ⟨c13, H⟩
        ·have c13b0 := eq_true c13
         have c13b1 : decide (((t310 ++ (⟨#[32]⟩ : ByteArray)) ++ t313).size + 1 ≤ 9223372036854775807) = true := decide_eq_true c13
         try have c13b2 : (9223372036854775807 < ((t310 ++ (⟨#[32]⟩ : ByteArray)) ++ t313).size + 1) = False := eq_false (Nat.not_lt.2 c13)
         try have c13y : (9223372036854775807 < t310.size + 1 + t313.size + 1) = False := by have h_ := c13b2; simp only [ByteArray.size_append] at h_; exact h_
         replace H := ifI H
         rcases H with ⟨c14, H⟩ | ⟨c14, H⟩
         ·have c14b0 := eq_true c14
          have c14b1 : decide (x4_1.size + (((t310 ++ (⟨#[32]⟩ : ByteArray)) ++ t313) ++ (⟨#[32]⟩ : ByteArray)).size ≤ 9223372036854775807) = true := decide_eq_true c14
          try have c14b2 : (9223372036854775807 < x4_1.size + (((t310 ++ (⟨#[32]⟩ : ByteArray)) ++ t313) ++ (⟨#[32]⟩ : ByteArray)).size) = False := eq_false (Nat.not_lt.2 c14)
          try have c14y : (9223372036854775807 < x4_1.size + (t310.size + 1 + t313.size + 1)) = False := by have h_ := c14b2; simp only [ByteArray.size_append] at h_; exact h_
          have H' := sd H
          clear H
          obtain ⟨_, _, _, _, _, _⟩ := bk3 BK307
          have p309 : 0 ≤ (x5_1 : Int) := od
          have q309 : x5_1 < (l0_2.length : Int) := od
          obtain ⟨ad309, e309, hx309_0, hx309_1, hx309_2⟩ := at_T53 HR0_2.out x5_1 p309 q309
          cases e309
          replace hx309_0 := (HB.out.cell (World.block_lt_of_cell? w _ hx309_0)).trans hx309_0
          replace hx309_1 := (HB.out.cell (World.block_lt_of_cell? w _ hx309_1)).trans hx309_1
          replace hx309_2 := (HB.out.cell (World.block_lt_of_cell? w _ hx309_2)).trans hx309_2
          replace p309 := eq_true p309
          replace q309 := eq_true q309
          go_wp2_with (first | ((with_reducible refine gate_callee (f := 24) rfl ?_); refine gL 25 Tryd.func24 #[.agg #[.int .i64 ((rd_T53 l0_2 x5_1).f1.f0), .int .i64 ((rd_T53 l0_2 x5_1).f1.f1)]] ?_; (with_reducible refine (rf03_Text.calls k1 ((rd_T53 l0_2 x5_1).f1.f0) ((rd_T53 l0_2 x5_1).f1.f1) t310 t311 _ A9.out).mono ?_); rintro e w16 ⟨rfl, hb⟩; refine ⟨_, rfl, ?_⟩; replace BK307 := bkm BK307 hb; replace HB := hbm HB hb; clear hb; obtain ⟨_, _, _, _, _, _⟩ := bk3 BK307; have p312 : 0 ≤ (x5_1 : Int) := od; have q312 : x5_1 < (l0_2.length : Int) := od; obtain ⟨ad312, e312, hx312_0, hx312_1, hx312_2⟩ := at_T53 HR0_2.out x5_1 p312 q312; obtain rfl : ad309 = ad312 := (by injection e312); replace hx312_0 := (HB.out.cell (World.block_lt_of_cell? w _ hx312_0)).trans hx312_0; replace hx312_1 := (HB.out.cell (World.block_lt_of_cell? w _ hx312_1)).trans hx312_1; replace hx312_2 := (HB.out.cell (World.block_lt_of_cell? w _ hx312_2)).trans hx312_2; replace p312 := eq_true p312; replace q312 := eq_true q312) | ((with_reducible refine gate_callee (f := 25) rfl ?_); refine gL 37 Tryd.func25 #[.int .i64 ((rd_T53 l0_2 x5_1).f0)] ?_; (with_reducible refine (rf01_Text.calls k1 ((rd_T53 l0_2 x5_1).f0) t313 _ A11.out).mono ?_); rintro e w' ⟨rfl, ⟨nd, rfl⟩⟩; refine ⟨_, rfl, ?_⟩))
          go_roundg k1
          case measure => have := HK1.out; omega
          case rel => exact ⟨(x4_1 ++ (((t310 ++ (⟨#[32]⟩ : ByteArray)) ++ t313) ++ (⟨#[32]⟩ : ByteArray))), (wrap64 (x5_1 + 1)), zq1, zq1, H', ⟨by have := HK1.out; omega⟩, ⟨by (with_reducible repeat (first | refine blk_drewN ?_ _ | refine blk_drew ?_ | refine blk_alloc ?_ _)); exact BK307.out⟩, ⟨zq33⟩⟩
         exact absurd H (by simp)
        exact absurd H (by simp)
       exact absurd H (by simp)
      exact absurd H (by simp)
     exact absurd H (by simp)
    have c7b0 : decide (x5_1 < (l0_2.length : Int)) = false := decide_eq_false c7
    clear c7
    by_cases c18 : a0_1 = true
    ·subst c18
     rw [if_pos rfl] at H
     replace H := ifI H
     rcases H with ⟨c19, H⟩ | ⟨c19, H⟩
     ·have c19b0 := eq_true c19
      have c19b1 : decide (x4_1.size + 4 ≤ 9223372036854775807) = true := decide_eq_true c19
      try have c19b2 : (9223372036854775807 < x4_1.size + 4) = False := eq_false (Nat.not_lt.2 c19)
      replace H := bdI H
      obtain ⟨t314, A20, H⟩ := H
      (try dsimp only at H)
      replace H := ifI H
      rcases H with ⟨c21, H⟩ | ⟨c21, H⟩
      ·have c21b0 := eq_true c21
       have c21b1 : decide ((x4_1 ++ (⟨#[101, 111, 109, 32]⟩ : ByteArray)).size + t314.size ≤ 9223372036854775807) = true := decide_eq_true c21
       try have c21b2 : (9223372036854775807 < (x4_1 ++ (⟨#[101, 111, 109, 32]⟩ : ByteArray)).size + t314.size) = False := eq_false (Nat.not_lt.2 c21)
       try have c21y : (9223372036854775807 < x4_1.size + 4 + t314.size) = False := by have h_ := c21b2; simp only [ByteArray.size_append] at h_; exact h_
       simp only [Option.some.injEq, Prod.mk.injEq] at H
       obtain ⟨rfl, rfl⟩ := H
       obtain ⟨_, _, _, _, _, _⟩ := bk3 BK307
       go_wp2_with (first | ((with_reducible refine gate_callee (f := 25) rfl ?_); refine gL 50 Tryd.func25 #[.int .i64 a0_0] ?_; (with_reducible refine (rf01_Text.calls k1 a0_0 t314 _ A20.out).mono ?_); rintro e w' ⟨rfl, ⟨nd, rfl⟩⟩; refine ⟨_, rfl, ?_⟩))
       go_ret2
       exact ⟨zq8, zq33⟩
      exact absurd H (by simp)
     exact absurd H (by simp)
    replace c18 := Bool.eq_false_iff.mpr c18
    subst c18
    rw [if_neg Bool.false_ne_true] at H
    replace H := ifI H
    rcases H with ⟨c23, H⟩ | ⟨c23, H⟩
    ·have c23b0 := eq_true c23
     have c23b1 : decide (x4_1.size + 4 ≤ 9223372036854775807) = true := decide_eq_true c23
     try have c23b2 : (9223372036854775807 < x4_1.size + 4) = False := eq_false (Nat.not_lt.2 c23)
     replace H := bdI H
     obtain ⟨t315, A24, H⟩ := H
     (try dsimp only at H)
     replace H := ifI H
     rcases H with ⟨c25, H⟩ | ⟨c25, H⟩
     ·have c25b0 := eq_true c25
      have c25b1 : decide ((x4_1 ++ (⟨#[110, 101, 116, 32]⟩ : ByteArray)).size + t315.size ≤ 9223372036854775807) = true := decide_eq_true c25
      try have c25b2 : (9223372036854775807 < (x4_1 ++ (⟨#[110, 101, 116, 32]⟩ : ByteArray)).size + t315.size) = False := eq_false (Nat.not_lt.2 c25)
      try have c25y : (9223372036854775807 < x4_1.size + 4 + t315.size) = False := by have h_ := c25b2; simp only [ByteArray.size_append] at h_; exact h_
      simp only [Option.some.injEq, Prod.mk.injEq] at H
      obtain ⟨rfl, rfl⟩ := H
      obtain ⟨_, _, _, _, _, _⟩ := bk3 BK307
      go_wp2_with (first | ((with_reducible refine gate_callee (f := 25) rfl ?_); refine gL 50 Tryd.func25 #[.int .i64 a0_0] ?_; (with_reducible refine (rf01_Text.calls k1 a0_0 t315 _ A24.out).mono ?_); rintro e w' ⟨rfl, ⟨nd, rfl⟩⟩; refine ⟨_, rfl, ?_⟩))
      go_ret2
      exact ⟨zq8, zq33⟩
     exact absurd H (by simp)
    exact absurd H (by simp)
 replace c3 := Bool.eq_false_iff.mpr c3
 subst c3
 rw [if_neg Bool.false_ne_true] at H
 simp only [Option.some.injEq, Prod.mk.injEq] at H
 obtain ⟨rfl, rfl⟩ := H
 go_enter Tryd.func11, Tryd.ntmps11
 go_wp2_with (first | ((with_reducible refine gate_dst (N := 1) rfl ?_); refine bxA 1 #[.int .i64 a0_0, .bool a0_1, .slice A0_2 l0_2.length c0_2] 24 ?_; intro gb307 hg w27 hbox hb; have BK307 := sd (hbox); have GW307 := gem hg HB; have GE307 := GW307; replace HB := hbm HB hb; clear hb hbox hg; obtain ⟨_, _, _, _, _, _⟩ := bk3 BK307) | ((with_reducible refine gate_callee (f := 13) rfl ?_); refine gL 9 Tryd.func13 #[.agg #[.int .i64 a0_0, .bool a0_1, .slice A0_2 l0_2.length c0_2]] ?_; (with_reducible refine (rf24_Right.calls k a0_0 a0_1 _ _ l0_2 false _ ?side1 ?side2 A2.out).mono ?_); (case side1 => exact zq32); (case side2 => exact HC0_2.out); rintro e w29 ⟨rfl, hb⟩; refine ⟨_, rfl, ?_⟩; replace BK307 := bkm BK307 hb; replace HB := hbm HB hb; clear hb))
 go_ret2
 exact ⟨zq8, zq33⟩
end Go.Proofs.YtelfiofnhchmbaaDoor.A
namespace Go.Proofs.YtelfiofnhchmbaaDoor.A
open Go.RowKit Go.Proofs.YtelfiofnhchmbaaDoor.B Go.Proofs.YtelfiofnhchmbaaDoorW.PrintWords Go.Proofs.YtelfiofnhchmbaaDoorW.PrintLast Go.Proofs.YtelfiofnhchmbaaDoorW.PrintMore
theorem digit_piece_fin : ∀ d : Fin 10, ((⟨#[48, 49, 50, 51, 52, 53, 54, 55, 56, 57]⟩ : ByteArray).extract d.val (d.val + 1)).data.toList = [UInt8.ofNat (48 + d.val)] := by decide +kernel
theorem digit_piece (d : Nat) (h : d < 10) : ((⟨#[48, 49, 50, 51, 52, 53, 54, 55, 56, 57]⟩ : ByteArray).extract d (d + 1)).data.toList = [UInt8.ofNat (48 + d)] := digit_piece_fin ⟨d, h⟩
theorem ba_of {s : ByteArray} {l : List UInt8} (h : s.data.toList = l) : s = ⟨l.toArray⟩ := ba_ext (by rw [h])
theorem tdiv_natAbs (m : Int) : (Int.tdiv m 10).natAbs = m.natAbs / 10 := by rw [Int.natAbs_tdiv]; rfl
theorem tdiv_i64 {m : Int} (h : I64 m) : I64 (Int.tdiv m 10) := by
  have := tdiv_natAbs m
  unfold I64 at *; omega
def tail01 (n : Int) (l : List UInt8) : List UInt8 := if n < 0 then 45 :: l else l
theorem ref01_Text_end (n m : Int) (s : ByteArray) (hs : s.size ≤ 100) : Ev (fun k => rf01_Text.j1 k n s m false) ⟨(tail01 n s.data.toList).toArray⟩ := by
  refine Ev.step (fun k => by rw [rf01_Text.j1]) ?_
  refine Ev.no (by decide) (Ev.both (fun h => Ev.yes (by omega) (Ev.is ?_)) (fun h => Ev.is ?_))
  · exact ba_of (by rw [ba_append, tail01, if_pos h]; rfl)
  · exact ba_of (by rw [tail01, if_neg h])
theorem ref01_Text_next (n m : Int) (s : ByteArray) (hs : s.size ≤ 100) (hm : I64 m) {r : ByteArray} {s' : ByteArray} (hs' : s'.data.toList = UInt8.ofNat (48 + m.natAbs % 10) :: s.data.toList)
    (h : Ev (fun k => rf01_Text.l0 k n s' (Int.tdiv m 10)) r) : Ev (fun k => rf01_Text.j1 k n s m true) r := by
  have hd := digit_piece (m.natAbs % 10) (by omega)
  have hI : I64 (Int.tdiv m 10) := tdiv_i64 hm
  have hw : wrap64 (Int.tdiv m 10) = Int.tdiv m 10 := wrap64_in hI
  have hmod : Int.tmod m 10 = if m < 0 then -((m.natAbs % 10 : Nat) : Int) else ((m.natAbs % 10 : Nat) : Int) := by
    split
    · rename_i h0
      rw [← Int.neg_neg m, Int.neg_tmod, Int.tmod_eq_emod_of_nonneg (by omega)]; omega
    · rw [Int.tmod_eq_emod_of_nonneg (by omega)]; omega
  refine Ev.step (fun k => by rw [rf01_Text.j1]) ?_
  refine Ev.yes rfl ?_
  rw [hmod, hw]
  obtain ⟨d, hdd⟩ : ∃ d, d = m.natAbs % 10 := ⟨_, rfl⟩
  have hd10 : d < 10 := by omega
  rw [← hdd] at hd hs' ⊢
  have w2 : wrap64 ((d : Int) + 1) = ((d + 1 : Nat) : Int) := by rw [wrap64_in (by unfold I64; omega)]; omega
  have hz : ((⟨#[48, 49, 50, 51, 52, 53, 54, 55, 56, 57]⟩ : ByteArray).extract d (d + 1)).size = 1 := by rw [size_eq', hd]; rfl
  have es : (⟨#[48, 49, 50, 51, 52, 53, 54, 55, 56, 57]⟩ : ByteArray).extract d (d + 1) ++ s = s' := ba_ext (by rw [ba_append, hd, hs']; rfl)
  by_cases hneg : (if m < 0 then -(d : Int) else (d : Int)) < 0
  · have hval : (if m < 0 then -(d : Int) else (d : Int)) = -(d : Int) := by split at hneg <;> rename_i h0 <;> simp only [h0, if_true, if_false] <;> omega
    rw [hval] at hneg ⊢
    have w1 : wrap64 (-(-(d : Int))) = (d : Int) := by rw [wrap64_in (by unfold I64; omega)]; omega
    rw [w1, w2]
    refine Ev.yes hneg (Ev.yes (by omega) (Ev.yes (by omega) (Ev.yes (by omega) ?_)))
    rw [Int.toNat_natCast, Int.toNat_natCast, es, hz]
    exact Ev.yes (by omega) h
  · have hval : (if m < 0 then -(d : Int) else (d : Int)) = (d : Int) := by split at hneg <;> rename_i h0 <;> simp only [h0, if_true, if_false] <;> omega
    rw [hval] at hneg ⊢
    rw [w2]
    refine Ev.no hneg (Ev.yes (by omega) (Ev.yes (by omega) (Ev.yes (by omega) ?_)))
    rw [Int.toNat_natCast, Int.toNat_natCast, es, hz]
    exact Ev.yes (by omega) h
theorem ref01_Text_loop (n : Int) : ∀ (u : Nat) (m : Int) (s : ByteArray), m.natAbs = u → I64 m → s.size + Lib.nDigits u ≤ 99 → (u ≠ 0 ∨ s.data.toList = []) →
    Ev (fun k => rf01_Text.l0 k n s m) ⟨(tail01 n (Lib.decDigits u ++ s.data.toList)).toArray⟩ := by
  intro u
  induction u using Nat.strongRecOn with
  | _ u ih =>
  intro m s hu hm hsz hne
  have hpos := Lib.nDigits_pos u
  have hgo : Ev (fun k => rf01_Text.j1 k n s m true) ⟨(tail01 n (Lib.decDigits u ++ s.data.toList)).toArray⟩ := by
    obtain ⟨s', hs'⟩ : ∃ s' : ByteArray, s'.data.toList = UInt8.ofNat (48 + m.natAbs % 10) :: s.data.toList := ⟨⟨(UInt8.ofNat (48 + m.natAbs % 10) :: s.data.toList).toArray⟩, by simp⟩
    have hsz' : s'.size = s.size + 1 := by rw [size_eq', hs', List.length_cons, ← size_eq']
    refine ref01_Text_next n m s (by omega) hm hs' ?_
    by_cases hsmall : u < 10
    ·
      have hz : Int.tdiv m 10 = 0 := by have := tdiv_natAbs m; omega
      rw [hz]
      refine Ev.step (fun k => by rw [rf01_Text.l0]) ?_
      refine Ev.yes rfl ?_
      rw [ByteArray.toList_eq, hs', show ((UInt8.ofNat (48 + m.natAbs % 10) :: s.data.toList) == ([] : List UInt8)) = false from rfl]
      have := ref01_Text_end n 0 s' (by omega)
      rw [hs'] at this
      rw [Lib.decDigits_one hsmall, hu, Nat.mod_eq_of_lt hsmall] at *
      exact this
    · have hb := Lib.nDigits_big hsmall
      have := ih (u / 10) (by omega) (Int.tdiv m 10) s' (by rw [tdiv_natAbs, hu]) (tdiv_i64 hm) (by omega) (.inl (by omega))
      rw [hs', hu] at this
      rw [Lib.decDigits, dif_neg hsmall, List.append_assoc]
      exact this
  refine Ev.step (fun k => by rw [rf01_Text.l0]) ?_
  refine Ev.both (fun h => ?_) (fun h => hgo)
  have : s.data.toList = [] := by
    rcases hne with h1 | h1
    · omega
    · exact h1
  have e : (s.toList == ([] : List UInt8)) = true := by rw [ByteArray.toList_eq, this]; rfl
  rw [e]
  exact hgo
theorem ref01_Text (n : Int) (h : I64 n) : Ev (fun k => rf01_Text.f k n) ⟨(Lib.itoa n).toArray⟩ := by
  have hn : Lib.nDigits n.natAbs ≤ 19 := nDigits_le 18 n.natAbs (by unfold I64 at h; omega)
  have := ref01_Text_loop n n.natAbs n (⟨#[]⟩ : ByteArray) rfl h (by show 0 + _ ≤ 99; omega) (.inr rfl)
  unfold rf01_Text.f
  have e : tail01 n (Lib.decDigits n.natAbs ++ (⟨#[]⟩ : ByteArray).data.toList) = Lib.itoa n := by
    unfold tail01
    by_cases h0 : n < 0
    · rw [if_pos h0, itoa_neg' h0]; simp
    · rw [if_neg h0, itoa_pos h0]; simp
  rw [e] at this
  exact this
end Go.Proofs.YtelfiofnhchmbaaDoor.A
namespace Go.Proofs.YtelfiofnhchmbaaDoor.A
open Go.RowKit Go.Proofs.YtelfiofnhchmbaaDoor.B Go.Proofs.YtelfiofnhchmbaaDoorW.PrintWords Go.Proofs.YtelfiofnhchmbaaDoorW.PrintLast Go.Proofs.YtelfiofnhchmbaaDoorW.PrintMore
set_option linter.unusedVariables false
set_option linter.unusedSimpArgs false
theorem ref03_Text_ev (n d : Int) (hn : I64 n) (hd : I64 d) : Ev (fun k => rf03_Text.f k n d) (fracTextS n d) := by
  unfold rf03_Text.f fracTextS fracTextL
  refine Ev.bind (ref03_Right_ev n d hn hd) (Ev.both (fun h => ?_) (fun h => Ev.is (by rw [if_neg h])))
  rw [if_pos h]
  refine Ev.both (fun h1 => ?_) (fun h1 => ?_)
  · rw [if_pos h1]
    exact Ev.bind (ref01_Text n hn) (Ev.is rfl)
  rw [if_neg h1]
  refine Ev.bind (ref01_Text n hn) ?_
  have s1 := itoa_size n hn
  have s2 := itoa_size d hd
  have z : ((⟨(Lib.itoa n).toArray⟩ : ByteArray) ++ (⟨#[47]⟩ : ByteArray)).size = (⟨(Lib.itoa n).toArray⟩ : ByteArray).size + 1 := by rw [ByteArray.size_append]; rfl
  refine Ev.yes (by omega) (Ev.bind (ref01_Text d hd) (Ev.yes (by rw [z]; omega) (Ev.is ?_)))
  congr 1
  apply ba_ext
  rw [ba_append, ba_append]
  show (Lib.itoa n ++ [47]) ++ Lib.itoa d = _
  rw [List.append_assoc]; rfl
theorem rtext_l0 (l : List S53) (hl : Cuts l) (hlen : l.length ≤ 1000) (n : Int) (hn : I64 n) (b : Bool) (d : Nat) : ∀ (i : Nat) (x2 : ByteArray), i + d = l.length → x2.size ≤ 100 * i →
    Ev (fun k => rf24_Text.l0 k x2 (i : Int) n b l) ((⟨(x2.data.toList ++ (textFrom l i d ++ endT n b)).toArray⟩ : ByteArray), (0 : Int)) := by
  induction d with
  | zero =>
    intro i x2 hi hx
    have s1 := itoa_size n hn
    have e1 : (⟨#[101, 111, 109, 32]⟩ : ByteArray).size = 4 := rfl
    have e2 : (⟨#[110, 101, 116, 32]⟩ : ByteArray).size = 4 := rfl
    refine Ev.step (fun k => by rw [rf24_Text.l0]) (Ev.no (by omega) ?_)
    cases b
    · refine Ev.no (by decide) (Ev.yes (by omega) (Ev.bind (ref01_Text n hn) (Ev.yes (by rw [piece_size, e2]; omega) (Ev.is ?_))))
      congr 1
      apply ba_ext
      rw [ba_append, ba_append]
      show (x2.data.toList ++ [110, 101, 116, 32]) ++ Lib.itoa n = _
      unfold endT
      rw [List.append_assoc]; rfl
    · refine Ev.yes rfl (Ev.yes (by omega) (Ev.bind (ref01_Text n hn) (Ev.yes (by rw [piece_size, e1]; omega) (Ev.is ?_))))
      congr 1
      apply ba_ext
      rw [ba_append, ba_append]
      show (x2.data.toList ++ [101, 111, 109, 32]) ++ Lib.itoa n = _
      unfold endT
      rw [List.append_assoc]; rfl
  | succ d ih =>
    intro i x2 hi hx
    refine Ev.step (fun k => by rw [rf24_Text.l0]) (Ev.yes (by omega) (Ev.yes (by omega) ?_))
    rw [rd_cut, w_succ i (by omega)]
    have hc := hl.at i
    have s0 := fracText_size _ _ hc.2.1 hc.2.2
    have s1 := itoa_size _ hc.1
    refine Ev.bind (ref03_Text_ev _ _ hc.2.1 hc.2.2) ?_
    have e1 : (⟨#[32]⟩ : ByteArray).size = 1 := rfl
    refine Ev.yes (by omega) (Ev.bind (ref01_Text _ hc.1) (Ev.yes (by rw [piece_size, e1]; omega) (Ev.yes (by rw [piece_size, piece_size, e1]; omega) (Ev.yes (by rw [piece_size, piece_size, piece_size, e1]; omega) ?_))))
    have := ih (i + 1) (x2 ++ ((((fracTextS (cutAt l i).f1.f0 (cutAt l i).f1.f1).1 ++ (⟨#[32]⟩ : ByteArray)) ++ (⟨(Lib.itoa (cutAt l i).f0).toArray⟩ : ByteArray)) ++ (⟨#[32]⟩ : ByteArray))) (by omega) (by rw [piece_size, piece_size, piece_size, piece_size, e1]; omega)
    rw [ttext_next x2 _ _ _ (cutAt l i) rfl rfl, ← List.append_assoc (cutT (cutAt l i))] at this
    exact this
theorem ref24_Text_ev (n : Int) (hn : I64 n) (b : Bool) (l : List S53) (hl : Cuts l) (hlen : l.length ≤ 1000) : Ev (fun k => rf24_Text.f k n b l) (termsTextS n b l) := by
  unfold rf24_Text.f termsTextS
  refine Ev.bind (ref24_Right_ev n b l hl hlen) (Ev.both (fun h => ?_) (fun h => ?_))
  · rw [if_pos h]
    exact rtext_l0 l hl hlen n hn b l.length 0 ⟨#[]⟩ (by omega) (Nat.zero_le _)
  · rw [if_neg h]
    exact Ev.is rfl
end Go.Proofs.YtelfiofnhchmbaaDoor.A
