-- By pack.py, a program of this session's: declarations of this seat's texts, put together for a claim.
import Derived.Test.YtelfiofnhchmbaaDoorZ10
namespace Go.Proofs.YtelfiofnhchmbaaDoor.A
open Go.RowKit Go.Proofs.YtelfiofnhchmbaaDoor.B Go.Proofs.YtelfiofnhchmbaaDoorW.PrintWords Go.Proofs.YtelfiofnhchmbaaDoorW.PrintLast Go.Proofs.YtelfiofnhchmbaaDoorW.PrintMore
theorem zq70 {P : Prop} (h : P := by (with_reducible repeat (first | refine blk_drewN ?_ _ | refine blk_drew ?_ | refine blk_alloc ?_ _)); exact BK465.out) : P := h
theorem zq71 {P : Prop} (h : P := by repeat (first | (with_reducible first | exact HB.out | apply below_alloc | apply pw_below_drewN | apply below_drew1 | refine below_set ?_ GE465.out) | exact HB.out)) : P := h
theorem zq72 {P : Prop} (h : P := by repeat (first | (with_reducible first | exact HB.out | apply below_alloc | apply pw_below_drewN | apply below_drew1 | refine below_set ?_ GE465.out | refine below_set ?_ GE476.out) | exact HB.out)) : P := h
theorem zq74 {P : Prop} (h : P := by (with_reducible repeat (first | refine blk_drewN ?_ _ | refine blk_drew ?_ | refine blk_alloc ?_ _)); refine blk_far ?_ NB465_484.out _; (with_reducible repeat (first | refine blk_drewN ?_ _ | refine blk_drew ?_ | refine blk_alloc ?_ _)); refine blk_far ?_ NB465_484.out _; (with_reducible repeat (first | refine blk_drewN ?_ _ | refine blk_drew ?_ | refine blk_alloc ?_ _)); refine blk_far ?_ NB465_484.out _; (with_reducible repeat (first | refine blk_drewN ?_ _ | refine blk_drew ?_ | refine blk_alloc ?_ _)); exact BK465.out) : P := h
theorem zq75 {P : Prop} (h : P := by (with_reducible repeat (first | refine blk_drewN ?_ _ | refine blk_drew ?_ | refine blk_alloc ?_ _)); refine blk_put (cs := #[.int .i64 t478, .bool t479, .slice none 0 0]) ?_ 2 _ rfl; (with_reducible repeat (first | refine blk_drewN ?_ _ | refine blk_drew ?_ | refine blk_alloc ?_ _)); refine blk_put (cs := #[.int .i64 t478, .bool false, .slice none 0 0]) ?_ 1 _ rfl; (with_reducible repeat (first | refine blk_drewN ?_ _ | refine blk_drew ?_ | refine blk_alloc ?_ _)); refine blk_put (cs := #[.int .i64 0, .bool false, .slice none 0 0]) ?_ 0 _ rfl; (with_reducible repeat (first | refine blk_drewN ?_ _ | refine blk_drew ?_ | refine blk_alloc ?_ _)); exact BK484.out) : P := h
theorem zq76 {P : Prop} (h : P := by repeat (first | (with_reducible first | exact HB.out | apply below_alloc | apply pw_below_drewN | apply below_drew1 | refine below_set ?_ GE465.out | refine below_set ?_ GE484.out) | exact HB.out)) : P := h
end Go.Proofs.YtelfiofnhchmbaaDoor.A
namespace Go.Proofs.YtelfiofnhchmbaaDoor.A
open Go.RowKit Go.Proofs.YtelfiofnhchmbaaDoor.B Go.Proofs.YtelfiofnhchmbaaDoorW.PrintWords Go.Proofs.YtelfiofnhchmbaaDoorW.PrintLast Go.Proofs.YtelfiofnhchmbaaDoorW.PrintMore
attribute [local go_sem] max2_int min2_int max_two min_two max_three min_three max_four min_four
set_option linter.unusedVariables false
set_option linter.unusedSimpArgs false
set_option maxHeartbeats 8000000
set_option maxRecDepth 100000
mutual
def lw24_TermsBack.j0 : Nat → ByteArray → Bool → Int → Bool → List (S53) → Option (Bool)
 | 0, _, _, _, _, _ => none
 | k + 1, x1, x21, x466000, x466001, x466002 => if x21 = true then ((lw24_lives.f).bind fun t466 => (some t466)) else ((terms_Text.f k x466000 x466001 x466002).bind fun bt467 => ((terms_Right.f k x466000 x466001 x466002).bind fun t469 => (if ((bt467.2 == 0) != t469) = true then (some false) else (if bt467.2 = 0 then ((terms_Parse.f k bt467.1).bind fun bt470 => (if bt470.2.2.2 = 0 then ((rf24_Same.f k bt470.1 bt470.2.1 bt470.2.2.1 x466000 x466001 x466002).bind fun t477 => (if t477 = true then (lw24_TermsBack.j1 k x1) else (some false))) else (some false))) else (lw24_TermsBack.j1 k x1)))))
def lw24_TermsBack.j1 : Nat → ByteArray → Option (Bool)
 | 0, _ => none
 | k + 1, x1 => (terms_Parse.f k x1).bind fun bt478 => (if bt478.2.2.2 = 0 then ((terms_Text.f k bt478.1 bt478.2.1 bt478.2.2.1).bind fun bt485 => (if bt485.2 = 0 then (if bt485.1.toList = x1.toList then ((lw24_lives.f).bind fun t487 => (some t487)) else (some false)) else (some false))) else ((lw24_lives.f).bind fun t488 => (some t488)))
end
def lw24_TermsBack.f (k : Nat) (a0_0 : Int) (a0_1 : Bool) (l0_2 : List (S53)) (a1 : ByteArray) : Option (Bool) := if (l0_2.length : Int) > 20 then (lw24_TermsBack.j0 k a1 true a0_0 a0_1 l0_2) else (lw24_TermsBack.j0 k a1 (decide ((a1.size : Int) > 400)) a0_0 a0_1 l0_2)
theorem lw24_TermsBack.calls (k : Nat) (a0_0 : Int) (a0_1 : Bool) (A0_2 : Option Addr) (c0_2 : Nat) (l0_2 : List (S53)) (a1 : ByteArray) (r : Bool) (w : World) (hr0_2 : Kd.C k53 w A0_2 l0_2.length l0_2) (hc0_2 : l0_2.length ≤ c0_2) (h : lw24_TermsBack.f k a0_0 a0_1 l0_2 a1 = some r) (hG : Gl w) :
  Calls Tryd.prog 7 #[.agg #[.int .i64 a0_0, .bool a0_1, .slice A0_2 l0_2.length c0_2], .string a1] w fun e w' => e = .returned (.bool r) ∧ Below w.heap.size w w' := by
 have HG := sd hG
 clear hG
 have hu24 := Tryd.underlying24
 have HR0_2 := sd hr0_2
 have HC0_2 := sd hc0_2
 clear hr0_2 hc0_2
 have HB := sd (Below.refl w.heap.size w)
 have H := h
 clear h
 unfold lw24_TermsBack.f at H
 have HC3 := sd H
 clear H
 go_enter Tryd.func7, Tryd.ntmps7
 go_upto_region 1 with (first | ((with_reducible refine gate_dst (N := 2) rfl ?_); (try (refine gate_guard (by rfl) ?_; dsimp only)); refine bxA 2 #[.int .i64 a0_0, .bool a0_1, .slice A0_2 l0_2.length c0_2] 24 ?_; intro gb465 hg w4 hbox hb; have BK465 := sd (hbox); have GW465 := gem hg HB; have GE465 := GW465; replace HB := hbm HB hb; clear hb hbox hg))
 (try simp only [Act.put, List.setIfInBounds_toArray, List.set_cons_zero, List.set_cons_succ])
 go_cut [21] (fun v21 wc => ∃ (kq : Nat) (x21_2 : Bool), v21 = .bool x21_2 ∧ Aside0 (lw24_TermsBack.j0 kq a1 x21_2 a0_0 a0_1 l0_2 = some r) ∧ Aside0 (kq ≤ k) ∧ Aside0 (wc.heap[gb465]? = some (.cells #[.int .i64 a0_0, .bool a0_1, (.slice A0_2 l0_2.length c0_2)] 24 (0, 0))) ∧ Aside0 (Below w.heap.size w wc))
 case first =>
  have H := HC3.out
  clear HC3
  replace H := ifI H
  rcases H with ⟨c5, H⟩ | ⟨c5, H⟩
  ·have c5b0 : decide (20 < (l0_2.length : Int)) = true := decide_eq_true c5
   have c5b1 : decide (20 < l0_2.length) = true := decide_eq_true (by omega)
   clear c5
   (first | rw [c5b0] | (simp only [i64_w, i32_w]; rw [c5b0]) | skip)
   have H' := sd H
   clear H
   obtain ⟨_, _, _, _, _, _⟩ := bk3 BK465
   go_wp2
   go_meet
   case rel => exact ⟨_, (true), zq1, H', ⟨by first | omega | exact Nat.le_refl _⟩, ⟨zq70⟩, ⟨zq71⟩⟩
  have c5b0 : decide (20 < (l0_2.length : Int)) = false := decide_eq_false c5
  have c5b1 : decide (20 < l0_2.length) = false := decide_eq_false (by omega)
  clear c5
  (first | rw [c5b0] | (simp only [i64_w, i32_w]; rw [c5b0]) | skip)
  have H' := sd H
  clear H
  obtain ⟨_, _, _, _, _, _⟩ := bk3 BK465
  go_wp2
  go_meet
  case rel => exact ⟨_, (decide ((a1.size : Int) > 400)), zq1, H', ⟨by first | omega | exact Nat.le_refl _⟩, ⟨zq70⟩, ⟨zq71⟩⟩
 case rest =>
  clear HC3
  try clear p2
  try clear c5
  try clear c5b0
  try clear c5b1
  try clear c7
  try clear hcz6_0
  try clear hcz6_1
  try clear hcz6_2
  try clear hcz7_0
  try clear hcz7_1
  try clear hcz7_2
  try clear hfz6_0
  try clear hfz6_1
  try clear hfz6_2
  try clear hfz7_0
  try clear hfz7_1
  try clear hfz7_2
  obtain ⟨kq, x21_2, rfl, HA, HJ2, BK465, HB⟩ := hcut
  cases kq with
  | zero => exact absurd HA.out (by simp [lw24_TermsBack.j0])
  | succ kj2 =>
   have H := HA.out
   clear HA
   simp only [lw24_TermsBack.j0] at H
   by_cases c8 : x21_2 = true
   ·subst c8
    rw [if_pos rfl] at H
    replace H := bdI H
    obtain ⟨t466, A9, H⟩ := H
    (try dsimp only at H)
    obtain rfl := Option.some.inj H
    go_wp2_with (first | ((with_reducible refine gate_callee (f := 9) rfl ?_); refine gL 22 Tryd.func9 #[] ?_; (with_reducible refine (lw24_lives.calls  t466 _ A9.out (gl_below HG.out (by repeat (first | (with_reducible first | exact HB.out | exact Below.refl _ _ | apply below_alloc | apply pw_below_drewN | apply below_drew1 | refine below_set ?_ GE465.out) | exact HB.out)))).mono ?_); rintro e w10 ⟨rfl, hb⟩; refine ⟨_, rfl, ?_⟩; replace BK465 := bkm BK465 hb; replace HB := hbm HB hb; clear hb))
    go_ret
    exact ⟨zq8, zq71⟩
   replace c8 := Bool.eq_false_iff.mpr c8
   subst c8
   rw [if_neg Bool.false_ne_true] at H
   replace H := bdI H
   obtain ⟨⟨t467, t468⟩, A11, H⟩ := H
   (try dsimp only at H)
   replace H := bdI H
   obtain ⟨t469, A12, H⟩ := H
   (try dsimp only at H)
   replace H := ifI H
   rcases H with ⟨c13, H⟩ | ⟨c13, H⟩
   ·have c13b0 : ((t468 == 0) != t469) = true := c13
    (try (have c13b1 : decide ((t468 == 0) = t469) = false := by simpa using c13))
    (try (have c13b2 : ((t468 == 0) == t469) = false := by simpa using c13))
    (try (have c13b3 : ¬ ((t468 == 0) = t469) := by simpa using c13))
    clear c13
    obtain rfl := Option.some.inj H
    obtain ⟨_, _, _, _, _, _⟩ := bk3 BK465
    go_wp2_with (first | ((with_reducible refine gate_callee (f := 10) rfl ?_); refine gL 25 Tryd.func10 #[.agg #[.int .i64 a0_0, .bool a0_1, .slice A0_2 l0_2.length c0_2]] ?_; (with_reducible refine (terms_Text.calls kj2 a0_0 a0_1 _ _ l0_2 t467 t468 _ ?side1 ?side2 A11.out).mono ?_); (case side1 => exact zq32); (case side2 => exact HC0_2.out); rintro e w15 ⟨rfl, hb⟩; refine ⟨_, rfl, ?_⟩; replace BK465 := bkm BK465 hb; replace HB := hbm HB hb; clear hb; obtain ⟨_, _, _, _, _, _⟩ := bk3 BK465) | ((with_reducible refine gate_callee (f := 12) rfl ?_); refine gL 31 Tryd.func12 #[.agg #[.int .i64 a0_0, .bool a0_1, .slice A0_2 l0_2.length c0_2]] ?_; (with_reducible refine (terms_Right.calls kj2 a0_0 a0_1 _ _ l0_2 t469 _ ?side1 ?side2 A12.out).mono ?_); (case side1 => exact zq32); (case side2 => exact HC0_2.out); rintro e w17 ⟨rfl, hb⟩; refine ⟨_, rfl, ?_⟩; replace BK465 := bkm BK465 hb; replace HB := hbm HB hb; clear hb))
    go_ret
    exact ⟨zq8, zq71⟩
   have c13b0 : ((t468 == 0) != t469) = false := by simpa using c13
   (try (have c13b1 : decide ((t468 == 0) = t469) = true := by simpa using c13))
   (try (have c13b2 : ((t468 == 0) == t469) = true := by simpa using c13))
   clear c13
   have HC18 := sd H
   clear H
   obtain ⟨_, _, _, _, _, _⟩ := bk3 BK465
   go_upto_if 34 with (first | ((with_reducible refine gate_callee (f := 10) rfl ?_); refine gL 25 Tryd.func10 #[.agg #[.int .i64 a0_0, .bool a0_1, .slice A0_2 l0_2.length c0_2]] ?_; (with_reducible refine (terms_Text.calls kj2 a0_0 a0_1 _ _ l0_2 t467 t468 _ ?side1 ?side2 A11.out).mono ?_); (case side1 => exact zq32); (case side2 => exact HC0_2.out); rintro e w20 ⟨rfl, hb⟩; refine ⟨_, rfl, ?_⟩; replace BK465 := bkm BK465 hb; replace HB := hbm HB hb; clear hb; obtain ⟨_, _, _, _, _, _⟩ := bk3 BK465) | ((with_reducible refine gate_callee (f := 12) rfl ?_); refine gL 31 Tryd.func12 #[.agg #[.int .i64 a0_0, .bool a0_1, .slice A0_2 l0_2.length c0_2]] ?_; (with_reducible refine (terms_Right.calls kj2 a0_0 a0_1 _ _ l0_2 t469 _ ?side1 ?side2 A12.out).mono ?_); (case side1 => exact zq32); (case side2 => exact HC0_2.out); rintro e w22 ⟨rfl, hb⟩; refine ⟨_, rfl, ?_⟩; replace BK465 := bkm BK465 hb; replace HB := hbm HB hb; clear hb))
   (try simp only [Act.put, List.setIfInBounds_toArray, List.set_cons_zero, List.set_cons_succ])
   go_cut [] (fun wc => ∃ (kq : Nat), Aside0 (lw24_TermsBack.j1 kq a1 = some r) ∧ Aside0 (kq ≤ kj2) ∧ Aside0 (wc.heap[gb465]? = some (.cells #[.int .i64 a0_0, .bool a0_1, (.slice A0_2 l0_2.length c0_2)] 24 (0, 0))) ∧ Aside0 (Below w.heap.size w wc))
   case first =>
    have H := HC18.out
    clear HC18
    replace H := ifI H
    rcases H with ⟨c23, H⟩ | ⟨c23, H⟩
    ·obtain ⟨c23b0, c23b1⟩ := eqI c23
     clear c23
     (first | rw [c23b0] | (simp only [i64_w, i32_w]; rw [c23b0]) | skip)
     replace H := bdI H
     obtain ⟨⟨t470, t471, t472, t475⟩, A24, H⟩ := H
     (try dsimp only at H)
     replace H := ifI H
     rcases H with ⟨c25, H⟩ | ⟨c25, H⟩
     ·obtain ⟨c25b0, c25b1⟩ := eqI c25
      clear c25
      replace H := bdI H
      obtain ⟨t477, A26, H⟩ := H
      (try dsimp only at H)
      by_cases c27 : t477 = true
      ·subst c27
       rw [if_pos rfl] at H
       have H' := sd H
       clear H
       go_wp2_with (first | ((with_reducible refine gate_callee (f := 18) rfl ?_); refine gL 37 Tryd.func18 #[.string t467] ?_; (with_reducible refine (terms_Parse.calls kj2 t467 t470 t471 t472 t475 _ A24.out).mono ?_); rintro e w28 ⟨v473, rfl, ho0, hb⟩; refine ⟨_, rfl, ?_⟩; have HO474 := sd (Kd.R_lower ho0 (below_size zq71)); replace BK465 := bkm BK465 hb; replace HB := hbm HB hb; clear hb; (try clear ho0)) | ((with_reducible refine gate_dst (N := 7) rfl ?_); (try (refine gate_guard (by rfl) ?_; dsimp only)); refine bxA 7 #[.int .i64 0, .bool false, .slice none 0 0] 24 ?_; intro gb476 hg w29 hbox hb; have BK476 := sd (hbox); have GW476 := gem hg HB; have GE476 := GW476; have NB465_476 := nlm hg BK465; have NB476_465 := ngm hg BK465; replace HO474 := rbm HO474 hb; replace BK465 := bkm BK465 hb; replace HB := hbm HB hb; clear hb hbox hg; have hnb30 := NB476_465.out; have hnc30 := NB465_476.out; obtain ⟨_, _, _, _, _, _⟩ := bk3 BK476; obtain ⟨Ao32, co32, eo32⟩ := Kd.R_slice HO474.out; subst eo32; obtain ⟨_, _, _, _, _, _⟩ := bk3 BK465) | (go_at_call 20; (with_reducible refine (rf24_Same.calls kj2 t470 t471 _ _ t472 a0_0 a0_1 _ _ l0_2 true _ ?side1 ?side2 ?side3 ?side4 A26.out).mono ?_); (case side1 => exact (by refine (Kd.R_reads' (e := 53) (base := w.heap.size) (ok := fun k_ => True) (n := t472.length) (c := co32) ?_).2.2; exact (by (with_reducible repeat (first | apply Kd.R_alloc | apply Kd.R_drewN | apply Kd.R_drew)); exact (Kd.R_mono (Kd.R_far (p := ⟨gb476, 2, none⟩) (Kd.R_far (p := ⟨gb476, 1, none⟩) (Kd.R_far (p := ⟨gb476, 0, none⟩) (Kd.R_types HO474.out BK476.out (by decide)) (fun _ hk => hk.2) (.int .i64 t470)) (fun _ hk => hk.2) (.bool t471)) (fun _ hk => hk.2) (.slice Ao32 t472.length co32)) (fun _ h_ => h_.1))))); (case side2 => exact (Kd.R_reads' HO474.out).2.1); (case side3 => exact (by exact Kd.C_below HR0_2.out zq72)); (case side4 => exact HC0_2.out); rintro e w34 ⟨rfl, hb⟩; replace HO474 := sd (Kd.R_below (by (with_reducible repeat (first | apply Kd.R_alloc | apply Kd.R_drewN | apply Kd.R_drew)); exact (Kd.R_mono (Kd.R_far (p := ⟨gb476, 2, none⟩) (Kd.R_far (p := ⟨gb476, 1, none⟩) (Kd.R_far (p := ⟨gb476, 0, none⟩) (Kd.R_types HO474.out BK476.out (by decide)) (fun _ hk => hk.2) (.int .i64 t470)) (fun _ hk => hk.2) (.bool t471)) (fun _ hk => hk.2) (.slice Ao32 t472.length co32)) (fun _ h_ => h_.1))) hb); replace BK465 := sd (blk_below (g := gb465) (o := .cells #[.int .i64 a0_0, .bool a0_1, .slice A0_2 l0_2.length c0_2] 24 (0, 0)) (by (with_reducible repeat (first | refine blk_drewN ?_ _ | refine blk_drew ?_ | refine blk_alloc ?_ _)); refine blk_far ?_ NB465_476.out _; (with_reducible repeat (first | refine blk_drewN ?_ _ | refine blk_drew ?_ | refine blk_alloc ?_ _)); refine blk_far ?_ NB465_476.out _; (with_reducible repeat (first | refine blk_drewN ?_ _ | refine blk_drew ?_ | refine blk_alloc ?_ _)); refine blk_far ?_ NB465_476.out _; (with_reducible repeat (first | refine blk_drewN ?_ _ | refine blk_drew ?_ | refine blk_alloc ?_ _)); exact BK465.out) hb); replace BK476 := sd (blk_below (g := gb476) (o := .cells #[.int .i64 t470, .bool t471, .slice Ao32 t472.length co32] 24 (0, 0)) (by (with_reducible repeat (first | refine blk_drewN ?_ _ | refine blk_drew ?_ | refine blk_alloc ?_ _)); refine blk_put (cs := #[.int .i64 t470, .bool t471, .slice none 0 0]) ?_ 2 _ rfl; (with_reducible repeat (first | refine blk_drewN ?_ _ | refine blk_drew ?_ | refine blk_alloc ?_ _)); refine blk_put (cs := #[.int .i64 t470, .bool false, .slice none 0 0]) ?_ 1 _ rfl; (with_reducible repeat (first | refine blk_drewN ?_ _ | refine blk_drew ?_ | refine blk_alloc ?_ _)); refine blk_put (cs := #[.int .i64 0, .bool false, .slice none 0 0]) ?_ 0 _ rfl; (with_reducible repeat (first | refine blk_drewN ?_ _ | refine blk_drew ?_ | refine blk_alloc ?_ _)); exact BK476.out) hb); replace HB := hbm HB hb; clear hb))
       go_meet
       case rel => exact ⟨_, H', ⟨zq73⟩, ⟨zq70⟩, ⟨zq72⟩⟩
      replace c27 := Bool.eq_false_iff.mpr c27
      subst c27
      rw [if_neg Bool.false_ne_true] at H
      obtain rfl := Option.some.inj H
      go_wp2_with (first | ((with_reducible refine gate_callee (f := 18) rfl ?_); refine gL 37 Tryd.func18 #[.string t467] ?_; (with_reducible refine (terms_Parse.calls kj2 t467 t470 t471 t472 t475 _ A24.out).mono ?_); rintro e w35 ⟨v473, rfl, ho0, hb⟩; refine ⟨_, rfl, ?_⟩; have HO474 := sd (Kd.R_lower ho0 (below_size zq71)); replace BK465 := bkm BK465 hb; replace HB := hbm HB hb; clear hb; (try clear ho0)) | ((with_reducible refine gate_dst (N := 7) rfl ?_); (try (refine gate_guard (by rfl) ?_; dsimp only)); refine bxA 7 #[.int .i64 0, .bool false, .slice none 0 0] 24 ?_; intro gb476 hg w36 hbox hb; have BK476 := sd (hbox); have GW476 := gem hg HB; have GE476 := GW476; have NB465_476 := nlm hg BK465; have NB476_465 := ngm hg BK465; replace HO474 := rbm HO474 hb; replace BK465 := bkm BK465 hb; replace HB := hbm HB hb; clear hb hbox hg; have hnb37 := NB476_465.out; have hnc37 := NB465_476.out; obtain ⟨_, _, _, _, _, _⟩ := bk3 BK476; obtain ⟨Ao39, co39, eo39⟩ := Kd.R_slice HO474.out; subst eo39; obtain ⟨_, _, _, _, _, _⟩ := bk3 BK465) | (go_at_call 20; (with_reducible refine (rf24_Same.calls kj2 t470 t471 _ _ t472 a0_0 a0_1 _ _ l0_2 false _ ?side1 ?side2 ?side3 ?side4 A26.out).mono ?_); (case side1 => exact (by refine (Kd.R_reads' (e := 53) (base := w.heap.size) (ok := fun k_ => True) (n := t472.length) (c := co39) ?_).2.2; exact (by (with_reducible repeat (first | apply Kd.R_alloc | apply Kd.R_drewN | apply Kd.R_drew)); exact (Kd.R_mono (Kd.R_far (p := ⟨gb476, 2, none⟩) (Kd.R_far (p := ⟨gb476, 1, none⟩) (Kd.R_far (p := ⟨gb476, 0, none⟩) (Kd.R_types HO474.out BK476.out (by decide)) (fun _ hk => hk.2) (.int .i64 t470)) (fun _ hk => hk.2) (.bool t471)) (fun _ hk => hk.2) (.slice Ao39 t472.length co39)) (fun _ h_ => h_.1))))); (case side2 => exact (Kd.R_reads' HO474.out).2.1); (case side3 => exact (by exact Kd.C_below HR0_2.out zq72)); (case side4 => exact HC0_2.out); rintro e w41 ⟨rfl, hb⟩; replace HO474 := sd (Kd.R_below (by (with_reducible repeat (first | apply Kd.R_alloc | apply Kd.R_drewN | apply Kd.R_drew)); exact (Kd.R_mono (Kd.R_far (p := ⟨gb476, 2, none⟩) (Kd.R_far (p := ⟨gb476, 1, none⟩) (Kd.R_far (p := ⟨gb476, 0, none⟩) (Kd.R_types HO474.out BK476.out (by decide)) (fun _ hk => hk.2) (.int .i64 t470)) (fun _ hk => hk.2) (.bool t471)) (fun _ hk => hk.2) (.slice Ao39 t472.length co39)) (fun _ h_ => h_.1))) hb); replace BK465 := sd (blk_below (g := gb465) (o := .cells #[.int .i64 a0_0, .bool a0_1, .slice A0_2 l0_2.length c0_2] 24 (0, 0)) (by (with_reducible repeat (first | refine blk_drewN ?_ _ | refine blk_drew ?_ | refine blk_alloc ?_ _)); refine blk_far ?_ NB465_476.out _; (with_reducible repeat (first | refine blk_drewN ?_ _ | refine blk_drew ?_ | refine blk_alloc ?_ _)); refine blk_far ?_ NB465_476.out _; (with_reducible repeat (first | refine blk_drewN ?_ _ | refine blk_drew ?_ | refine blk_alloc ?_ _)); refine blk_far ?_ NB465_476.out _; (with_reducible repeat (first | refine blk_drewN ?_ _ | refine blk_drew ?_ | refine blk_alloc ?_ _)); exact BK465.out) hb); replace BK476 := sd (blk_below (g := gb476) (o := .cells #[.int .i64 t470, .bool t471, .slice Ao39 t472.length co39] 24 (0, 0)) (by (with_reducible repeat (first | refine blk_drewN ?_ _ | refine blk_drew ?_ | refine blk_alloc ?_ _)); refine blk_put (cs := #[.int .i64 t470, .bool t471, .slice none 0 0]) ?_ 2 _ rfl; (with_reducible repeat (first | refine blk_drewN ?_ _ | refine blk_drew ?_ | refine blk_alloc ?_ _)); refine blk_put (cs := #[.int .i64 t470, .bool false, .slice none 0 0]) ?_ 1 _ rfl; (with_reducible repeat (first | refine blk_drewN ?_ _ | refine blk_drew ?_ | refine blk_alloc ?_ _)); refine blk_put (cs := #[.int .i64 0, .bool false, .slice none 0 0]) ?_ 0 _ rfl; (with_reducible repeat (first | refine blk_drewN ?_ _ | refine blk_drew ?_ | refine blk_alloc ?_ _)); exact BK476.out) hb); replace HB := hbm HB hb; clear hb))
      go_ret
      exact ⟨zq8, zq72⟩
     obtain ⟨c25b0, c25b1⟩ := neI c25
     obtain rfl := Option.some.inj H
     go_wp2_with (first | ((with_reducible refine gate_callee (f := 18) rfl ?_); refine gL 37 Tryd.func18 #[.string t467] ?_; (with_reducible refine (terms_Parse.calls kj2 t467 t470 t471 t472 t475 _ A24.out).mono ?_); rintro e w42 ⟨v473, rfl, ho0, hb⟩; refine ⟨_, rfl, ?_⟩; have HO474 := sd (Kd.R_lower ho0 (below_size zq71)); replace BK465 := bkm BK465 hb; replace HB := hbm HB hb; clear hb; (try clear ho0)) | ((with_reducible refine gate_dst (N := 7) rfl ?_); (try (refine gate_guard (by rfl) ?_; dsimp only)); refine bxA 7 #[.int .i64 0, .bool false, .slice none 0 0] 24 ?_; intro gb476 hg w43 hbox hb; have BK476 := sd (hbox); have GW476 := gem hg HB; have GE476 := GW476; have NB465_476 := nlm hg BK465; have NB476_465 := ngm hg BK465; replace HO474 := rbm HO474 hb; replace BK465 := bkm BK465 hb; replace HB := hbm HB hb; clear hb hbox hg; have hnb44 := NB476_465.out; have hnc44 := NB465_476.out; obtain ⟨_, _, _, _, _, _⟩ := bk3 BK476; obtain ⟨Ao46, co46, eo46⟩ := Kd.R_slice HO474.out; subst eo46))
     go_ret
     exact ⟨zq8, zq72⟩
    obtain ⟨c23b0, c23b1⟩ := neI c23
    (first | rw [c23b0] | (simp only [i64_w, i32_w]; rw [c23b0]) | skip)
    have H' := sd H
    clear H
    go_wp2
    go_meet
    case rel => exact ⟨_, H', ⟨zq73⟩, ⟨zq70⟩, ⟨zq71⟩⟩
   case rest =>
    clear HC18
    try clear c1
    try clear c2
    try clear p2
    try clear c3
    try clear c4
    try clear c5
    try clear c5b0
    try clear c5b1
    try clear c7
    try clear c8
    try clear c9
    try clear c10
    try clear c12
    try clear c13
    try clear c13b0
    try clear c13b1
    try clear c13b2
    try clear c18
    try clear c23
    try clear c23b0
    try clear c23b1
    try clear c25
    try clear c25b0
    try clear c25b1
    try clear c27
    try clear c30
    try clear c37
    try clear c44
    try clear hcz14_0
    try clear hcz14_1
    try clear hcz14_2
    try clear hcz16_0
    try clear hcz16_1
    try clear hcz16_2
    try clear hcz19_0
    try clear hcz19_1
    try clear hcz19_2
    try clear hcz21_0
    try clear hcz21_1
    try clear hcz21_2
    try clear hcz31_0
    try clear hcz31_1
    try clear hcz31_2
    try clear hcz33_0
    try clear hcz33_1
    try clear hcz33_2
    try clear hcz38_0
    try clear hcz38_1
    try clear hcz38_2
    try clear hcz40_0
    try clear hcz40_1
    try clear hcz40_2
    try clear hcz45_0
    try clear hcz45_1
    try clear hcz45_2
    try clear hcz6_0
    try clear hcz6_1
    try clear hcz6_2
    try clear hcz7_0
    try clear hcz7_1
    try clear hcz7_2
    try clear hfz14_0
    try clear hfz14_1
    try clear hfz14_2
    try clear hfz16_0
    try clear hfz16_1
    try clear hfz16_2
    try clear hfz19_0
    try clear hfz19_1
    try clear hfz19_2
    try clear hfz21_0
    try clear hfz21_1
    try clear hfz21_2
    try clear hfz31_0
    try clear hfz31_1
    try clear hfz31_2
    try clear hfz33_0
    try clear hfz33_1
    try clear hfz33_2
    try clear hfz38_0
    try clear hfz38_1
    try clear hfz38_2
    try clear hfz40_0
    try clear hfz40_1
    try clear hfz40_2
    try clear hfz45_0
    try clear hfz45_1
    try clear hfz45_2
    try clear hfz6_0
    try clear hfz6_1
    try clear hfz6_2
    try clear hfz7_0
    try clear hfz7_1
    try clear hfz7_2
    try clear p2
    obtain ⟨kq, HA, HJ17, BK465, HB⟩ := hcut
    cases kq with
    | zero => exact absurd HA.out (by simp [lw24_TermsBack.j1])
    | succ kj17 =>
     have H := HA.out
     clear HA
     simp only [lw24_TermsBack.j1] at H
     replace H := bdI H
     obtain ⟨⟨t478, t479, t480, t483⟩, A47, H⟩ := H
     (try dsimp only at H)
     replace H := ifI H
     rcases H with ⟨c48, H⟩ | ⟨c48, H⟩
     ·obtain ⟨c48b0, c48b1⟩ := eqI c48
      clear c48
      replace H := bdI H
      obtain ⟨⟨t485, t486⟩, A49, H⟩ := H
      (try dsimp only at H)
      replace H := ifI H
      rcases H with ⟨c50, H⟩ | ⟨c50, H⟩
      ·obtain ⟨c50b0, c50b1⟩ := eqI c50
       clear c50
       replace H := ifI H
       rcases H with ⟨c51, H⟩ | ⟨c51, H⟩
       ·obtain ⟨c51b0, c51b1⟩ := eqI c51
        clear c51
        replace H := bdI H
        obtain ⟨t487, A52, H⟩ := H
        (try dsimp only at H)
        obtain rfl := Option.some.inj H
        go_wp2_with (first | ((with_reducible refine gate_callee (f := 18) rfl ?_); refine gL 50 Tryd.func18 #[.string a1] ?_; (with_reducible refine (terms_Parse.calls kj17 a1 t478 t479 t480 t483 _ A47.out).mono ?_); rintro e w53 ⟨v481, rfl, ho0, hb⟩; refine ⟨_, rfl, ?_⟩; have HO482 := sd (Kd.R_lower ho0 (below_size zq71)); replace BK465 := bkm BK465 hb; replace HB := hbm HB hb; clear hb; (try clear ho0)) | ((with_reducible refine gate_dst (N := 9) rfl ?_); (try (refine gate_guard (by rfl) ?_; dsimp only)); refine bxA 9 #[.int .i64 0, .bool false, .slice none 0 0] 24 ?_; intro gb484 hg w54 hbox hb; have BK484 := sd (hbox); have GW484 := gem hg HB; have GE484 := GW484; have NB465_484 := nlm hg BK465; have NB484_465 := ngm hg BK465; replace HO482 := rbm HO482 hb; replace BK465 := bkm BK465 hb; replace HB := hbm HB hb; clear hb hbox hg; have hnb55 := NB484_465.out; have hnc55 := NB465_484.out; obtain ⟨_, _, _, _, _, _⟩ := bk3 BK484; obtain ⟨Ao57, co57, eo57⟩ := Kd.R_slice HO482.out; subst eo57) | ((with_reducible refine gate_callee (f := 10) rfl ?_); refine gL 57 Tryd.func10 #[.agg #[.int .i64 t478, .bool t479, .slice Ao57 t480.length co57]] ?_; (with_reducible refine (terms_Text.calls kj17 t478 t479 _ _ t480 t485 t486 _ ?side1 ?side2 A49.out).mono ?_); (case side1 => exact (by refine (Kd.R_reads' (e := 53) (base := w.heap.size) (ok := fun k_ => True) (n := t480.length) (c := co57) ?_).2.2; exact (by (with_reducible repeat (first | apply Kd.R_alloc | apply Kd.R_drewN | apply Kd.R_drew)); exact (Kd.R_mono (Kd.R_far (p := ⟨gb484, 2, none⟩) (Kd.R_far (p := ⟨gb484, 1, none⟩) (Kd.R_far (p := ⟨gb484, 0, none⟩) (Kd.R_types HO482.out BK484.out (by decide)) (fun _ hk => hk.2) (.int .i64 t478)) (fun _ hk => hk.2) (.bool t479)) (fun _ hk => hk.2) (.slice Ao57 t480.length co57)) (fun _ h_ => h_.1))))); (case side2 => exact (Kd.R_reads' HO482.out).2.1); rintro e w58 ⟨rfl, hb⟩; refine ⟨_, rfl, ?_⟩; replace HO482 := sd (Kd.R_below (by (with_reducible repeat (first | apply Kd.R_alloc | apply Kd.R_drewN | apply Kd.R_drew)); exact (Kd.R_mono (Kd.R_far (p := ⟨gb484, 2, none⟩) (Kd.R_far (p := ⟨gb484, 1, none⟩) (Kd.R_far (p := ⟨gb484, 0, none⟩) (Kd.R_types HO482.out BK484.out (by decide)) (fun _ hk => hk.2) (.int .i64 t478)) (fun _ hk => hk.2) (.bool t479)) (fun _ hk => hk.2) (.slice Ao57 t480.length co57)) (fun _ h_ => h_.1))) hb); replace BK465 := sd (blk_below (g := gb465) (o := .cells #[.int .i64 a0_0, .bool a0_1, .slice A0_2 l0_2.length c0_2] 24 (0, 0)) zq74 hb); replace BK484 := sd (blk_below (g := gb484) (o := .cells #[.int .i64 t478, .bool t479, .slice Ao57 t480.length co57] 24 (0, 0)) zq75 hb); replace HB := hbm HB hb; clear hb) | ((with_reducible refine gate_callee (f := 9) rfl ?_); refine gL 67 Tryd.func9 #[] ?_; (with_reducible refine (lw24_lives.calls  t487 _ A52.out (gl_below HG.out (by repeat (first | (with_reducible first | exact HB.out | exact Below.refl _ _ | apply below_alloc | apply pw_below_drewN | apply below_drew1 | refine below_set ?_ GE465.out | refine below_set ?_ GE484.out) | exact HB.out)))).mono ?_); rintro e w59 ⟨rfl, hb⟩; refine ⟨_, rfl, ?_⟩; replace HO482 := rbm HO482 hb; replace BK465 := bkm BK465 hb; replace BK484 := bkm BK484 hb; replace HB := hbm HB hb; clear hb))
        go_ret
        exact ⟨zq8, zq76⟩
       obtain ⟨c51b0, c51b1⟩ := neI c51
       obtain rfl := Option.some.inj H
       go_wp2_with (first | ((with_reducible refine gate_callee (f := 18) rfl ?_); refine gL 50 Tryd.func18 #[.string a1] ?_; (with_reducible refine (terms_Parse.calls kj17 a1 t478 t479 t480 t483 _ A47.out).mono ?_); rintro e w60 ⟨v481, rfl, ho0, hb⟩; refine ⟨_, rfl, ?_⟩; have HO482 := sd (Kd.R_lower ho0 (below_size zq71)); replace BK465 := bkm BK465 hb; replace HB := hbm HB hb; clear hb; (try clear ho0)) | ((with_reducible refine gate_dst (N := 9) rfl ?_); (try (refine gate_guard (by rfl) ?_; dsimp only)); refine bxA 9 #[.int .i64 0, .bool false, .slice none 0 0] 24 ?_; intro gb484 hg w61 hbox hb; have BK484 := sd (hbox); have GW484 := gem hg HB; have GE484 := GW484; have NB465_484 := nlm hg BK465; have NB484_465 := ngm hg BK465; replace HO482 := rbm HO482 hb; replace BK465 := bkm BK465 hb; replace HB := hbm HB hb; clear hb hbox hg; have hnb62 := NB484_465.out; have hnc62 := NB465_484.out; obtain ⟨_, _, _, _, _, _⟩ := bk3 BK484; obtain ⟨Ao64, co64, eo64⟩ := Kd.R_slice HO482.out; subst eo64) | ((with_reducible refine gate_callee (f := 10) rfl ?_); refine gL 57 Tryd.func10 #[.agg #[.int .i64 t478, .bool t479, .slice Ao64 t480.length co64]] ?_; (with_reducible refine (terms_Text.calls kj17 t478 t479 _ _ t480 t485 t486 _ ?side1 ?side2 A49.out).mono ?_); (case side1 => exact (by refine (Kd.R_reads' (e := 53) (base := w.heap.size) (ok := fun k_ => True) (n := t480.length) (c := co64) ?_).2.2; exact (by (with_reducible repeat (first | apply Kd.R_alloc | apply Kd.R_drewN | apply Kd.R_drew)); exact (Kd.R_mono (Kd.R_far (p := ⟨gb484, 2, none⟩) (Kd.R_far (p := ⟨gb484, 1, none⟩) (Kd.R_far (p := ⟨gb484, 0, none⟩) (Kd.R_types HO482.out BK484.out (by decide)) (fun _ hk => hk.2) (.int .i64 t478)) (fun _ hk => hk.2) (.bool t479)) (fun _ hk => hk.2) (.slice Ao64 t480.length co64)) (fun _ h_ => h_.1))))); (case side2 => exact (Kd.R_reads' HO482.out).2.1); rintro e w65 ⟨rfl, hb⟩; refine ⟨_, rfl, ?_⟩; replace HO482 := sd (Kd.R_below (by (with_reducible repeat (first | apply Kd.R_alloc | apply Kd.R_drewN | apply Kd.R_drew)); exact (Kd.R_mono (Kd.R_far (p := ⟨gb484, 2, none⟩) (Kd.R_far (p := ⟨gb484, 1, none⟩) (Kd.R_far (p := ⟨gb484, 0, none⟩) (Kd.R_types HO482.out BK484.out (by decide)) (fun _ hk => hk.2) (.int .i64 t478)) (fun _ hk => hk.2) (.bool t479)) (fun _ hk => hk.2) (.slice Ao64 t480.length co64)) (fun _ h_ => h_.1))) hb); replace BK465 := sd (blk_below (g := gb465) (o := .cells #[.int .i64 a0_0, .bool a0_1, .slice A0_2 l0_2.length c0_2] 24 (0, 0)) zq74 hb); replace BK484 := sd (blk_below (g := gb484) (o := .cells #[.int .i64 t478, .bool t479, .slice Ao64 t480.length co64] 24 (0, 0)) zq75 hb); replace HB := hbm HB hb; clear hb))
       go_ret
       exact ⟨zq8, zq76⟩
      obtain ⟨c50b0, c50b1⟩ := neI c50
      obtain rfl := Option.some.inj H
      go_wp2_with (first | ((with_reducible refine gate_callee (f := 18) rfl ?_); refine gL 50 Tryd.func18 #[.string a1] ?_; (with_reducible refine (terms_Parse.calls kj17 a1 t478 t479 t480 t483 _ A47.out).mono ?_); rintro e w66 ⟨v481, rfl, ho0, hb⟩; refine ⟨_, rfl, ?_⟩; have HO482 := sd (Kd.R_lower ho0 (below_size zq71)); replace BK465 := bkm BK465 hb; replace HB := hbm HB hb; clear hb; (try clear ho0)) | ((with_reducible refine gate_dst (N := 9) rfl ?_); (try (refine gate_guard (by rfl) ?_; dsimp only)); refine bxA 9 #[.int .i64 0, .bool false, .slice none 0 0] 24 ?_; intro gb484 hg w67 hbox hb; have BK484 := sd (hbox); have GW484 := gem hg HB; have GE484 := GW484; have NB465_484 := nlm hg BK465; have NB484_465 := ngm hg BK465; replace HO482 := rbm HO482 hb; replace BK465 := bkm BK465 hb; replace HB := hbm HB hb; clear hb hbox hg; have hnb68 := NB484_465.out; have hnc68 := NB465_484.out; obtain ⟨_, _, _, _, _, _⟩ := bk3 BK484; obtain ⟨Ao70, co70, eo70⟩ := Kd.R_slice HO482.out; subst eo70) | ((with_reducible refine gate_callee (f := 10) rfl ?_); refine gL 57 Tryd.func10 #[.agg #[.int .i64 t478, .bool t479, .slice Ao70 t480.length co70]] ?_; (with_reducible refine (terms_Text.calls kj17 t478 t479 _ _ t480 t485 t486 _ ?side1 ?side2 A49.out).mono ?_); (case side1 => exact (by refine (Kd.R_reads' (e := 53) (base := w.heap.size) (ok := fun k_ => True) (n := t480.length) (c := co70) ?_).2.2; exact (by (with_reducible repeat (first | apply Kd.R_alloc | apply Kd.R_drewN | apply Kd.R_drew)); exact (Kd.R_mono (Kd.R_far (p := ⟨gb484, 2, none⟩) (Kd.R_far (p := ⟨gb484, 1, none⟩) (Kd.R_far (p := ⟨gb484, 0, none⟩) (Kd.R_types HO482.out BK484.out (by decide)) (fun _ hk => hk.2) (.int .i64 t478)) (fun _ hk => hk.2) (.bool t479)) (fun _ hk => hk.2) (.slice Ao70 t480.length co70)) (fun _ h_ => h_.1))))); (case side2 => exact (Kd.R_reads' HO482.out).2.1); rintro e w71 ⟨rfl, hb⟩; refine ⟨_, rfl, ?_⟩; replace HO482 := sd (Kd.R_below (by (with_reducible repeat (first | apply Kd.R_alloc | apply Kd.R_drewN | apply Kd.R_drew)); exact (Kd.R_mono (Kd.R_far (p := ⟨gb484, 2, none⟩) (Kd.R_far (p := ⟨gb484, 1, none⟩) (Kd.R_far (p := ⟨gb484, 0, none⟩) (Kd.R_types HO482.out BK484.out (by decide)) (fun _ hk => hk.2) (.int .i64 t478)) (fun _ hk => hk.2) (.bool t479)) (fun _ hk => hk.2) (.slice Ao70 t480.length co70)) (fun _ h_ => h_.1))) hb); replace BK465 := sd (blk_below (g := gb465) (o := .cells #[.int .i64 a0_0, .bool a0_1, .slice A0_2 l0_2.length c0_2] 24 (0, 0)) zq74 hb); replace BK484 := sd (blk_below (g := gb484) (o := .cells #[.int .i64 t478, .bool t479, .slice Ao70 t480.length co70] 24 (0, 0)) zq75 hb); replace HB := hbm HB hb; clear hb))
      go_ret
      exact ⟨zq8, zq76⟩
     obtain ⟨c48b0, c48b1⟩ := neI c48
     replace H := bdI H
     obtain ⟨t488, A72, H⟩ := H
     (try dsimp only at H)
     obtain rfl := Option.some.inj H
     go_wp2_with (first | ((with_reducible refine gate_callee (f := 18) rfl ?_); refine gL 50 Tryd.func18 #[.string a1] ?_; (with_reducible refine (terms_Parse.calls kj17 a1 t478 t479 t480 t483 _ A47.out).mono ?_); rintro e w73 ⟨v481, rfl, ho0, hb⟩; refine ⟨_, rfl, ?_⟩; have HO482 := sd (Kd.R_lower ho0 (below_size zq71)); replace BK465 := bkm BK465 hb; replace HB := hbm HB hb; clear hb; (try clear ho0)) | ((with_reducible refine gate_dst (N := 9) rfl ?_); (try (refine gate_guard (by rfl) ?_; dsimp only)); refine bxA 9 #[.int .i64 0, .bool false, .slice none 0 0] 24 ?_; intro gb484 hg w74 hbox hb; have BK484 := sd (hbox); have GW484 := gem hg HB; have GE484 := GW484; have NB465_484 := nlm hg BK465; have NB484_465 := ngm hg BK465; replace HO482 := rbm HO482 hb; replace BK465 := bkm BK465 hb; replace HB := hbm HB hb; clear hb hbox hg; have hnb75 := NB484_465.out; have hnc75 := NB465_484.out; obtain ⟨_, _, _, _, _, _⟩ := bk3 BK484; obtain ⟨Ao77, co77, eo77⟩ := Kd.R_slice HO482.out; subst eo77) | ((with_reducible refine gate_callee (f := 9) rfl ?_); refine gL 67 Tryd.func9 #[] ?_; (with_reducible refine (lw24_lives.calls  t488 _ A72.out (gl_below HG.out (by repeat (first | (with_reducible first | exact HB.out | exact Below.refl _ _ | apply below_alloc | apply pw_below_drewN | apply below_drew1 | refine below_set ?_ GE465.out | refine below_set ?_ GE484.out) | exact HB.out)))).mono ?_); rintro e w78 ⟨rfl, hb⟩; refine ⟨_, rfl, ?_⟩; replace HO482 := sd (Kd.R_below (by (with_reducible repeat (first | apply Kd.R_alloc | apply Kd.R_drewN | apply Kd.R_drew)); exact (Kd.R_mono (Kd.R_far (p := ⟨gb484, 2, none⟩) (Kd.R_far (p := ⟨gb484, 1, none⟩) (Kd.R_far (p := ⟨gb484, 0, none⟩) (Kd.R_types HO482.out BK484.out (by decide)) (fun _ hk => hk.2) (.int .i64 t478)) (fun _ hk => hk.2) (.bool t479)) (fun _ hk => hk.2) (.slice Ao77 t480.length co77)) (fun _ h_ => h_.1))) hb); replace BK465 := sd (blk_below (g := gb465) (o := .cells #[.int .i64 a0_0, .bool a0_1, .slice A0_2 l0_2.length c0_2] 24 (0, 0)) zq74 hb); replace BK484 := sd (blk_below (g := gb484) (o := .cells #[.int .i64 t478, .bool t479, .slice Ao77 t480.length co77] 24 (0, 0)) zq75 hb); replace HB := hbm HB hb; clear hb))
     go_ret
     exact ⟨zq8, zq76⟩
end Go.Proofs.YtelfiofnhchmbaaDoor.A
