-- By pack.py, a program of this session's: declarations of this seat's texts, put together for a claim.
import Derived.Test.YtelfiofnhchmbaaDoorZ11
import Derived.Test.YtelfiofnhchmbaaDoorZ12
namespace Go.Proofs.YtelfiofnhchmbaaDoor.A
open Go.RowKit Go.Proofs.YtelfiofnhchmbaaDoor.B Go.Proofs.YtelfiofnhchmbaaDoorW.PrintWords Go.Proofs.YtelfiofnhchmbaaDoorW.PrintLast Go.Proofs.YtelfiofnhchmbaaDoorW.PrintMore
theorem zq97 {P : Prop} (h : P := by repeat (first | (with_reducible first | exact HB.out | apply below_alloc | apply pw_below_drewN | apply below_drew1 | refine below_set ?_ GE316.out) | exact HB.out)) : P := h
end Go.Proofs.YtelfiofnhchmbaaDoor.A
namespace Go.Proofs.YtelfiofnhchmbaaDoor.A
open Go.RowKit Go.Proofs.YtelfiofnhchmbaaDoor.B Go.Proofs.YtelfiofnhchmbaaDoorW.PrintWords Go.Proofs.YtelfiofnhchmbaaDoorW.PrintLast Go.Proofs.YtelfiofnhchmbaaDoorW.PrintMore
attribute [local go_sem] max2_int min2_int max_two min_two max_three min_three max_four min_four
set_option linter.unusedVariables false
set_option linter.unusedSimpArgs false
set_option maxHeartbeats 8000000
set_option maxRecDepth 100000
def lw24_TermsRight.f (k : Nat) (a0_0 : Int) (a0_1 : Bool) (l0_2 : List (S53)) : Option (Bool) := if (l0_2.length : Int) > 20 then ((lw24_lives.f).bind fun t317 => (some t317)) else ((terms_Text.f k a0_0 a0_1 l0_2).bind fun bt318 => ((rf24_Text.f k a0_0 a0_1 l0_2).bind fun bt320 => ((terms_Right.f k a0_0 a0_1 l0_2).bind fun t322 => ((rf24_Right.f k a0_0 a0_1 l0_2).bind fun t323 => (if (t322 == t323) = true then (if bt318.1.toList = bt320.1.toList then (if bt318.2 = bt320.2 then ((lw24_lives.f).bind fun t324 => (some t324)) else (some false)) else (some false)) else (some false))))))
def lw24_TermsRight.T5 : Bool × List (List Nat × List Nat) := (true, [([], []), ([0], [0]), ([], []), ([2, 1], [2]), ([1, 3], [1, 3]), ([4, 3], [4]), ([5], [5]), ([5], [5]), ([6, 7, 5], [5, 6, 7]), ([5, 8], [5, 8]), ([9, 5], [9]), ([10], [10]), ([10], [10]), ([11, 12, 10], [10, 11, 12]), ([10, 13], [10, 13]), ([14, 10], [14]), ([15, 15], [15]), ([15, 16], [15, 16]), ([17, 16, 0, 1, 2, 3, 4, 5, 6, 7, 8, 9, 10, 11, 12, 13, 14, 15, 16, 17], [17])])
def lw24_TermsRight.B5 : List Nat := [0, 1, 0, 7, 15, 31, 63, 63, 255, 511, 1023, 2047, 2047, 8191, 16383, 32767, 65535, 131071, 262143]
theorem lw24_TermsRight.tab5 : rtab .any (opsOf Tryd.f3 5) = lw24_TermsRight.T5 := by kernel_rfl
theorem lw24_TermsRight.bits5 : waitsOk lw24_TermsRight.T5.2 lw24_TermsRight.B5 = true := by kernel_rfl
theorem lw24_TermsRight.calls (k : Nat) (a0_0 : Int) (a0_1 : Bool) (A0_2 : Option Addr) (c0_2 : Nat) (l0_2 : List (S53)) (r : Bool) (w : World) (hr0_2 : Kd.C k53 w A0_2 l0_2.length l0_2) (hc0_2 : l0_2.length ≤ c0_2) (h : lw24_TermsRight.f k a0_0 a0_1 l0_2 = some r) (hG : Gl w) :
  Calls Tryd.prog 3 #[.agg #[.int .i64 a0_0, .bool a0_1, .slice A0_2 l0_2.length c0_2]] w fun e w' => e = .returned (.bool r) ∧ Below w.heap.size w w' := by
 have HG := sd hG
 clear hG
 have hu24 := Tryd.underlying24
 have HR0_2 := sd hr0_2
 have HC0_2 := sd hc0_2
 clear hr0_2 hc0_2
 have HB := sd (Below.refl w.heap.size w)
 have H := h
 clear h
 unfold lw24_TermsRight.f at H
 replace H := ifI H
 rcases H with ⟨c2, H⟩ | ⟨c2, H⟩
 ·have c2b0 : decide (20 < (l0_2.length : Int)) = true := decide_eq_true c2
  have c2b1 : decide (20 < l0_2.length) = true := decide_eq_true (by omega)
  clear c2
  replace H := bdI H
  obtain ⟨t317, A3, H⟩ := H
  (try dsimp only at H)
  obtain rfl := Option.some.inj H
  go_enter Tryd.func3, Tryd.ntmps3
  go_wp2_with (first | ((with_reducible refine gate_dst (N := 1) rfl ?_); refine bxA 1 #[.int .i64 a0_0, .bool a0_1, .slice A0_2 l0_2.length c0_2] 24 ?_; intro gb316 hg w4 hbox hb; have BK316 := sd (hbox); have GW316 := gem hg HB; have GE316 := GW316; replace HB := hbm HB hb; clear hb hbox hg; obtain ⟨_, _, _, _, _, _⟩ := bk3 BK316) | ((with_reducible refine gate_callee (f := 9) rfl ?_); refine gL 11 Tryd.func9 #[] ?_; (with_reducible refine (lw24_lives.calls  t317 _ A3.out (gl_below HG.out (by repeat (first | (with_reducible first | exact HB.out | exact Below.refl _ _ | apply below_alloc | apply pw_below_drewN | apply below_drew1 | refine below_set ?_ GE316.out) | exact HB.out)))).mono ?_); rintro e w6 ⟨rfl, hb⟩; refine ⟨_, rfl, ?_⟩; replace BK316 := bkm BK316 hb; replace HB := hbm HB hb; clear hb))
  go_ret
  exact ⟨zq8, zq97⟩
 have c2b0 : decide (20 < (l0_2.length : Int)) = false := decide_eq_false c2
 have c2b1 : decide (20 < l0_2.length) = false := decide_eq_false (by omega)
 clear c2
 replace H := bdI H
 obtain ⟨⟨t318, t319⟩, A7, H⟩ := H
 (try dsimp only at H)
 replace H := bdI H
 obtain ⟨⟨t320, t321⟩, A8, H⟩ := H
 (try dsimp only at H)
 replace H := bdI H
 obtain ⟨t322, A9, H⟩ := H
 (try dsimp only at H)
 replace H := bdI H
 obtain ⟨t323, A10, H⟩ := H
 (try dsimp only at H)
 replace H := ifI H
 rcases H with ⟨c11, H⟩ | ⟨c11, H⟩
 ·have c11b0 : (t322 == t323) = true := c11
  (try (have c11b1 : decide (t322 = t323) = true := by simpa using c11))
  (try (have c11b2 : (t322 == t323) = true := by simpa using c11))
  clear c11
  replace H := ifI H
  rcases H with ⟨c12, H⟩ | ⟨c12, H⟩
  ·obtain ⟨c12b0, c12b1⟩ := eqI c12
   clear c12
   replace H := ifI H
   rcases H with ⟨c13, H⟩ | ⟨c13, H⟩
   ·obtain ⟨c13b0, c13b1⟩ := eqI c13
    clear c13
    replace H := bdI H
    obtain ⟨t324, A14, H⟩ := H
    (try dsimp only at H)
    obtain rfl := Option.some.inj H
    go_enter Tryd.func3, Tryd.ntmps3
    try go_wp2_with (first | ((with_reducible refine gate_dst (N := 1) rfl ?_); refine bxA 1 #[.int .i64 a0_0, .bool a0_1, .slice A0_2 l0_2.length c0_2] 24 ?_; intro gb316 hg w15 hbox hb; have BK316 := sd (hbox); have GW316 := gem hg HB; have GE316 := GW316; replace HB := hbm HB hb; clear hb hbox hg; obtain ⟨_, _, _, _, _, _⟩ := bk3 BK316) | ((with_reducible refine gate_callee (f := 10) rfl ?_); refine gL 14 Tryd.func10 #[.agg #[.int .i64 a0_0, .bool a0_1, .slice A0_2 l0_2.length c0_2]] ?_; (with_reducible refine (terms_Text.calls k a0_0 a0_1 _ _ l0_2 t318 t319 _ ?side1 ?side2 A7.out).mono ?_); (case side1 => exact zq32); (case side2 => exact HC0_2.out); rintro e w17 ⟨rfl, hb⟩; refine ⟨_, rfl, ?_⟩; replace BK316 := bkm BK316 hb; replace HB := hbm HB hb; clear hb; obtain ⟨_, _, _, _, _, _⟩ := bk3 BK316) | ((with_reducible refine gate_callee (f := 11) rfl ?_); refine gL 19 Tryd.func11 #[.agg #[.int .i64 a0_0, .bool a0_1, .slice A0_2 l0_2.length c0_2]] ?_; (with_reducible refine (rf24_Text.calls k a0_0 a0_1 _ _ l0_2 t320 t321 _ ?side1 ?side2 A8.out).mono ?_); (case side1 => exact zq32); (case side2 => exact HC0_2.out); rintro e w19 ⟨rfl, hb⟩; refine ⟨_, rfl, ?_⟩; replace BK316 := bkm BK316 hb; replace HB := hbm HB hb; clear hb))
    replace BK316 := sd (blk_drew BK316.out)
    replace HB := sd (below_drew1 HB.out)
    refine start_ (n := 19) (S := fun w' => w'.cell? ⟨gb316, 0, none⟩ = some (.int .i64 a0_0) ∧ w'.cell? ⟨gb316, 1, none⟩ = some (.bool a0_1) ∧ w'.cell? ⟨gb316, 2, none⟩ = some (.slice A0_2 l0_2.length c0_2)) (ds := []) #[false, false, false, false, false, false, false, false, false, false, false, false, false, false, false, false, false, false, false] (by kernel_rfl) rfl rfl ⟨(blk_cell BK316.out 0).trans rfl, (blk_cell BK316.out 1).trans rfl, (blk_cell BK316.out 2).trans rfl⟩ (fun hHeld => ?_); refine with_tabW lw24_TermsRight.tab5 lw24_TermsRight.bits5 (fun HT_ HW_ => ?_)
    generalize w19.drew = w20 at BK316 HB hHeld ⊢
    refine tA 0 22 HT_.out HW_.out hHeld ?_
    refine tA 2 24 HT_.out HW_.out hHeld ?_
    refine one_ (i := 1) (N := some 23) #[true, true, true, false, false, false, false, false, false, false, false, false, false, false, false, false, false, false, false] rfl rfl (one_of HT_.out (by kernel_rfl)) (by decide) (fun K hK => ?_)
    refine goes_ Tryd.func12 (by kernel_rfl) rfl #[.agg #[.int .i64 a0_0, .bool a0_1, .slice A0_2 l0_2.length c0_2]] (by rfl) rfl rfl zq38 ?_
    with_reducible refine (terms_Right.calls k a0_0 a0_1 _ _ l0_2 t322 _ ?side1 ?side2 A9.out).mono ?_
    (case side1 => exact zq32)
    (case side2 => exact HC0_2.out)
    rintro e w21 ⟨rfl, hb⟩
    refine ⟨_, rfl, ?_⟩
    replace BK316 := bkm BK316 hb
    replace HB := hbm HB hb
    clear hb
    refine hK.out _ _ ⟨(blk_cell BK316.out 0).trans rfl, (blk_cell BK316.out 1).trans rfl, (blk_cell BK316.out 2).trans rfl⟩ (fun hHeld => ?_)
    clear hK K
    refine nA 23 ?_
    refine one_ (i := 3) (N := some 25) #[true, true, true, true, false, false, false, false, false, false, false, false, false, false, false, false, false, false, false] rfl rfl (one_of HT_.out (by kernel_rfl)) (by decide) (fun K hK => ?_)
    refine goes_ Tryd.func13 (by kernel_rfl) rfl #[.agg #[.int .i64 a0_0, .bool a0_1, .slice A0_2 l0_2.length c0_2]] (by rfl) rfl rfl zq38 ?_
    with_reducible refine (rf24_Right.calls k a0_0 a0_1 _ _ l0_2 t323 _ ?side1 ?side2 A10.out).mono ?_
    (case side1 => exact zq32)
    (case side2 => exact HC0_2.out)
    rintro e w22 ⟨rfl, hb⟩
    refine ⟨_, rfl, ?_⟩
    replace BK316 := bkm BK316 hb
    replace HB := hbm HB hb
    clear hb
    refine hK.out _ _ ⟨(blk_cell BK316.out 0).trans rfl, (blk_cell BK316.out 1).trans rfl, (blk_cell BK316.out 2).trans rfl⟩ (fun hHeld => ?_)
    clear hK K
    refine nA 25 ?_
    refine pA 4 26 HT_.out ?_
    refine pA 5 27 HT_.out ?_
    refine pA 6 28 HT_.out ?_
    refine pA 7 29 HT_.out ?_
    refine pA 8 30 HT_.out ?_
    refine pA 9 31 HT_.out ?_
    refine pA 10 32 HT_.out ?_
    refine pA 11 33 HT_.out ?_
    refine pA 12 34 HT_.out ?_
    refine pA 13 35 HT_.out ?_
    refine pA 14 36 HT_.out ?_
    refine pA 15 37 HT_.out ?_
    refine one_ (i := 16) (N := some 38) #[true, true, true, true, true, true, true, true, true, true, true, true, true, true, true, true, true, false, false] rfl rfl (one_of HT_.out (by kernel_rfl)) (by decide) (fun K hK => ?_)
    refine goes_ Tryd.func9 (by kernel_rfl) rfl #[] (by rfl) rfl rfl zq38 ?_
    with_reducible refine (lw24_lives.calls  t324 _ A14.out (gl_below HG.out (by repeat (first | (with_reducible first | exact HB.out | exact Below.refl _ _ | apply below_alloc | apply pw_below_drewN | apply below_drew1 | refine below_set ?_ GE316.out) | exact HB.out)))).mono ?_
    rintro e w23 ⟨rfl, hb⟩
    refine ⟨_, rfl, ?_⟩
    replace BK316 := bkm BK316 hb
    replace HB := hbm HB hb
    clear hb
    refine hK.out _ _ ⟨(blk_cell BK316.out 0).trans rfl, (blk_cell BK316.out 1).trans rfl, (blk_cell BK316.out 2).trans rfl⟩ (fun hHeld => ?_)
    clear hK K
    refine nA 38 ?_
    refine pA 17 39 HT_.out ?_
    refine pA 18 2 HT_.out ?_
    refine done_ (done_of HT_.out (by kernel_rfl)) ?_
    try go_wp2
    go_ret
    exact ⟨zq8, zq97⟩
   obtain ⟨c13b0, c13b1⟩ := neI c13
   obtain rfl := Option.some.inj H
   go_enter Tryd.func3, Tryd.ntmps3
   try go_wp2_with (first | ((with_reducible refine gate_dst (N := 1) rfl ?_); refine bxA 1 #[.int .i64 a0_0, .bool a0_1, .slice A0_2 l0_2.length c0_2] 24 ?_; intro gb316 hg w24 hbox hb; have BK316 := sd (hbox); have GW316 := gem hg HB; have GE316 := GW316; replace HB := hbm HB hb; clear hb hbox hg; obtain ⟨_, _, _, _, _, _⟩ := bk3 BK316) | ((with_reducible refine gate_callee (f := 10) rfl ?_); refine gL 14 Tryd.func10 #[.agg #[.int .i64 a0_0, .bool a0_1, .slice A0_2 l0_2.length c0_2]] ?_; (with_reducible refine (terms_Text.calls k a0_0 a0_1 _ _ l0_2 t318 t319 _ ?side1 ?side2 A7.out).mono ?_); (case side1 => exact zq32); (case side2 => exact HC0_2.out); rintro e w26 ⟨rfl, hb⟩; refine ⟨_, rfl, ?_⟩; replace BK316 := bkm BK316 hb; replace HB := hbm HB hb; clear hb; obtain ⟨_, _, _, _, _, _⟩ := bk3 BK316) | ((with_reducible refine gate_callee (f := 11) rfl ?_); refine gL 19 Tryd.func11 #[.agg #[.int .i64 a0_0, .bool a0_1, .slice A0_2 l0_2.length c0_2]] ?_; (with_reducible refine (rf24_Text.calls k a0_0 a0_1 _ _ l0_2 t320 t321 _ ?side1 ?side2 A8.out).mono ?_); (case side1 => exact zq32); (case side2 => exact HC0_2.out); rintro e w28 ⟨rfl, hb⟩; refine ⟨_, rfl, ?_⟩; replace BK316 := bkm BK316 hb; replace HB := hbm HB hb; clear hb))
   replace BK316 := sd (blk_drew BK316.out)
   replace HB := sd (below_drew1 HB.out)
   refine start_ (n := 19) (S := fun w' => w'.cell? ⟨gb316, 0, none⟩ = some (.int .i64 a0_0) ∧ w'.cell? ⟨gb316, 1, none⟩ = some (.bool a0_1) ∧ w'.cell? ⟨gb316, 2, none⟩ = some (.slice A0_2 l0_2.length c0_2)) (ds := []) #[false, false, false, false, false, false, false, false, false, false, false, false, false, false, false, false, false, false, false] (by kernel_rfl) rfl rfl ⟨(blk_cell BK316.out 0).trans rfl, (blk_cell BK316.out 1).trans rfl, (blk_cell BK316.out 2).trans rfl⟩ (fun hHeld => ?_); refine with_tabW lw24_TermsRight.tab5 lw24_TermsRight.bits5 (fun HT_ HW_ => ?_)
   generalize w28.drew = w29 at BK316 HB hHeld ⊢
   refine tA 0 22 HT_.out HW_.out hHeld ?_
   refine tA 2 24 HT_.out HW_.out hHeld ?_
   refine one_ (i := 1) (N := some 23) #[true, true, true, false, false, false, false, false, false, false, false, false, false, false, false, false, false, false, false] rfl rfl (one_of HT_.out (by kernel_rfl)) (by decide) (fun K hK => ?_)
   refine goes_ Tryd.func12 (by kernel_rfl) rfl #[.agg #[.int .i64 a0_0, .bool a0_1, .slice A0_2 l0_2.length c0_2]] (by rfl) rfl rfl zq38 ?_
   with_reducible refine (terms_Right.calls k a0_0 a0_1 _ _ l0_2 t322 _ ?side1 ?side2 A9.out).mono ?_
   (case side1 => exact zq32)
   (case side2 => exact HC0_2.out)
   rintro e w30 ⟨rfl, hb⟩
   refine ⟨_, rfl, ?_⟩
   replace BK316 := bkm BK316 hb
   replace HB := hbm HB hb
   clear hb
   refine hK.out _ _ ⟨(blk_cell BK316.out 0).trans rfl, (blk_cell BK316.out 1).trans rfl, (blk_cell BK316.out 2).trans rfl⟩ (fun hHeld => ?_)
   clear hK K
   refine nA 23 ?_
   refine one_ (i := 3) (N := some 25) #[true, true, true, true, false, false, false, false, false, false, false, false, false, false, false, false, false, false, false] rfl rfl (one_of HT_.out (by kernel_rfl)) (by decide) (fun K hK => ?_)
   refine goes_ Tryd.func13 (by kernel_rfl) rfl #[.agg #[.int .i64 a0_0, .bool a0_1, .slice A0_2 l0_2.length c0_2]] (by rfl) rfl rfl zq38 ?_
   with_reducible refine (rf24_Right.calls k a0_0 a0_1 _ _ l0_2 t323 _ ?side1 ?side2 A10.out).mono ?_
   (case side1 => exact zq32)
   (case side2 => exact HC0_2.out)
   rintro e w31 ⟨rfl, hb⟩
   refine ⟨_, rfl, ?_⟩
   replace BK316 := bkm BK316 hb
   replace HB := hbm HB hb
   clear hb
   refine hK.out _ _ ⟨(blk_cell BK316.out 0).trans rfl, (blk_cell BK316.out 1).trans rfl, (blk_cell BK316.out 2).trans rfl⟩ (fun hHeld => ?_)
   clear hK K
   refine nA 25 ?_
   refine pA 4 26 HT_.out ?_
   refine pA 5 27 HT_.out ?_
   refine pA 6 28 HT_.out ?_
   refine pA 7 29 HT_.out ?_
   refine pA 8 30 HT_.out ?_
   refine pA 9 31 HT_.out ?_
   refine pA 10 32 HT_.out ?_
   refine pA 11 33 HT_.out ?_
   refine pA 12 34 HT_.out ?_
   refine pA 13 35 HT_.out ?_
   refine pA 14 36 HT_.out ?_
   refine pA 15 37 HT_.out ?_
   refine oA 16 38 HT_.out ?_
   refine pA 17 39 HT_.out ?_
   refine pA 18 2 HT_.out ?_
   refine done_ (done_of HT_.out (by kernel_rfl)) ?_
   try go_wp2
   go_ret
   exact ⟨zq8, zq97⟩
  obtain ⟨c12b0, c12b1⟩ := neI c12
  obtain rfl := Option.some.inj H
  go_enter Tryd.func3, Tryd.ntmps3
  try go_wp2_with (first | ((with_reducible refine gate_dst (N := 1) rfl ?_); refine bxA 1 #[.int .i64 a0_0, .bool a0_1, .slice A0_2 l0_2.length c0_2] 24 ?_; intro gb316 hg w32 hbox hb; have BK316 := sd (hbox); have GW316 := gem hg HB; have GE316 := GW316; replace HB := hbm HB hb; clear hb hbox hg; obtain ⟨_, _, _, _, _, _⟩ := bk3 BK316) | ((with_reducible refine gate_callee (f := 10) rfl ?_); refine gL 14 Tryd.func10 #[.agg #[.int .i64 a0_0, .bool a0_1, .slice A0_2 l0_2.length c0_2]] ?_; (with_reducible refine (terms_Text.calls k a0_0 a0_1 _ _ l0_2 t318 t319 _ ?side1 ?side2 A7.out).mono ?_); (case side1 => exact zq32); (case side2 => exact HC0_2.out); rintro e w34 ⟨rfl, hb⟩; refine ⟨_, rfl, ?_⟩; replace BK316 := bkm BK316 hb; replace HB := hbm HB hb; clear hb; obtain ⟨_, _, _, _, _, _⟩ := bk3 BK316) | ((with_reducible refine gate_callee (f := 11) rfl ?_); refine gL 19 Tryd.func11 #[.agg #[.int .i64 a0_0, .bool a0_1, .slice A0_2 l0_2.length c0_2]] ?_; (with_reducible refine (rf24_Text.calls k a0_0 a0_1 _ _ l0_2 t320 t321 _ ?side1 ?side2 A8.out).mono ?_); (case side1 => exact zq32); (case side2 => exact HC0_2.out); rintro e w36 ⟨rfl, hb⟩; refine ⟨_, rfl, ?_⟩; replace BK316 := bkm BK316 hb; replace HB := hbm HB hb; clear hb))
  replace BK316 := sd (blk_drew BK316.out)
  replace HB := sd (below_drew1 HB.out)
  refine start_ (n := 19) (S := fun w' => w'.cell? ⟨gb316, 0, none⟩ = some (.int .i64 a0_0) ∧ w'.cell? ⟨gb316, 1, none⟩ = some (.bool a0_1) ∧ w'.cell? ⟨gb316, 2, none⟩ = some (.slice A0_2 l0_2.length c0_2)) (ds := []) #[false, false, false, false, false, false, false, false, false, false, false, false, false, false, false, false, false, false, false] (by kernel_rfl) rfl rfl ⟨(blk_cell BK316.out 0).trans rfl, (blk_cell BK316.out 1).trans rfl, (blk_cell BK316.out 2).trans rfl⟩ (fun hHeld => ?_); refine with_tabW lw24_TermsRight.tab5 lw24_TermsRight.bits5 (fun HT_ HW_ => ?_)
  generalize w36.drew = w37 at BK316 HB hHeld ⊢
  refine tA 0 22 HT_.out HW_.out hHeld ?_
  refine tA 2 24 HT_.out HW_.out hHeld ?_
  refine one_ (i := 1) (N := some 23) #[true, true, true, false, false, false, false, false, false, false, false, false, false, false, false, false, false, false, false] rfl rfl (one_of HT_.out (by kernel_rfl)) (by decide) (fun K hK => ?_)
  refine goes_ Tryd.func12 (by kernel_rfl) rfl #[.agg #[.int .i64 a0_0, .bool a0_1, .slice A0_2 l0_2.length c0_2]] (by rfl) rfl rfl zq38 ?_
  with_reducible refine (terms_Right.calls k a0_0 a0_1 _ _ l0_2 t322 _ ?side1 ?side2 A9.out).mono ?_
  (case side1 => exact zq32)
  (case side2 => exact HC0_2.out)
  rintro e w38 ⟨rfl, hb⟩
  refine ⟨_, rfl, ?_⟩
  replace BK316 := bkm BK316 hb
  replace HB := hbm HB hb
  clear hb
  refine hK.out _ _ ⟨(blk_cell BK316.out 0).trans rfl, (blk_cell BK316.out 1).trans rfl, (blk_cell BK316.out 2).trans rfl⟩ (fun hHeld => ?_)
  clear hK K
  refine nA 23 ?_
  refine one_ (i := 3) (N := some 25) #[true, true, true, true, false, false, false, false, false, false, false, false, false, false, false, false, false, false, false] rfl rfl (one_of HT_.out (by kernel_rfl)) (by decide) (fun K hK => ?_)
  refine goes_ Tryd.func13 (by kernel_rfl) rfl #[.agg #[.int .i64 a0_0, .bool a0_1, .slice A0_2 l0_2.length c0_2]] (by rfl) rfl rfl zq38 ?_
  with_reducible refine (rf24_Right.calls k a0_0 a0_1 _ _ l0_2 t323 _ ?side1 ?side2 A10.out).mono ?_
  (case side1 => exact zq32)
  (case side2 => exact HC0_2.out)
  rintro e w39 ⟨rfl, hb⟩
  refine ⟨_, rfl, ?_⟩
  replace BK316 := bkm BK316 hb
  replace HB := hbm HB hb
  clear hb
  refine hK.out _ _ ⟨(blk_cell BK316.out 0).trans rfl, (blk_cell BK316.out 1).trans rfl, (blk_cell BK316.out 2).trans rfl⟩ (fun hHeld => ?_)
  clear hK K
  refine nA 25 ?_
  refine pA 4 26 HT_.out ?_
  refine pA 5 27 HT_.out ?_
  refine pA 6 28 HT_.out ?_
  refine pA 7 29 HT_.out ?_
  refine pA 8 30 HT_.out ?_
  refine pA 9 31 HT_.out ?_
  refine pA 10 32 HT_.out ?_
  refine oA 11 33 HT_.out ?_
  refine oA 12 34 HT_.out ?_
  refine oA 13 35 HT_.out ?_
  refine pA 14 36 HT_.out ?_
  refine pA 15 37 HT_.out ?_
  refine oA 16 38 HT_.out ?_
  refine pA 17 39 HT_.out ?_
  refine pA 18 2 HT_.out ?_
  refine done_ (done_of HT_.out (by kernel_rfl)) ?_
  try go_wp2
  go_ret
  exact ⟨zq8, zq97⟩
 have c11b0 : (t322 == t323) = false := by simpa using c11
 (try (have c11b1 : decide (t322 = t323) = false := by simpa using c11))
 (try (have c11b2 : (t322 == t323) = false := by simpa using c11))
 (try (have c11b3 : ¬ (t322 = t323) := by simpa using c11))
 clear c11
 obtain rfl := Option.some.inj H
 go_enter Tryd.func3, Tryd.ntmps3
 try go_wp2_with (first | ((with_reducible refine gate_dst (N := 1) rfl ?_); refine bxA 1 #[.int .i64 a0_0, .bool a0_1, .slice A0_2 l0_2.length c0_2] 24 ?_; intro gb316 hg w40 hbox hb; have BK316 := sd (hbox); have GW316 := gem hg HB; have GE316 := GW316; replace HB := hbm HB hb; clear hb hbox hg; obtain ⟨_, _, _, _, _, _⟩ := bk3 BK316) | ((with_reducible refine gate_callee (f := 10) rfl ?_); refine gL 14 Tryd.func10 #[.agg #[.int .i64 a0_0, .bool a0_1, .slice A0_2 l0_2.length c0_2]] ?_; (with_reducible refine (terms_Text.calls k a0_0 a0_1 _ _ l0_2 t318 t319 _ ?side1 ?side2 A7.out).mono ?_); (case side1 => exact zq32); (case side2 => exact HC0_2.out); rintro e w42 ⟨rfl, hb⟩; refine ⟨_, rfl, ?_⟩; replace BK316 := bkm BK316 hb; replace HB := hbm HB hb; clear hb; obtain ⟨_, _, _, _, _, _⟩ := bk3 BK316) | ((with_reducible refine gate_callee (f := 11) rfl ?_); refine gL 19 Tryd.func11 #[.agg #[.int .i64 a0_0, .bool a0_1, .slice A0_2 l0_2.length c0_2]] ?_; (with_reducible refine (rf24_Text.calls k a0_0 a0_1 _ _ l0_2 t320 t321 _ ?side1 ?side2 A8.out).mono ?_); (case side1 => exact zq32); (case side2 => exact HC0_2.out); rintro e w44 ⟨rfl, hb⟩; refine ⟨_, rfl, ?_⟩; replace BK316 := bkm BK316 hb; replace HB := hbm HB hb; clear hb))
 replace BK316 := sd (blk_drew BK316.out)
 replace HB := sd (below_drew1 HB.out)
 refine start_ (n := 19) (S := fun w' => w'.cell? ⟨gb316, 0, none⟩ = some (.int .i64 a0_0) ∧ w'.cell? ⟨gb316, 1, none⟩ = some (.bool a0_1) ∧ w'.cell? ⟨gb316, 2, none⟩ = some (.slice A0_2 l0_2.length c0_2)) (ds := []) #[false, false, false, false, false, false, false, false, false, false, false, false, false, false, false, false, false, false, false] (by kernel_rfl) rfl rfl ⟨(blk_cell BK316.out 0).trans rfl, (blk_cell BK316.out 1).trans rfl, (blk_cell BK316.out 2).trans rfl⟩ (fun hHeld => ?_); refine with_tabW lw24_TermsRight.tab5 lw24_TermsRight.bits5 (fun HT_ HW_ => ?_)
 generalize w44.drew = w45 at BK316 HB hHeld ⊢
 refine tA 0 22 HT_.out HW_.out hHeld ?_
 refine tA 2 24 HT_.out HW_.out hHeld ?_
 refine one_ (i := 1) (N := some 23) #[true, true, true, false, false, false, false, false, false, false, false, false, false, false, false, false, false, false, false] rfl rfl (one_of HT_.out (by kernel_rfl)) (by decide) (fun K hK => ?_)
 refine goes_ Tryd.func12 (by kernel_rfl) rfl #[.agg #[.int .i64 a0_0, .bool a0_1, .slice A0_2 l0_2.length c0_2]] (by rfl) rfl rfl zq38 ?_
 with_reducible refine (terms_Right.calls k a0_0 a0_1 _ _ l0_2 t322 _ ?side1 ?side2 A9.out).mono ?_
 (case side1 => exact zq32)
 (case side2 => exact HC0_2.out)
 rintro e w46 ⟨rfl, hb⟩
 refine ⟨_, rfl, ?_⟩
 replace BK316 := bkm BK316 hb
 replace HB := hbm HB hb
 clear hb
 refine hK.out _ _ ⟨(blk_cell BK316.out 0).trans rfl, (blk_cell BK316.out 1).trans rfl, (blk_cell BK316.out 2).trans rfl⟩ (fun hHeld => ?_)
 clear hK K
 refine nA 23 ?_
 refine one_ (i := 3) (N := some 25) #[true, true, true, true, false, false, false, false, false, false, false, false, false, false, false, false, false, false, false] rfl rfl (one_of HT_.out (by kernel_rfl)) (by decide) (fun K hK => ?_)
 refine goes_ Tryd.func13 (by kernel_rfl) rfl #[.agg #[.int .i64 a0_0, .bool a0_1, .slice A0_2 l0_2.length c0_2]] (by rfl) rfl rfl zq38 ?_
 with_reducible refine (rf24_Right.calls k a0_0 a0_1 _ _ l0_2 t323 _ ?side1 ?side2 A10.out).mono ?_
 (case side1 => exact zq32)
 (case side2 => exact HC0_2.out)
 rintro e w47 ⟨rfl, hb⟩
 refine ⟨_, rfl, ?_⟩
 replace BK316 := bkm BK316 hb
 replace HB := hbm HB hb
 clear hb
 refine hK.out _ _ ⟨(blk_cell BK316.out 0).trans rfl, (blk_cell BK316.out 1).trans rfl, (blk_cell BK316.out 2).trans rfl⟩ (fun hHeld => ?_)
 clear hK K
 refine nA 25 ?_
 refine pA 4 26 HT_.out ?_
 refine pA 5 27 HT_.out ?_
 refine oA 6 28 HT_.out ?_
 refine oA 7 29 HT_.out ?_
 refine oA 8 30 HT_.out ?_
 refine pA 9 31 HT_.out ?_
 refine pA 10 32 HT_.out ?_
 refine oA 11 33 HT_.out ?_
 refine oA 12 34 HT_.out ?_
 refine oA 13 35 HT_.out ?_
 refine pA 14 36 HT_.out ?_
 refine pA 15 37 HT_.out ?_
 refine oA 16 38 HT_.out ?_
 refine pA 17 39 HT_.out ?_
 refine pA 18 2 HT_.out ?_
 refine done_ (done_of HT_.out (by kernel_rfl)) ?_
 try go_wp2
 go_ret
 exact ⟨zq8, zq97⟩
end Go.Proofs.YtelfiofnhchmbaaDoor.A
