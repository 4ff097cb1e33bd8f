-- By gen.py, a program of this session's, over the print's forms: not the print's own text.
import Derived.Test.YthmpapnhomngnaaDoorAx0
import Derived.Test.YthmpapnhomngnaaDoorQ
import Derived.Test.YthmpapnhomngnaaDoorAx1
namespace Go.Proofs.YthmpapnhomngnaaDoor.A
open Go.RowKit Go.Proofs.YthmpapnhomngnaaDoor.B Go.Proofs.YthmpapnhomngnaaDoorW.PrintWords Go.Proofs.YthmpapnhomngnaaDoorW.PrintLast Go.Proofs.YthmpapnhomngnaaDoorW.PrintMore
attribute [local go_sem] max2_int min2_int max_two min_two max_three min_three max_four min_four   -- for this text's walks alone
set_option linter.unusedVariables false
set_option linter.unusedSimpArgs false

/-! ### muldiv_MulDiv: function 26 (by hand) -/
theorem eq59 (a b c d : Int) (W : World) : (Op.equalIn 10000 59 (.agg #[.int .u64 a, .int .u64 b]) (.agg #[.int .u64 c, .int .u64 d])).run Tryd.prog W = .ok (a == c && b == d) W := by
 have hs : ∀ W, (Go.sizeOf 57).run Tryd.prog W = .ok 1 W := fun _ => by kernel_rfl
 have p1 : ∀ (x y : Int) W, (part 57 #[.int .u64 x, .int .u64 y] 0).run Tryd.prog W = .ok (.int .u64 x) W := fun _ _ _ => by kernel_rfl
 have p2 : ∀ (x y : Int) W, (part 57 #[.int .u64 x, .int .u64 y] 1).run Tryd.prog W = .ok (.int .u64 y) W := fun _ _ _ => by kernel_rfl
 have e1 : ∀ (x y : Int) W, (Op.equalIn 9999 57 (.int .u64 x) (.int .u64 y)).run Tryd.prog W = .ok (x == y) W := fun x y W => run_equalIn_int W 9998 57 .u64 .u64 x y Tryd.underlying57
 rw [show (10000 : Nat) = 9999 + 1 from rfl, Op.equalIn]
 simp only [Sem.run_bind, run_underlying Tryd.underlying59, Result.andThen_ok, hs]
 rw [Std.Legacy.Range.forIn_eq_forIn_range']
 simp [Std.Legacy.Range.size, List.range', p1, p2, e1]
 by_cases h1 : a = c <;> by_cases h2 : b = d <;> simp [h1, h2]
set_option maxHeartbeats 3200000 in
set_option maxRecDepth 100000 in
theorem md (a b c mode : Int) (ha : I64 a) (hbb : I64 b) (hcc : I64 c) (h1 : 1 ≤ mode) (h2 : mode ≤ 5) (hc : (c == 0) = false) (hcn : 0 < c.natAbs) (w : World) :
  Calls Tryd.prog 26 #[.int .i64 a, .int .i64 b, .int .i64 c, .int .i64 mode] w fun e w' => e = .returned (.tuple #[.int .i64 (mulDivS a b c mode).1, .int .i64 (mulDivS a b c mode).2]) ∧ Below w.heap.size w w' := by
 obtain ⟨x, hx⟩ : ∃ x : Nat, x = a.natAbs := ⟨_, rfl⟩
 obtain ⟨y, hy⟩ : ∃ y : Nat, y = b.natAbs := ⟨_, rfl⟩
 obtain ⟨z, hz⟩ : ∃ z : Nat, z = c.natAbs := ⟨_, rfl⟩
 rw [← hz] at hcn
 have hxb : x < 18446744073709551616 := by unfold I64 at ha; omega
 have hyb : y < 18446744073709551616 := by unfold I64 at hbb; omega
 have hzb : z < 18446744073709551616 := by unfold I64 at hcc; omega
 have HXB := Aside0.mk hxb
 have HYB := Aside0.mk hyb
 have HZB := Aside0.mk hzb
 have HIa := Aside0.mk ha
 have HIb := Aside0.mk hbb
 have HIc := Aside0.mk hcc
 clear hxb hyb hzb ha hbb hcc
 have HX := Aside0.mk hx
 have HY := Aside0.mk hy
 have HZ := Aside0.mk hz
 clear hx hy hz
 go_enter Tryd.func26, Tryd.ntmps26
 go_wp2_with fail
 refine (mag a HIa.out _).mono ?_
 rintro e w' ⟨rfl, rfl⟩
 rw [← HX.out]
 go_wp2_with fail
 refine (mag b HIb.out _).mono ?_
 rintro e w' ⟨rfl, rfl⟩
 rw [← HY.out]
 go_wp2_with fail
 refine (mulx x y HXB.out HYB.out _).mono ?_
 rintro e w1 ⟨rfl, rfl⟩
 generalize hphi : x * y / 18446744073709551616 = phi
 generalize hplo : x * y % 18446744073709551616 = plo
 have HPhi := Aside0.mk hphi
 have HPlo := Aside0.mk hplo
 clear hphi hplo
 have hg : Tryd.prog.eqGuardType Tryd.prog.depth 59 = false := by kernel_rfl
 obtain ⟨pz, hpz⟩ : ∃ pz : Bool, pz = ((phi : Int) == 0 && (plo : Int) == 0) := ⟨_, rfl⟩
 have hne := fun W => eq59 (phi : Int) (plo : Int) 0 0 W
 rw [← hpz] at hne
 have HPZ := Aside0.mk hpz
 clear hpz
 obtain ⟨ng, hng⟩ : ∃ ng : Bool, ng = (!pz && ((!(!decide (a < 0) == decide (b < 0)) == decide (c < 0)))) := ⟨_, rfl⟩
 have HNG := Aside0.mk hng
 clear hng
 go_upto_region 6 with fail
 go_cut [11] (fun s11 wx => s11 = .bool ng ∧ wx = (w.alloc (.cells #[.int .u64 phi, .int .u64 plo] 59)).alloc (.cells #[.int .u64 phi, .int .u64 plo] 59))
 case first =>
  cases pz
  ·go_wp2_with fail
   go_meet
   exact ⟨by rw [HNG.out]; rfl, rfl⟩
  ·go_wp2_with fail
   go_meet
   exact ⟨by rw [HNG.out]; rfl, rfl⟩
 case rest =>
  obtain ⟨rfl, rfl⟩ := hcut
  clear hne hg
  have hdiv := fun W => divide_calls phi plo z (md_hi HPhi.out HXB.out HYB.out) (by have := HPlo.out; omega) hcn HZB.out W
  generalize hQ0 : phi / z = Q0 at hdiv
  generalize hQ1 : (phi % z * 18446744073709551616 + plo) / z = Q1 at hdiv
  generalize hR : (phi % z * 18446744073709551616 + plo) % z = R at hdiv
  have HQ0 := Aside0.mk hQ0
  have HQ1 := Aside0.mk hQ1
  have HR := Aside0.mk hR
  have HDiv := Aside0.mk hdiv
  clear hQ0 hQ1 hR hdiv
  go_upto_region 7 with fail
  go_cut [12, 13] (fun s12 s13 wx => ∃ g : Nat, s12 = .pointer (some ⟨g, 0, none⟩) ∧ s13 = .int .u64 R ∧ wx.cell? ⟨g, 0, none⟩ = some (.int .u64 Q0) ∧ wx.cell? ⟨g, 1, none⟩ = some (.int .u64 Q1) ∧ wx.frozen? ⟨g, 0, none⟩ = false ∧ Below w.heap.size w wx)
  case first =>
   go_region_with (first
    | (go_at_call 38; refine (mag c HIc.out _).mono ?_; rintro e w' ⟨rfl, rfl⟩; rw [← HZ.out])
    | (go_at_call 39; refine (HDiv.out _).mono ?_; rintro e w2 ⟨rfl, rfl⟩))
   all_goals (go_wp2_with fail; go_meet; refine ⟨_, rfl, rfl, ?_, ?_, ?_, ?_⟩)
   all_goals first | (go_simp; done) | (simp [World.cell?_alloc_new]; done) | (repeat (first | exact Below.refl _ _ | refine Below.drew ?_ | refine Below.alloc ?_ (by simp; try omega) _ | refine Below.setCell ?_ (by simp; try omega) _))
  case rest =>
   obtain ⟨g, rfl, rfl, hc0, hc1, hf0, hbel⟩ := hcut
   rename World => wx
   have HBel := Aside0.mk hbel
   clear hbel
   have hR : R < z := by rw [← HR.out]; exact Nat.mod_lt _ hcn
   have HAd := Aside0.mk (fun W => away_any mode ng (decide (Q1 % 2 = 1)) R z hR HZB.out W)
   have HFin := Aside0.mk (fun h => md_fin a b c mode x y z phi plo Q0 Q1 R pz ng HX.out HY.out HZ.out HPhi.out HPlo.out HQ0.out HQ1.out HR.out HPZ.out HNG.out hcn h)
   have hQ1 : Q1 < 18446744073709551616 := md_q1 hcn HPlo.out HQ1.out
   clear hR
   have hodd : ((Q1 : Int) % 2 == 1) = decide (Q1 % 2 = 1) := by rw [Bool.eq_iff_iff, beq_iff_eq, decide_eq_true_iff]; omega
   have HOdd := Aside0.mk hodd
   clear hodd
   by_cases hq : Q0 = 0
   ·have hm := (HFin.out ⟨h1, h2⟩).1 hq
    have HM := Aside0.mk hm
    clear hm
    go_wp2_with fail
    refine (mag c HIc.out _).mono ?_
    rintro e w' ⟨rfl, rfl⟩
    rw [← HZ.out]
    go_wp2_with fail
    rw [HOdd.out]
    refine (HAd.out _).mono ?_
    rintro e w' ⟨rfl, rfl⟩
    generalize haw : mdAway mode ng (decide (Q1 % 2 = 1)) R z = aw
    rw [haw] at HM
    clear haw
    cases aw
    ·go_wp2_with fail
     refine (signed_any ng Q1 hQ1 _).mono ?_
     rintro e w' ⟨rfl, rfl⟩
     go_wp2_with fail
     go_ret2
     exact ⟨by rw [HM.out]; rfl, HBel.out⟩
    ·by_cases hov : Q1 = 18446744073709551615
     ·have hwr : IntKind.u64.wrap ((Q1 : Int) + 1) = 0 := by rw [wu64]; omega
      have ho : mdSigned ng (Q1 + 1) = (0, 4) := by rw [hov]; exact mdSigned_big ng (by omega)
      have HO := Aside0.mk ho
      clear ho hov
      go_wp2_with fail
      go_ret2
      exact ⟨by rw [HM.out]; simp only [if_true]; rw [HO.out]; rfl, HBel.out⟩
     ·obtain ⟨Q2, hQ2⟩ : ∃ Q2, Q2 = Q1 + 1 := ⟨_, rfl⟩
      have hwr : IntKind.u64.wrap ((Q1 : Int) + 1) = (Q2 : Int) := by rw [wu64]; omega
      have hne0 : ((Q2 : Int) == 0) = false := by rw [beq_eq_false_iff_ne]; omega
      have hb2 : Q2 < 18446744073709551616 := by omega
      have HM2 := HM.out
      rw [if_pos rfl, ← hQ2] at HM2
      have HM3 := Aside0.mk HM2
      have HB2 := Aside0.mk hb2
      clear HM2 hb2 hov hQ1 hQ2
      go_wp2_with fail
      refine (signed_any ng Q2 HB2.out _).mono ?_
      rintro e w' ⟨rfl, rfl⟩
      go_wp2_with fail
      go_ret2
      exact ⟨by rw [HM3.out]; rfl, HBel.out⟩
   ·have hm := (HFin.out ⟨h1, h2⟩).2 hq
    have HM := Aside0.mk hm
    clear hm
    go_wp2_with fail
    go_ret2
    exact ⟨by rw [HM.out]; rfl, HBel.out⟩

def muldiv_MulDiv.f (a0 : Int) (a1 : Int) (a2 : Int) (a3 : Int) : Option (Int × Int) := if I64 a0 ∧ I64 a1 ∧ I64 a2 then some (mulDivS a0 a1 a2 a3) else none
theorem muldiv_MulDiv.calls (a0 : Int) (a1 : Int) (a2 : Int) (a3 : Int) (r1 : Int) (r2 : Int) (w : World) (h : muldiv_MulDiv.f a0 a1 a2 a3 = some (r1, r2)) :
  Calls Tryd.prog 26 #[.int .i64 a0, .int .i64 a1, .int .i64 a2, .int .i64 a3] w fun e w' => e = .returned (.tuple #[.int .i64 r1, .int .i64 r2]) ∧ Below w.heap.size w w' := by
 unfold muldiv_MulDiv.f at h
 split at h <;> simp only [Option.some.injEq, reduceCtorEq] at h
 rename_i hb
 have e1 : r1 = (mulDivS a0 a1 a2 a3).1 := by rw [h]
 have e2 : r2 = (mulDivS a0 a1 a2 a3).2 := by rw [h]
 subst e1 e2
 clear h
 by_cases hm : a3 < 1 ∨ 5 < a3
 ·have hs : mulDivS a0 a1 a2 a3 = (0, 10) := by unfold mulDivS; rw [if_pos hm]
  rw [hs]
  clear hb hs
  rcases hm with h1 | h1
  ·go_enter Tryd.func26, Tryd.ntmps26
   go_wp2
   go_ret2
   exact ⟨rfl, Below.refl _ _⟩
  ·have h2 : ¬ a3 < 1 := by omega
   go_enter Tryd.func26, Tryd.ntmps26
   go_wp2
   go_ret2
   exact ⟨rfl, Below.refl _ _⟩
 ·by_cases hc : a2 = 0
  ·have hs : mulDivS a0 a1 a2 a3 = (0, 2) := by unfold mulDivS; rw [if_neg hm, if_pos hc]
   rw [hs]
   clear hb hs
   subst hc
   have h1 : 1 ≤ a3 := by omega
   have h2 : a3 ≤ 5 := by omega
   clear hm
   go_enter Tryd.func26, Tryd.ntmps26
   go_wp2
   go_ret2
   exact ⟨rfl, Below.refl _ _⟩
  ·exact md a0 a1 a2 a3 hb.1 hb.2.1 hb.2.2 (by omega) (by omega) (by rw [beq_eq_false_iff_ne]; exact hc) (by omega) w

/-! ### money_Scale: function 10 (by hand) -/
set_option maxHeartbeats 1600000 in
theorem scale_any (a f t m : Int) (ha : I64 a) (w : World) (hG : Gl w) : Calls Tryd.prog 10 #[.int .i64 a, .int .i64 f, .int .i64 t, .int .i64 m] w fun e w' => e = .returned (.tuple #[.int .i64 (scaleS a f t m).1, .int .i64 (scaleS a f t m).2]) ∧ Below w.heap.size w w' := by
  have HG := Aside0.mk hG
  have HA := Aside0.mk ha
  clear hG ha
  generalize hP : (fun e w' => e = Ending.returned (.tuple #[.int .i64 (scaleS a f t m).1, .int .i64 (scaleS a f t m).2]) ∧ Below w.heap.size w w') = Post
  have HP := Aside0.mk hP
  clear hP
  by_cases m1 : m < 1
  · go_enter Tryd.func10, Tryd.ntmps10
    go_wp2_with fail
    rw [← HP.out]
    exact ⟨by rw [scaleS, if_pos (.inl m1)]; try rfl, Below.refl _ _⟩
  by_cases m5 : 5 < m
  · go_enter Tryd.func10, Tryd.ntmps10
    go_wp2_with fail
    rw [← HP.out]
    exact ⟨by rw [scaleS, if_pos (.inr m5)]; try rfl, Below.refl _ _⟩
  have hf := fits_any f
  have ht := fits_any t
  change ∀ w, Calls _ _ _ _ fun e w' => e = .returned (.bool (fitsB f)) ∧ _ at hf
  change ∀ w, Calls _ _ _ _ fun e w' => e = .returned (.bool (fitsB t)) ∧ _ at ht
  have Hf := Aside0.mk hf
  have Ht := Aside0.mk ht
  have E0 : Aside0 (scaleS a f t m = _) := ⟨by rw [scaleS, if_neg (by omega)]⟩
  clear hf ht
  have Bf := Aside0.mk (fitsB_iff f)
  have Bt := Aside0.mk (fitsB_iff t)
  cases hbf : fitsB f
  · rw [hbf] at Hf E0
    go_enter Tryd.func10, Tryd.ntmps10
    go_wp2_with fail
    refine (Hf.out _).mono ?_
    rintro e w' ⟨rfl, rfl⟩
    go_wp2_with fail
    rw [← HP.out]
    exact ⟨by rw [E0.out]; rfl, Below.refl _ _⟩
  have Hf0 := Hf
  cases hbt : fitsB t
  · rw [hbf, hbt] at E0; rw [hbf] at Hf; rw [hbt] at Ht
    go_enter Tryd.func10, Tryd.ntmps10
    go_wp2_with fail
    refine (Hf.out _).mono ?_
    rintro e w' ⟨rfl, rfl⟩
    go_wp2_with fail
    refine (Ht.out _).mono ?_
    rintro e w' ⟨rfl, rfl⟩
    go_wp2_with fail
    rw [← HP.out]
    exact ⟨by rw [E0.out]; rfl, Below.refl _ _⟩
  obtain ⟨f0, f4⟩ := Bf.out.mp hbf
  obtain ⟨t0, t4⟩ := Bt.out.mp hbt
  rw [hbf, hbt] at E0; rw [hbf] at Hf; rw [hbt] at Ht
  have hfar := far_any a
  change ∀ w, Calls _ _ _ _ fun e w' => e = .returned (.bool (farB a)) ∧ _ at hfar
  have HFar := Aside0.mk hfar
  clear hfar hbf hbt Bf Bt
  cases hfa : farB a
  · rw [hfa] at E0 HFar
    have G1 := HG.out.pow f f0 f4
    have G2 := HG.out.pow t t0 t4
    have I1 := Aside0.mk (pow10_I64 f f4)
    have I2 := Aside0.mk (pow10_I64 t t4)
    generalize pow10 f.toNat = pf at *
    generalize pow10 t.toNat = pt at *
    have hf5 : f < 5 := by omega
    have ht5 : t < 5 := by omega
    go_enter Tryd.func10, Tryd.ntmps10
    go_wp2_with fail
    refine (Hf.out _).mono ?_
    rintro e w' ⟨rfl, rfl⟩
    go_wp2_with fail
    refine (Ht.out _).mono ?_
    rintro e w' ⟨rfl, rfl⟩
    go_wp2_with fail
    refine (HFar.out _).mono ?_
    rintro e w' ⟨rfl, rfl⟩
    have HM := Aside0.mk (fun W => muldiv_MulDiv.calls a pt pf m (mulDivS a pt pf m).1 (mulDivS a pt pf m).2 W (by unfold muldiv_MulDiv.f; rw [if_pos ⟨HA.out, I2.out, I1.out⟩]))
    generalize mulDivS a pt pf m = R at *
    obtain ⟨n, e⟩ := R
    dsimp only at HM E0
    go_wp2_with fail
    go_region_with (first | (go_at_call 26; refine (HM.out _).mono ?_; rintro e_ w1 ⟨rfl, hb⟩))
    all_goals
     have HB := Aside0.mk (show Below w.heap.size w w1 from Below.trans zq13 hb)
     clear hb
     by_cases he : e = 0
     · subst he
       have hfn := far_any n
       change ∀ w, Calls _ _ _ _ fun e w' => e = .returned (.bool (farB n)) ∧ _ at hfn
       have HFn := Aside0.mk hfn
       clear hfn
       cases hfb : farB n
       · rw [hfb] at HFn E0
         go_wp2_with fail
         refine (HFn.out _).mono ?_
         rintro e w' ⟨rfl, rfl⟩
         go_wp2_with fail
         rw [← HP.out]
         exact ⟨by rw [E0.out]; rfl, HB.out⟩
       · rw [hfb] at HFn E0
         go_wp2_with fail
         refine (HFn.out _).mono ?_
         rintro e w' ⟨rfl, rfl⟩
         go_wp2_with fail
         rw [← HP.out]
         exact ⟨by rw [E0.out]; rfl, HB.out⟩
     · have he1 : (e == 0) = false := by simpa using he
       have he2 : (e != 0) = true := by simpa using he
       go_wp2_with fail
       rw [← HP.out]
       exact ⟨by rw [E0.out]; simp [he], HB.out⟩
  · rw [hfa] at E0 HFar
    go_enter Tryd.func10, Tryd.ntmps10
    go_wp2_with fail
    refine (Hf.out _).mono ?_
    rintro e w' ⟨rfl, rfl⟩
    go_wp2_with fail
    refine (Ht.out _).mono ?_
    rintro e w' ⟨rfl, rfl⟩
    go_wp2_with fail
    refine (HFar.out _).mono ?_
    rintro e w' ⟨rfl, rfl⟩
    go_wp2_with fail
    rw [← HP.out]
    exact ⟨by rw [E0.out]; rfl, Below.refl _ _⟩
def money_Scale.f (a0 : Int) (a1 : Int) (a2 : Int) (a3 : Int) : Option (Int × Int) := if I64 a0 then some (scaleS a0 a1 a2 a3) else none
theorem money_Scale.calls (a0 : Int) (a1 : Int) (a2 : Int) (a3 : Int) (r1 : Int) (r2 : Int) (w : World) (h : money_Scale.f a0 a1 a2 a3 = some (r1, r2)) (hG : Gl w) :
    Calls Tryd.prog 10 #[.int .i64 a0, .int .i64 a1, .int .i64 a2, .int .i64 a3] w fun e w' => e = .returned (.tuple #[.int .i64 r1, .int .i64 r2]) ∧ Below w.heap.size w w' := by
  unfold money_Scale.f at h
  split at h
  · rename_i hs
    have h' := Option.some.inj h
    have := scale_any a0 a1 a2 a3 hs w hG
    rw [h'] at this
    exact this
  · cases h

/-! ### num_size: function 43 (by hand) -/
def num_size.f (a0 : Int) : Option (Int) := if I64 a0 then some (a0.natAbs : Int) else none
theorem num_size.same (a0 : Int) (hb : I64 a0) (w : World) :
  Calls Tryd.prog 43 #[.int .i64 a0] w fun e w' => e = .returned (.int .u64 (a0.natAbs : Int)) ∧ w = w' := by
 obtain ⟨h0, h1⟩ := hb
 by_cases h : a0 < 0
 ·go_enter Tryd.func43, Tryd.ntmps43
  go_wp2
  go_ret
  exact ⟨ret_int (by rw [wu64, wu64]; omega), rfl⟩
 ·go_enter Tryd.func43, Tryd.ntmps43
  go_wp2
  go_ret
  exact ⟨ret_int (by omega), rfl⟩
theorem num_size.calls (a0 : Int) (r : Int) (w : World) (h : num_size.f a0 = some r) :
  Calls Tryd.prog 43 #[.int .i64 a0] w fun e w' => e = .returned (.int .u64 r) ∧ Drawn0 w w' := by
 unfold num_size.f at h
 split at h <;> simp only [Option.some.injEq, reduceCtorEq] at h
 rename_i hb
 subst h
 refine (num_size.same a0 hb w).mono ?_
 rintro e w' ⟨rfl, rfl⟩
 exact ⟨rfl, Drawn0.refl _⟩


/-! ### num_Text: function 30 (by hand) -/
theorem sl20 (W : World) (b m : Nat) (z : Int) (hz : z = (m : Int)) (h : m < 20) :
  (Instr.sliceAt 66 (.pointer (some ⟨b, 0, none⟩)) (some (.int .i64 z)) none none).run Tryd.prog W = .ok (.slice (some ⟨b, m, none⟩) (20 - m) (20 - m)) W := by
 subst hz
 have e1 : Tryd.prog.arrayLen 66 = 20 := by kernel_rfl
 have e2 : Tryd.prog.elem 66 = 5 := by kernel_rfl
 rw [run_sliceAt_array_l W 66 ⟨b, 0, none⟩ (by rw [e1, e2]; exact Tryd.underlying66) .i64 (m : Int) (by omega) (by rw [e1]; omega), e1, e2]
 have e3 : (Go.sizeOf 5).run Tryd.prog W = .ok 1 W := by kernel_rfl
 rw [e3]
 simp only [Result.andThen, slicedAt, Int.toNat_natCast, if_neg (show ¬ 20 = m by omega), Nat.mul_one, add_plain']
set_option maxHeartbeats 800000 in
set_option maxRecDepth 100000 in
theorem num_Text.itoa_calls (n : Int) (h0 : -9223372036854775808 ≤ n) (h1 : n < 9223372036854775808) (w : World) : Calls Tryd.prog 30 #[.int .i64 n] w fun e w' => e = .returned (.string ⟨(Lib.itoa n).toArray⟩) ∧ Below w.heap.size w w' := by
 have HP := Lib.hid (@itoa_pos n)
 have HM := Lib.hid (@itoa_neg' n)
 obtain ⟨u, hu⟩ : ∃ u : Nat, u = n.natAbs := ⟨_, rfl⟩
 rw [← hu] at HP HM
 have hu1 : u ≤ 9223372036854775808 := by omega
 have HU := Lib.hid hu
 clear hu
 go_enter Tryd.func30, Tryd.ntmps30
 go_wp2_with fail
 refine (num_size.same n ⟨h0, by omega⟩ _).mono ?_
 rintro e w' ⟨rfl, rfl⟩
 rw [← HU.out]
 go_wp2_with fail
 go_loopw [4, 5, 8] (fun at_ left i wr => ∃ m k : Nat, m + k = 19 ∧ at_ = .int .i64 ((m : Int) + 1) ∧ left = .int .u64 ((u / 10 ^ k : Nat) : Int) ∧ i = .int .i64 (k : Int) ∧ wr = w.alloc (.cells (trow u (m + 1)) 66) ∧ (k = 0 ∨ u / 10 ^ k ≠ 0)) (fun _ _ i _ => (19 - (RowKit.intOf i).toNat))
 case atStart => exact ⟨19, 0, rfl, rfl, by simp, rfl, by rw [trow_start]; rfl, .inl rfl⟩
 case round =>
  obtain ⟨m, k, hmk, rfl, rfl, rfl, rfl, hz⟩ := hrel
  have HZ := Lib.hid hz
  have hv19 : k = 19 → u / 10 ^ k = 0 := by intro e; rw [e]; exact Nat.div_eq_of_lt (by omega)
  have hk : k < 19 := by
   rcases Nat.lt_or_ge k 19 with h | h
   ·exact h
   ·have := hv19 (by omega); omega
  have hk18 : k = 18 → u / 10 ^ k < 10 := by intro e; rw [e]; omega
  clear hz hv19
  have HS := Lib.hid (trow_set u m k _ hmk rfl)
  have HY := Lib.hid (trow_digits u m k hmk)
  obtain ⟨v, hv⟩ : ∃ v, v = u / 10 ^ k := ⟨_, rfl⟩
  have hvle : v ≤ u := by rw [hv]; exact Nat.div_le_self _ _
  have hvq : u / 10 ^ (k + 1) = v / 10 := by rw [hv, Nat.pow_succ, Nat.div_div_eq_div_mul]
  rw [← hv] at HZ HS HY hk18 ⊢
  have HV := Lib.hid hv
  clear hv
  have hX := trow_at u (m + 1) m (by omega)
  obtain ⟨X, HX⟩ : ∃ X, X = trow u (m + 1) := ⟨_, rfl⟩
  obtain ⟨Y, HYY⟩ : ∃ Y, Y = trow u m := ⟨_, rfl⟩
  have HYA := Lib.hid (fun i h => trow_at u m i h)
  rw [← HX] at hX HS ⊢
  rw [← HYY] at HS HY HYA
  rw [if_neg (by omega)] at hX
  have HXX := Lib.hid HX
  clear HX
  have HYY' := Lib.hid HYY
  clear HYY
  have hset : X.setIfInBounds m (Value.int IntKind.u8 (48 + (v : Int) % 10)) = Y := by rw [← HS.out]; congr 2
  by_cases hv0 : v / 10 = 0
  ·obtain ⟨hl, hd⟩ := HY.out (by rw [hvq]; exact hv0) HZ.out
   clear hk18
   have hb0 : ((v : Int) / 10 == 0) = true := by rw [beq_iff_eq]; omega
   by_cases hn : n < 0
   ·obtain ⟨j, rfl⟩ : ∃ j, m = j + 1 := ⟨m - 1, by omega⟩
    have hY := HYA.out j (by omega)
    rw [if_neg (by omega)] at hY
    obtain ⟨Z, HZZ⟩ : ∃ Z, Z = Y.setIfInBounds j (.int .u8 45) := ⟨_, rfl⟩
    have hset2 : Y.setIfInBounds j (.int .u8 45) = Z := HZZ.symm
    have hsl := fun W b => sl20 W b j j rfl (by omega)
    have hcv := fun cap => conv_row (P := Tryd.prog) w 66 67 9 5 Tryd.underlying67 Tryd.underlying5 Tryd.underlying9 Z j (20 - j) cap (45 :: Lib.decDigits u) (by simp only [List.length_cons]; omega) (fun i hi => by
     subst HZZ
     rcases i with _ | i
     ·rw [Nat.add_zero, Array.getElem?_setIfInBounds, if_pos rfl, if_pos (by rw [HYY'.out, trow_size]; omega)]; rfl
     ·rw [Array.getElem?_setIfInBounds, if_neg (by omega), show j + (i + 1) = j + 1 + i by omega, hd i (by simpa using hi)]; rfl)
    clear hl hd hv0 HZZ hvq
    go_wp2_with fail
    go_ret
    refine ⟨by rw [HM.out hn]; rfl, ?_⟩
    exact (Below.refl _ _).alloc (Nat.le_refl _) _
   ·have hsl := fun W b => sl20 W b m m rfl (by omega)
    have hcv := fun cap => conv_row (P := Tryd.prog) w 66 67 9 5 Tryd.underlying67 Tryd.underlying5 Tryd.underlying9 Y m (20 - m) cap (Lib.decDigits u) hl hd
    clear hl hd hv0 hvq
    go_wp2_with fail
    go_ret
    refine ⟨by rw [HP.out (by omega)]; rfl, ?_⟩
    exact (Below.refl _ _).alloc (Nat.le_refl _) _
  ·have hb0 : ((v : Int) / 10 == 0) = false := by rw [beq_eq_false_iff_ne]; omega
   clear hk18
   clear HY HYA
   have HQ := Lib.hid hvq
   clear hvq
   have HV0 := Lib.hid hv0
   clear hv0
   go_wp2_with fail
   go_roundw
   case rel =>
    obtain ⟨j, rfl⟩ : ∃ j, m = j + 1 := ⟨m - 1, by omega⟩
    exact ⟨j, k + 1, by omega, by go_num, by rw [HQ.out]; go_num, by go_num, by rw [HYY'.out], .inr (by rw [HQ.out]; exact HV0.out)⟩
   case measure => simp [RowKit.intOf]; omega
def num_Text.f (a0 : Int) : Option (ByteArray) := if I64 a0 then some ⟨(Lib.itoa a0).toArray⟩ else none
theorem num_Text.calls (a0 : Int) (r : ByteArray) (w : World) (h : num_Text.f a0 = some r) :
  Calls Tryd.prog 30 #[.int .i64 a0] w fun e w' => e = .returned (.string r) ∧ Below w.heap.size w w' := by
 unfold num_Text.f at h
 split at h <;> simp only [Option.some.injEq, reduceCtorEq] at h
 rename_i hb
 subst h
 exact num_Text.itoa_calls a0 hb.1 (by have := hb.2; omega) w


/-! ### money_Text: function 14 (by hand) -/
set_option maxHeartbeats 6400000 in
theorem text_any (a d : Int) (w : World) (hG : Gl w) : Calls Tryd.prog 14 #[.int .i64 a, .int .i64 d] w fun e w' => e = .returned (.tuple #[.string (textS a d).1, .int .i64 (textS a d).2]) ∧ Below w.heap.size w w' := by
 have HG := Aside0.mk hG
 clear hG
 generalize hP : (fun e w' => e = Ending.returned (.tuple #[.string (textS a d).1, .int .i64 (textS a d).2]) ∧ Below w.heap.size w w') = Post
 have HP := Aside0.mk hP
 clear hP
 have hf := fits_any d
 change ∀ w, Calls _ _ _ _ fun e w' => e = .returned (.bool (fitsB d)) ∧ _ at hf
 have Hf := Aside0.mk hf
 have E0 : Aside0 (textS a d = _) := ⟨by rw [textS]⟩
 clear hf
 cases hbf : fitsB d
 ·rw [hbf] at Hf E0
  go_enter Tryd.func14, Tryd.ntmps14
  go_wp2_with fail
  refine (Hf.out _).mono ?_
  rintro e w' ⟨rfl, rfl⟩
  go_wp2_with fail
  rw [← HP.out]
  exact ⟨by rw [E0.out]; rfl, Below.refl _ _⟩
 obtain ⟨d0, d4⟩ := (fitsB_iff d).mp hbf
 rw [hbf] at E0 Hf
 clear hbf
 have hfar := far_any a
 change ∀ w, Calls _ _ _ _ fun e w' => e = .returned (.bool (farB a)) ∧ _ at hfar
 have HFar := Aside0.mk hfar
 clear hfar
 cases hfa : farB a
 rotate_left
 ·rw [hfa] at E0 HFar
  go_enter Tryd.func14, Tryd.ntmps14
  go_wp2_with fail
  refine (Hf.out _).mono ?_
  rintro e w' ⟨rfl, rfl⟩
  go_wp2_with fail
  refine (HFar.out _).mono ?_
  rintro e w' ⟨rfl, rfl⟩
  go_wp2_with fail
  rw [← HP.out]
  exact ⟨by rw [E0.out]; rfl, Below.refl _ _⟩
 rw [hfa] at E0 HFar
 have hnf : ¬ (1000000000000000 < a ∨ a < -1000000000000000) := fun h => by rw [(farB_iff a).mpr h] at hfa; cases hfa
 clear hfa
 have G1 := HG.out.pow d d0 d4
 have hd5 : d < 5 := by omega
 obtain ⟨x, hx⟩ : ∃ x : Nat, x = a.natAbs := ⟨_, rfl⟩
 obtain ⟨p, hp⟩ : ∃ p : Nat, p = 10 ^ d.toNat := ⟨_, rfl⟩
 obtain ⟨p1, p2⟩ := pow_le4 d.toNat (by omega)
 rw [← hp] at p1 p2
 have hpp : pow10 d.toNat = (p : Int) := by rw [hp]; rfl
 rw [hpp] at G1
 have hxb : x ≤ 1000000000000000 := by omega
 obtain ⟨q, hq⟩ : ∃ q : Nat, q = x / p := ⟨_, rfl⟩
 obtain ⟨r, hr⟩ : ∃ r : Nat, r = p + x % p := ⟨_, rfl⟩
 have hqb : q ≤ 1000000000000000 := by rw [hq]; exact Nat.le_trans (Nat.div_le_self _ _) hxb
 have hrb : r ≤ 20000 := by have := Nat.mod_lt x p1; omega
 have hqI : I64 (q : Int) := by unfold I64; omega
 have hrI : I64 (r : Int) := by unfold I64; omega
 have HTq := Aside0.mk (fun W => num_Text.calls (q : Int) (itB q) W (by unfold num_Text.f; rw [if_pos hqI]; rfl))
 have HTr := Aside0.mk (fun W => num_Text.calls (r : Int) (itB r) W (by unfold num_Text.f; rw [if_pos hrI]; rfl))
 have hp0 : ((p : Int) == 0) = false := by rw [beq_eq_false_iff_ne]; omega
 have hdiv : Int.tdiv (x : Int) (p : Int) = (q : Int) := by rw [hq]; exact Int.ofNat_tdiv x p
 have hmod : (p : Int) + Int.tmod (x : Int) (p : Int) = (r : Int) := by rw [hr, Int.natCast_add]; congr 1
 have ET : textB (if a < 0 then ⟨#[45]⟩ else ⟨#[]⟩) a.natAbs d = if d = 0 then (if a < 0 then ⟨#[45]⟩ else ⟨#[]⟩) ++ itB q else (if a < 0 then ⟨#[45]⟩ else ⟨#[]⟩) ++ itB q ++ ⟨#[46]⟩ ++ (itB r).extract 1 (itB r).size := by rw [textB, ← hp, ← hx, ← hq, ← hr]
 rw [ET] at E0
 have sq := itB_size q hqI
 have sr := itB_size r hrI
 have sr1 := itB_pos r
 clear hqI hrI ET
 generalize itB q = Bq at *
 generalize itB r = Br at *
 have hdw : wrap64 ((x : Int) / (p : Int)) = (q : Int) := by
  rw [← Int.natCast_ediv, ← hq]; unfold wrap64; omega
 have hmw : IntKind.i64.wrap ((p : Int) + (x : Int) % (p : Int)) = (r : Int) := by
  rw [← Int.natCast_emod, ← Int.natCast_add, ← hr]; exact IntWalk.i64_in _ (by omega)
 have HPP := Aside0.mk hpp
 clear hdiv hmod
 by_cases ha : a < 0
 ·have hw : IntKind.i64.wrap (-a) = (x : Int) := by rw [IntWalk.i64_in _ (by omega)]; omega
  rw [if_pos ha] at E0
  clear hnf hx hq hr hpp hp
  by_cases hd0 : d = 0
  ·have HD := Aside0.mk hd0
   rw [if_pos hd0] at E0
   clear hd0
   go_enter Tryd.func14, Tryd.ntmps14
   go_wp2_with fail
   refine (Hf.out _).mono ?_
   rintro e w' ⟨rfl, rfl⟩
   go_wp2_with fail
   refine (HFar.out _).mono ?_
   rintro e w' ⟨rfl, rfl⟩
   go_wp2_with fail
   rw [hdw]
   refine (HTq.out _).mono ?_
   rintro e w1 ⟨rfl, hb⟩
   have HB := Aside0.mk hb
   have hd0 := HD.out
   clear hb G1
   go_wp2_with fail
   rw [← HP.out]
   exact ⟨by rw [E0.out]; (try rfl), HB.out⟩
  ·have hd0b : (d == 0) = false := by simpa using hd0
   rw [if_neg hd0] at E0
   go_enter Tryd.func14, Tryd.ntmps14
   go_wp2_with fail
   refine (Hf.out _).mono ?_
   rintro e w' ⟨rfl, rfl⟩
   go_wp2_with fail
   refine (HFar.out _).mono ?_
   rintro e w' ⟨rfl, rfl⟩
   go_wp2_with fail
   rw [hdw]
   refine (HTq.out _).mono ?_
   rintro e w1 ⟨rfl, hb⟩
   have HB := Aside0.mk hb
   have G2 := (gl_below HG.out hb).pow d d0 d4
   rw [HPP.out] at G2
   clear hb
   go_wp2_with fail
   clear hd0b
   have HX := Aside0.mk sr1
   go_region_with (first | (go_at_call 30; refine (HTr.out _).mono ?_; rintro e_ w2 ⟨rfl, hb2⟩))
   all_goals
    have HB2 := Aside0.mk (show Below w.heap.size w w2 from HB.out.trans ((Below.trans zq13 hb2).mono HB.out.size))
    clear hb2 G2
    go_wp2_with fail
    rw [← HP.out]
    exact ⟨by rw [E0.out]; (try rfl), by repeat (first | exact HB2.out | apply pw_below_drewN | apply below_drew1)⟩
 ·obtain rfl : a = (x : Int) := by omega
  rw [if_neg ha] at E0
  clear hnf hx hq hr hpp hp
  by_cases hd0 : d = 0
  ·have HD := Aside0.mk hd0
   rw [if_pos hd0] at E0
   clear hd0
   go_enter Tryd.func14, Tryd.ntmps14
   go_wp2_with fail
   refine (Hf.out _).mono ?_
   rintro e w' ⟨rfl, rfl⟩
   go_wp2_with fail
   refine (HFar.out _).mono ?_
   rintro e w' ⟨rfl, rfl⟩
   go_wp2_with fail
   rw [hdw]
   refine (HTq.out _).mono ?_
   rintro e w1 ⟨rfl, hb⟩
   have HB := Aside0.mk hb
   have hd0 := HD.out
   clear hb G1
   go_wp2_with fail
   rw [← HP.out]
   exact ⟨by rw [E0.out]; (try rfl), HB.out⟩
  ·have hd0b : (d == 0) = false := by simpa using hd0
   rw [if_neg hd0] at E0
   go_enter Tryd.func14, Tryd.ntmps14
   go_wp2_with fail
   refine (Hf.out _).mono ?_
   rintro e w' ⟨rfl, rfl⟩
   go_wp2_with fail
   refine (HFar.out _).mono ?_
   rintro e w' ⟨rfl, rfl⟩
   go_wp2_with fail
   rw [hdw]
   refine (HTq.out _).mono ?_
   rintro e w1 ⟨rfl, hb⟩
   have HB := Aside0.mk hb
   have G2 := (gl_below HG.out hb).pow d d0 d4
   rw [HPP.out] at G2
   clear hb
   go_wp2_with fail
   clear hd0b
   have HX := Aside0.mk sr1
   go_region_with (first | (go_at_call 30; refine (HTr.out _).mono ?_; rintro e_ w2 ⟨rfl, hb2⟩))
   all_goals
    have HB2 := Aside0.mk (show Below w.heap.size w w2 from HB.out.trans ((Below.trans zq13 hb2).mono HB.out.size))
    clear hb2 G2
    go_wp2_with fail
    rw [← HP.out]
    exact ⟨by rw [E0.out]; (try rfl), by repeat (first | exact HB2.out | apply pw_below_drewN | apply below_drew1)⟩
def money_Text.f (a0 : Int) (a1 : Int) : Option (ByteArray × Int) := some (textS a0 a1)
theorem money_Text.calls (a0 : Int) (a1 : Int) (r1 : ByteArray) (r2 : Int) (w : World) (h : money_Text.f a0 a1 = some (r1, r2)) (hG : Gl w) :
  Calls Tryd.prog 14 #[.int .i64 a0, .int .i64 a1] w fun e w' => e = .returned (.tuple #[.string r1, .int .i64 r2]) ∧ Below w.heap.size w w' := by
 have h' := Option.some.inj h
 have := text_any a0 a1 w hG
 rw [h'] at this
 exact this

/-! ### money_digit: function 44 -/
def money_digit.f (a0 : Int) : Option (Bool) := if a0 ≥ 48 then (some (decide (a0 ≤ 57))) else (some false)
set_option maxHeartbeats 8000000 in
set_option maxRecDepth 100000 in
theorem money_digit.calls (a0 : Int) (r : Bool) (w : World) (h : money_digit.f a0 = some r) :
  Calls Tryd.prog 44 #[.int .i32 a0] w fun e w' => e = .returned (.bool r) ∧ Drawn0 w w' := by
 have H : (if a0 ≥ 48 then (some (decide (a0 ≤ 57))) else (some false)) = some r := h
 clear h
 by_cases c2 : a0 ≥ 48
 ·rw [if_pos c2] at H
  have c2b0 : decide (48 ≤ a0) = true := decide_eq_true c2
  clear c2
  obtain rfl := Option.some.inj H
  go_enter Tryd.func44, Tryd.ntmps44
  go_wp2
  go_ret
  exact ⟨zq1, zq2⟩
 ·rw [if_neg c2] at H
  have c2b0 : decide (48 ≤ a0) = false := decide_eq_false c2
  clear c2
  obtain rfl := Option.some.inj H
  go_enter Tryd.func44, Tryd.ntmps44
  go_wp2
  go_ret
  exact ⟨zq1, zq2⟩

end Go.Proofs.YthmpapnhomngnaaDoor.A
