-- By gen.py, a program of this session's, over the print's forms: not the print's own text.
import Derived.Test.YthmpapnhomngnaaDoorAx0
import Derived.Test.YthmpapnhomngnaaDoorAx1
namespace Go.Proofs.YthmpapnhomngnaaDoor.A
open Go.RowKit Go.Proofs.YthmpapnhomngnaaDoor.B Go.Proofs.YthmpapnhomngnaaDoorW.PrintWords Go.Proofs.YthmpapnhomngnaaDoorW.PrintLast Go.Proofs.YthmpapnhomngnaaDoorW.PrintMore
attribute [local go_sem] max2_int min2_int max_two min_two max_three min_three max_four min_four   -- for this text's walks alone
set_option linter.unusedVariables false
set_option linter.unusedSimpArgs false

/-! ### muldiv_MulDiv: function 26 (by hand) -/
theorem eq59 (a b c d : Int) (W : World) : (Op.equalIn 10000 59 (.agg #[.int .u64 a, .int .u64 b]) (.agg #[.int .u64 c, .int .u64 d])).run Tryd.prog W = .ok (a == c && b == d) W := by
  have hs : ∀ W, (Go.sizeOf 57).run Tryd.prog W = .ok 1 W := fun _ => by kernel_rfl
  have p1 : ∀ (x y : Int) W, (part 57 #[.int .u64 x, .int .u64 y] 0).run Tryd.prog W = .ok (.int .u64 x) W := fun _ _ _ => by kernel_rfl
  have p2 : ∀ (x y : Int) W, (part 57 #[.int .u64 x, .int .u64 y] 1).run Tryd.prog W = .ok (.int .u64 y) W := fun _ _ _ => by kernel_rfl
  have e1 : ∀ (x y : Int) W, (Op.equalIn 9999 57 (.int .u64 x) (.int .u64 y)).run Tryd.prog W = .ok (x == y) W := fun x y W => run_equalIn_int W 9998 57 .u64 .u64 x y Tryd.underlying57
  rw [show (10000 : Nat) = 9999 + 1 from rfl, Op.equalIn]
  simp only [Sem.run_bind, run_underlying Tryd.underlying59, Result.andThen_ok, hs]
  rw [Std.Legacy.Range.forIn_eq_forIn_range']
  simp [Std.Legacy.Range.size, List.range', p1, p2, e1]
  by_cases h1 : a = c <;> by_cases h2 : b = d <;> simp [h1, h2]
set_option maxHeartbeats 3200000 in
set_option maxRecDepth 100000 in
theorem md (a b c mode : Int) (ha : I64 a) (hbb : I64 b) (hcc : I64 c) (h1 : 1 ≤ mode) (h2 : mode ≤ 5) (hc : (c == 0) = false) (hcn : 0 < c.natAbs) (w : World) :
    Calls Tryd.prog 26 #[.int .i64 a, .int .i64 b, .int .i64 c, .int .i64 mode] w fun e w' => e = .returned (.tuple #[.int .i64 (mulDivS a b c mode).1, .int .i64 (mulDivS a b c mode).2]) ∧ Below w.heap.size w w' := by
  obtain ⟨x, hx⟩ : ∃ x : Nat, x = a.natAbs := ⟨_, rfl⟩
  obtain ⟨y, hy⟩ : ∃ y : Nat, y = b.natAbs := ⟨_, rfl⟩
  obtain ⟨z, hz⟩ : ∃ z : Nat, z = c.natAbs := ⟨_, rfl⟩
  rw [← hz] at hcn
  have hxb : x < 18446744073709551616 := by unfold I64 at ha; omega
  have hyb : y < 18446744073709551616 := by unfold I64 at hbb; omega
  have hzb : z < 18446744073709551616 := by unfold I64 at hcc; omega
  have HXB := Aside0.mk hxb
  have HYB := Aside0.mk hyb
  have HZB := Aside0.mk hzb
  have HIa := Aside0.mk ha
  have HIb := Aside0.mk hbb
  have HIc := Aside0.mk hcc
  clear hxb hyb hzb ha hbb hcc
  have HX := Aside0.mk hx
  have HY := Aside0.mk hy
  have HZ := Aside0.mk hz
  clear hx hy hz
  go_enter Tryd.func26, Tryd.ntmps26
  go_wp2_with fail
  refine (mag a HIa.out _).mono ?_
  rintro e w' ⟨rfl, rfl⟩
  rw [← HX.out]
  go_wp2_with fail
  refine (mag b HIb.out _).mono ?_
  rintro e w' ⟨rfl, rfl⟩
  rw [← HY.out]
  go_wp2_with fail
  refine (mulx x y HXB.out HYB.out _).mono ?_
  rintro e w1 ⟨rfl, rfl⟩
  generalize hphi : x * y / 18446744073709551616 = phi
  generalize hplo : x * y % 18446744073709551616 = plo
  have HPhi := Aside0.mk hphi
  have HPlo := Aside0.mk hplo
  clear hphi hplo
  have hg : Tryd.prog.eqGuardType Tryd.prog.depth 59 = false := by kernel_rfl
  obtain ⟨pz, hpz⟩ : ∃ pz : Bool, pz = ((phi : Int) == 0 && (plo : Int) == 0) := ⟨_, rfl⟩
  have hne := fun W => eq59 (phi : Int) (plo : Int) 0 0 W
  rw [← hpz] at hne
  have HPZ := Aside0.mk hpz
  clear hpz
  obtain ⟨ng, hng⟩ : ∃ ng : Bool, ng = (!pz && ((!(!decide (a < 0) == decide (b < 0)) == decide (c < 0)))) := ⟨_, rfl⟩
  have HNG := Aside0.mk hng
  clear hng
  go_upto_region 6 with fail
  go_cut [11] (fun s11 wx => s11 = .bool ng ∧ wx = (w.alloc (.cells #[.int .u64 phi, .int .u64 plo] 59)).alloc (.cells #[.int .u64 phi, .int .u64 plo] 59))
  case first =>
    cases pz
    · go_wp2_with fail
      go_meet
      exact ⟨by rw [HNG.out]; rfl, rfl⟩
    · go_wp2_with fail
      go_meet
      exact ⟨by rw [HNG.out]; rfl, rfl⟩
  case rest =>
    obtain ⟨rfl, rfl⟩ := hcut
    clear hne hg
    have hdiv := fun W => divide_calls phi plo z (md_hi HPhi.out HXB.out HYB.out) (by have := HPlo.out; omega) hcn HZB.out W
    generalize hQ0 : phi / z = Q0 at hdiv
    generalize hQ1 : (phi % z * 18446744073709551616 + plo) / z = Q1 at hdiv
    generalize hR : (phi % z * 18446744073709551616 + plo) % z = R at hdiv
    have HQ0 := Aside0.mk hQ0
    have HQ1 := Aside0.mk hQ1
    have HR := Aside0.mk hR
    have HDiv := Aside0.mk hdiv
    clear hQ0 hQ1 hR hdiv
    go_upto_region 7 with fail
    go_cut [12, 13] (fun s12 s13 wx => ∃ g : Nat, s12 = .pointer (some ⟨g, 0, none⟩) ∧ s13 = .int .u64 R ∧ wx.cell? ⟨g, 0, none⟩ = some (.int .u64 Q0) ∧ wx.cell? ⟨g, 1, none⟩ = some (.int .u64 Q1) ∧ wx.frozen? ⟨g, 0, none⟩ = false ∧ Below w.heap.size w wx)
    case first =>
      go_region_with (first
        | (go_at_call 38; refine (mag c HIc.out _).mono ?_; rintro e w' ⟨rfl, rfl⟩; rw [← HZ.out])
        | (go_at_call 39; refine (HDiv.out _).mono ?_; rintro e w2 ⟨rfl, rfl⟩))
      all_goals (go_wp2_with fail; go_meet; refine ⟨_, rfl, rfl, ?_, ?_, ?_, ?_⟩)
      all_goals first | (go_simp; done) | (simp [World.cell?_alloc_new]; done) | (repeat (first | exact Below.refl _ _ | refine Below.drew ?_ | refine Below.alloc ?_ (by simp; try omega) _ | refine Below.setCell ?_ (by simp; try omega) _))
    case rest =>
      obtain ⟨g, rfl, rfl, hc0, hc1, hf0, hbel⟩ := hcut
      rename World => wx
      have HBel := Aside0.mk hbel
      clear hbel
      have hR : R < z := by rw [← HR.out]; exact Nat.mod_lt _ hcn
      have HAd := Aside0.mk (fun W => away_any mode ng (decide (Q1 % 2 = 1)) R z hR HZB.out W)
      have HFin := Aside0.mk (fun h => md_fin a b c mode x y z phi plo Q0 Q1 R pz ng HX.out HY.out HZ.out HPhi.out HPlo.out HQ0.out HQ1.out HR.out HPZ.out HNG.out hcn h)
      have hQ1 : Q1 < 18446744073709551616 := md_q1 hcn HPlo.out HQ1.out
      clear hR
      have hodd : ((Q1 : Int) % 2 == 1) = decide (Q1 % 2 = 1) := by rw [Bool.eq_iff_iff, beq_iff_eq, decide_eq_true_iff]; omega
      have HOdd := Aside0.mk hodd
      clear hodd
      by_cases hq : Q0 = 0
      · have hm := (HFin.out ⟨h1, h2⟩).1 hq
        have HM := Aside0.mk hm
        clear hm
        go_wp2_with fail
        refine (mag c HIc.out _).mono ?_
        rintro e w' ⟨rfl, rfl⟩
        rw [← HZ.out]
        go_wp2_with fail
        rw [HOdd.out]
        refine (HAd.out _).mono ?_
        rintro e w' ⟨rfl, rfl⟩
        generalize haw : mdAway mode ng (decide (Q1 % 2 = 1)) R z = aw
        rw [haw] at HM
        clear haw
        cases aw
        · go_wp2_with fail
          refine (signed_any ng Q1 hQ1 _).mono ?_
          rintro e w' ⟨rfl, rfl⟩
          go_wp2_with fail
          go_ret2
          exact ⟨by rw [HM.out]; rfl, HBel.out⟩
        · by_cases hov : Q1 = 18446744073709551615
          · have hwr : IntKind.u64.wrap ((Q1 : Int) + 1) = 0 := by rw [wu64]; omega
            have ho : mdSigned ng (Q1 + 1) = (0, 4) := by rw [hov]; exact mdSigned_big ng (by omega)
            have HO := Aside0.mk ho
            clear ho hov
            go_wp2_with fail
            go_ret2
            exact ⟨by rw [HM.out]; simp only [if_true]; rw [HO.out]; rfl, HBel.out⟩
          · obtain ⟨Q2, hQ2⟩ : ∃ Q2, Q2 = Q1 + 1 := ⟨_, rfl⟩
            have hwr : IntKind.u64.wrap ((Q1 : Int) + 1) = (Q2 : Int) := by rw [wu64]; omega
            have hne0 : ((Q2 : Int) == 0) = false := by rw [beq_eq_false_iff_ne]; omega
            have hb2 : Q2 < 18446744073709551616 := by omega
            have HM2 := HM.out
            rw [if_pos rfl, ← hQ2] at HM2
            have HM3 := Aside0.mk HM2
            have HB2 := Aside0.mk hb2
            clear HM2 hb2 hov hQ1 hQ2
            go_wp2_with fail
            refine (signed_any ng Q2 HB2.out _).mono ?_
            rintro e w' ⟨rfl, rfl⟩
            go_wp2_with fail
            go_ret2
            exact ⟨by rw [HM3.out]; rfl, HBel.out⟩
      · have hm := (HFin.out ⟨h1, h2⟩).2 hq
        have HM := Aside0.mk hm
        clear hm
        go_wp2_with fail
        go_ret2
        exact ⟨by rw [HM.out]; rfl, HBel.out⟩

def muldiv_MulDiv.f (a0 : Int) (a1 : Int) (a2 : Int) (a3 : Int) : Option (Int × Int) := if I64 a0 ∧ I64 a1 ∧ I64 a2 then some (mulDivS a0 a1 a2 a3) else none
theorem muldiv_MulDiv.calls (a0 : Int) (a1 : Int) (a2 : Int) (a3 : Int) (r1 : Int) (r2 : Int) (w : World) (h : muldiv_MulDiv.f a0 a1 a2 a3 = some (r1, r2)) :
    Calls Tryd.prog 26 #[.int .i64 a0, .int .i64 a1, .int .i64 a2, .int .i64 a3] w fun e w' => e = .returned (.tuple #[.int .i64 r1, .int .i64 r2]) ∧ Below w.heap.size w w' := by
  unfold muldiv_MulDiv.f at h
  split at h <;> simp only [Option.some.injEq, reduceCtorEq] at h
  rename_i hb
  have e1 : r1 = (mulDivS a0 a1 a2 a3).1 := by rw [h]
  have e2 : r2 = (mulDivS a0 a1 a2 a3).2 := by rw [h]
  subst e1 e2
  clear h
  by_cases hm : a3 < 1 ∨ 5 < a3
  · have hs : mulDivS a0 a1 a2 a3 = (0, 10) := by unfold mulDivS; rw [if_pos hm]
    rw [hs]
    clear hb hs
    rcases hm with h1 | h1
    · go_enter Tryd.func26, Tryd.ntmps26
      go_wp2
      go_ret2
      exact ⟨rfl, Below.refl _ _⟩
    · have h2 : ¬ a3 < 1 := by omega
      go_enter Tryd.func26, Tryd.ntmps26
      go_wp2
      go_ret2
      exact ⟨rfl, Below.refl _ _⟩
  · by_cases hc : a2 = 0
    · have hs : mulDivS a0 a1 a2 a3 = (0, 2) := by unfold mulDivS; rw [if_neg hm, if_pos hc]
      rw [hs]
      clear hb hs
      subst hc
      have h1 : 1 ≤ a3 := by omega
      have h2 : a3 ≤ 5 := by omega
      clear hm
      go_enter Tryd.func26, Tryd.ntmps26
      go_wp2
      go_ret2
      exact ⟨rfl, Below.refl _ _⟩
    · exact md a0 a1 a2 a3 hb.1 hb.2.1 hb.2.2 (by omega) (by omega) (by rw [beq_eq_false_iff_ne]; exact hc) (by omega) w

/-! ### money_Scale: function 10 (by hand) -/
set_option maxHeartbeats 1600000 in
theorem scale_any (a f t m : Int) (ha : I64 a) (w : World) (hG : Gl w) : Calls Tryd.prog 10 #[.int .i64 a, .int .i64 f, .int .i64 t, .int .i64 m] w fun e w' => e = .returned (.tuple #[.int .i64 (scaleS a f t m).1, .int .i64 (scaleS a f t m).2]) ∧ Below w.heap.size w w' := by
  have HG := Aside0.mk hG
  have HA := Aside0.mk ha
  clear hG ha
  generalize hP : (fun e w' => e = Ending.returned (.tuple #[.int .i64 (scaleS a f t m).1, .int .i64 (scaleS a f t m).2]) ∧ Below w.heap.size w w') = Post
  have HP := Aside0.mk hP
  clear hP
  by_cases m1 : m < 1
  · go_enter Tryd.func10, Tryd.ntmps10
    go_wp2_with fail
    rw [← HP.out]
    exact ⟨by rw [scaleS, if_pos (.inl m1)]; try rfl, Below.refl _ _⟩
  by_cases m5 : 5 < m
  · go_enter Tryd.func10, Tryd.ntmps10
    go_wp2_with fail
    rw [← HP.out]
    exact ⟨by rw [scaleS, if_pos (.inr m5)]; try rfl, Below.refl _ _⟩
  have hf := fits_any f
  have ht := fits_any t
  change ∀ w, Calls _ _ _ _ fun e w' => e = .returned (.bool (fitsB f)) ∧ _ at hf
  change ∀ w, Calls _ _ _ _ fun e w' => e = .returned (.bool (fitsB t)) ∧ _ at ht
  have Hf := Aside0.mk hf
  have Ht := Aside0.mk ht
  have E0 : Aside0 (scaleS a f t m = _) := ⟨by rw [scaleS, if_neg (by omega)]⟩
  clear hf ht
  have Bf := Aside0.mk (fitsB_iff f)
  have Bt := Aside0.mk (fitsB_iff t)
  cases hbf : fitsB f
  · rw [hbf] at Hf E0
    go_enter Tryd.func10, Tryd.ntmps10
    go_wp2_with fail
    refine (Hf.out _).mono ?_
    rintro e w' ⟨rfl, rfl⟩
    go_wp2_with fail
    rw [← HP.out]
    exact ⟨by rw [E0.out]; rfl, Below.refl _ _⟩
  have Hf0 := Hf
  cases hbt : fitsB t
  · rw [hbf, hbt] at E0; rw [hbf] at Hf; rw [hbt] at Ht
    go_enter Tryd.func10, Tryd.ntmps10
    go_wp2_with fail
    refine (Hf.out _).mono ?_
    rintro e w' ⟨rfl, rfl⟩
    go_wp2_with fail
    refine (Ht.out _).mono ?_
    rintro e w' ⟨rfl, rfl⟩
    go_wp2_with fail
    rw [← HP.out]
    exact ⟨by rw [E0.out]; rfl, Below.refl _ _⟩
  obtain ⟨f0, f4⟩ := Bf.out.mp hbf
  obtain ⟨t0, t4⟩ := Bt.out.mp hbt
  rw [hbf, hbt] at E0; rw [hbf] at Hf; rw [hbt] at Ht
  have hfar := far_any a
  change ∀ w, Calls _ _ _ _ fun e w' => e = .returned (.bool (farB a)) ∧ _ at hfar
  have HFar := Aside0.mk hfar
  clear hfar hbf hbt Bf Bt
  cases hfa : farB a
  · rw [hfa] at E0 HFar
    have G1 := HG.out.pow f f0 f4
    have G2 := HG.out.pow t t0 t4
    have I1 := Aside0.mk (pow10_I64 f f4)
    have I2 := Aside0.mk (pow10_I64 t t4)
    generalize pow10 f.toNat = pf at *
    generalize pow10 t.toNat = pt at *
    have hf5 : f < 5 := by omega
    have ht5 : t < 5 := by omega
    go_enter Tryd.func10, Tryd.ntmps10
    go_wp2_with fail
    refine (Hf.out _).mono ?_
    rintro e w' ⟨rfl, rfl⟩
    go_wp2_with fail
    refine (Ht.out _).mono ?_
    rintro e w' ⟨rfl, rfl⟩
    go_wp2_with fail
    refine (HFar.out _).mono ?_
    rintro e w' ⟨rfl, rfl⟩
    have HM := Aside0.mk (fun W => muldiv_MulDiv.calls a pt pf m (mulDivS a pt pf m).1 (mulDivS a pt pf m).2 W (by unfold muldiv_MulDiv.f; rw [if_pos ⟨HA.out, I2.out, I1.out⟩]))
    generalize mulDivS a pt pf m = R at *
    obtain ⟨n, e⟩ := R
    dsimp only at HM E0
    go_wp2_with fail
    go_region_with (first | (go_at_call 26; refine (HM.out _).mono ?_; rintro e_ w1 ⟨rfl, hb⟩))
    all_goals
     have HB := Aside0.mk (show Below w.heap.size w w1 from Below.trans (by first | exact below_drew1 (Below.refl _ _) | exact pw_below_drewN (Below.refl _ _) _) hb)
     clear hb
     by_cases he : e = 0
     · subst he
       have hfn := far_any n
       change ∀ w, Calls _ _ _ _ fun e w' => e = .returned (.bool (farB n)) ∧ _ at hfn
       have HFn := Aside0.mk hfn
       clear hfn
       cases hfb : farB n
       · rw [hfb] at HFn E0
         go_wp2_with fail
         refine (HFn.out _).mono ?_
         rintro e w' ⟨rfl, rfl⟩
         go_wp2_with fail
         rw [← HP.out]
         exact ⟨by rw [E0.out]; rfl, HB.out⟩
       · rw [hfb] at HFn E0
         go_wp2_with fail
         refine (HFn.out _).mono ?_
         rintro e w' ⟨rfl, rfl⟩
         go_wp2_with fail
         rw [← HP.out]
         exact ⟨by rw [E0.out]; rfl, HB.out⟩
     · have he1 : (e == 0) = false := by simpa using he
       have he2 : (e != 0) = true := by simpa using he
       go_wp2_with fail
       rw [← HP.out]
       exact ⟨by rw [E0.out]; simp [he], HB.out⟩
  · rw [hfa] at E0 HFar
    go_enter Tryd.func10, Tryd.ntmps10
    go_wp2_with fail
    refine (Hf.out _).mono ?_
    rintro e w' ⟨rfl, rfl⟩
    go_wp2_with fail
    refine (Ht.out _).mono ?_
    rintro e w' ⟨rfl, rfl⟩
    go_wp2_with fail
    refine (HFar.out _).mono ?_
    rintro e w' ⟨rfl, rfl⟩
    go_wp2_with fail
    rw [← HP.out]
    exact ⟨by rw [E0.out]; rfl, Below.refl _ _⟩
def money_Scale.f (a0 : Int) (a1 : Int) (a2 : Int) (a3 : Int) : Option (Int × Int) := if I64 a0 then some (scaleS a0 a1 a2 a3) else none
theorem money_Scale.calls (a0 : Int) (a1 : Int) (a2 : Int) (a3 : Int) (r1 : Int) (r2 : Int) (w : World) (h : money_Scale.f a0 a1 a2 a3 = some (r1, r2)) (hG : Gl w) :
    Calls Tryd.prog 10 #[.int .i64 a0, .int .i64 a1, .int .i64 a2, .int .i64 a3] w fun e w' => e = .returned (.tuple #[.int .i64 r1, .int .i64 r2]) ∧ Below w.heap.size w w' := by
  unfold money_Scale.f at h
  split at h
  · rename_i hs
    have h' := Option.some.inj h
    have := scale_any a0 a1 a2 a3 hs w hG
    rw [h'] at this
    exact this
  · cases h

/-! ### accountingref07_Power: function 13 -/
def accountingref07_Power.l0 : Nat → Int → Int → Int → Option (Int)
  | 0, _, _, _ => none
  | k + 1, x0, x3, x4 => if x4 < x0 then (accountingref07_Power.l0 k x0 (wrap64 (x3 * 10)) (wrap64 (x4 + 1))) else (some x3)
def accountingref07_Power.f (k : Nat) (a0 : Int) : Option (Int) := accountingref07_Power.l0 k a0 1 0
theorem accountingref07_Power.mono_l : ∀ k, (∀ y0 y1 y2, LeO (accountingref07_Power.l0 k y0 y1 y2) (accountingref07_Power.l0 (k + 1) y0 y1 y2))
  | 0 => fun _ _ _ r h => by simp [accountingref07_Power.l0] at h
  | k + 1 => by
    have ih0 := accountingref07_Power.mono_l k
    · intro y0 y1 y2
      unfold accountingref07_Power.l0
      repeat' first
      | (with_reducible exact ih0 _ _ _)
      | (with_reducible exact LeO.refl _)
      | (with_reducible exact LeO.none _)
      | (with_reducible refine LeO.ite ?_ ?_)
      | (with_reducible refine LeO.bind ?_ (fun _ => ?_))
      | exact ih0 _ _ _
      | exact LeO.none _
      | refine LeO.ite ?_ ?_
      | refine LeO.bind ?_ (fun _ => ?_)
theorem accountingref07_Power.mono : ∀ a0 k, LeO (accountingref07_Power.f k a0) (accountingref07_Power.f (k + 1) a0) := by
  intro a0 k
  have ih0 := accountingref07_Power.mono_l k
  unfold accountingref07_Power.f
  repeat' first
      | (with_reducible exact ih0 _ _ _)
      | (with_reducible exact LeO.refl _)
      | (with_reducible exact LeO.none _)
      | (with_reducible refine LeO.ite ?_ ?_)
      | (with_reducible refine LeO.bind ?_ (fun _ => ?_))
      | exact ih0 _ _ _
      | exact LeO.none _
      | refine LeO.ite ?_ ?_
      | refine LeO.bind ?_ (fun _ => ?_)
set_option maxHeartbeats 8000000 in
set_option maxRecDepth 100000 in
theorem accountingref07_Power.calls (k : Nat) (a0 : Int) (r : Int) (w : World) (h : accountingref07_Power.f k a0 = some r) :
    Calls Tryd.prog 13 #[.int .i64 a0] w fun e w' => e = .returned (.int .i64 r) ∧ Drawn0 w w' := by
  have H : (accountingref07_Power.l0 k a0 1 0) = some r := h
  clear h
  have H' := Aside0.mk H
  clear H
  go_enter Tryd.func13, Tryd.ntmps13
  go_wp2
  go_loopg [3, 4] k (fun kq v3 v4 w' => ∃ (x3_1 : Int) (x4_1 : Int), v3 = .int .i64 x3_1 ∧ v4 = .int .i64 x4_1 ∧ Aside0 (accountingref07_Power.l0 kq a0 x3_1 x4_1 = some r) ∧ Aside0 (kq ≤ k) ∧ Drawn0 w w')
  case atStart => exact ⟨(1), (0), (by first | rfl | (simp; done) | (simp [*]; done) | (simp; generalize ByteArray.toList _ = l_; cases l_ <;> rfl)), (by first | rfl | (simp; done) | (simp [*]; done) | (simp; generalize ByteArray.toList _ = l_; cases l_ <;> rfl)), H', ⟨Nat.le_refl _⟩, by repeat (first | exact Drawn0.refl _ | apply Drawn0.step)⟩
  case round =>
    clear H'
    try clear c1
    obtain ⟨x3_1, x4_1, rfl, rfl, HA, HK1, ⟨m1, rfl⟩⟩ := hrel
    cases gk with
    | zero => exact absurd HA.out (by simp [accountingref07_Power.l0])
    | succ k1 =>
      have H := HA.out
      clear HA
      simp only [accountingref07_Power.l0] at H
      by_cases c2 : x4_1 < a0
      · rw [if_pos c2] at H
        have c2b0 : decide (x4_1 < a0) = true := decide_eq_true c2
        clear c2
        have H' := Aside0.mk H
        clear H
        go_wp2
        go_roundg k1
        case measure => have := HK1.out; omega
        case rel => exact ⟨(wrap64 (x3_1 * 10)), (wrap64 (x4_1 + 1)), (by first | rfl | (simp; done) | (simp [*]; done) | (simp; generalize ByteArray.toList _ = l_; cases l_ <;> rfl)), (by first | rfl | (simp; done) | (simp [*]; done) | (simp; generalize ByteArray.toList _ = l_; cases l_ <;> rfl)), H', ⟨by have := HK1.out; omega⟩, by repeat (first | exact Drawn0.refl _ | apply Drawn0.step)⟩
      · rw [if_neg c2] at H
        have c2b0 : decide (x4_1 < a0) = false := decide_eq_false c2
        clear c2
        obtain rfl := Option.some.inj H
        go_wp2
        go_ret
        exact ⟨by first | rfl | (simp; done) | (simp [*]; done) | (simp; generalize ByteArray.toList _ = l_; cases l_ <;> rfl), by repeat (first | exact Drawn0.refl _ | apply Drawn0.step)⟩

/-! ### accountingref07_large: function 27 -/
def accountingref07_large.f (a0 : Int) : Option (Bool) := if a0 > 1000000000000000 then (some true) else (some (decide (a0 < (-1000000000000000))))
set_option maxHeartbeats 8000000 in
set_option maxRecDepth 100000 in
theorem accountingref07_large.calls (a0 : Int) (r : Bool) (w : World) (h : accountingref07_large.f a0 = some r) :
    Calls Tryd.prog 27 #[.int .i64 a0] w fun e w' => e = .returned (.bool r) ∧ Drawn0 w w' := by
  have H : (if a0 > 1000000000000000 then (some true) else (some (decide (a0 < (-1000000000000000))))) = some r := h
  clear h
  by_cases c2 : a0 > 1000000000000000
  · rw [if_pos c2] at H
    have c2b0 : decide (1000000000000000 < a0) = true := decide_eq_true c2
    clear c2
    obtain rfl := Option.some.inj H
    go_enter Tryd.func27, Tryd.ntmps27
    go_wp2
    go_ret
    exact ⟨by first | rfl | (simp; done) | (simp [*]; done) | (simp; generalize ByteArray.toList _ = l_; cases l_ <;> rfl), by repeat (first | exact Drawn0.refl _ | apply Drawn0.step)⟩
  · rw [if_neg c2] at H
    have c2b0 : decide (1000000000000000 < a0) = false := decide_eq_false c2
    clear c2
    obtain rfl := Option.some.inj H
    go_enter Tryd.func27, Tryd.ntmps27
    go_wp2
    go_ret
    exact ⟨by first | rfl | (simp; done) | (simp [*]; done) | (simp; generalize ByteArray.toList _ = l_; cases l_ <;> rfl), by repeat (first | exact Drawn0.refl _ | apply Drawn0.step)⟩

end Go.Proofs.YthmpapnhomngnaaDoor.A
