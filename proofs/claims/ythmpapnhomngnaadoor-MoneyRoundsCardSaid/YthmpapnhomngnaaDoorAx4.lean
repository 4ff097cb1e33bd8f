-- By gen.py, a program of this session's, over the print's forms: not the print's own text.
import Derived.Test.YthmpapnhomngnaaDoorAx0
import Derived.Test.YthmpapnhomngnaaDoorAx1
import Derived.Test.YthmpapnhomngnaaDoorAx2
import Derived.Test.YthmpapnhomngnaaDoorAx3
namespace Go.Proofs.YthmpapnhomngnaaDoor.A
open Go.RowKit Go.Proofs.YthmpapnhomngnaaDoor.B Go.Proofs.YthmpapnhomngnaaDoorW.PrintWords Go.Proofs.YthmpapnhomngnaaDoorW.PrintLast Go.Proofs.YthmpapnhomngnaaDoorW.PrintMore
attribute [local go_sem] max2_int min2_int max_two min_two max_three min_three max_four min_four   -- for this text's walks alone
set_option linter.unusedVariables false
set_option linter.unusedSimpArgs false

/-! ### muldiv_MulDiv: function 26 (by hand) -/
theorem eq59 (a b c d : Int) (W : World) : (Op.equalIn 10000 59 (.agg #[.int .u64 a, .int .u64 b]) (.agg #[.int .u64 c, .int .u64 d])).run Tryd.prog W = .ok (a == c && b == d) W := by
  have hs : ∀ W, (Go.sizeOf 57).run Tryd.prog W = .ok 1 W := fun _ => by kernel_rfl
  have p1 : ∀ (x y : Int) W, (part 57 #[.int .u64 x, .int .u64 y] 0).run Tryd.prog W = .ok (.int .u64 x) W := fun _ _ _ => by kernel_rfl
  have p2 : ∀ (x y : Int) W, (part 57 #[.int .u64 x, .int .u64 y] 1).run Tryd.prog W = .ok (.int .u64 y) W := fun _ _ _ => by kernel_rfl
  have e1 : ∀ (x y : Int) W, (Op.equalIn 9999 57 (.int .u64 x) (.int .u64 y)).run Tryd.prog W = .ok (x == y) W := fun x y W => run_equalIn_int W 9998 57 .u64 .u64 x y Tryd.underlying57
  rw [show (10000 : Nat) = 9999 + 1 from rfl, Op.equalIn]
  simp only [Sem.run_bind, run_underlying Tryd.underlying59, Result.andThen_ok, hs]
  rw [Std.Legacy.Range.forIn_eq_forIn_range']
  simp [Std.Legacy.Range.size, List.range', p1, p2, e1]
  by_cases h1 : a = c <;> by_cases h2 : b = d <;> simp [h1, h2]
set_option maxHeartbeats 3200000 in
set_option maxRecDepth 100000 in
theorem md (a b c mode : Int) (ha : I64 a) (hbb : I64 b) (hcc : I64 c) (h1 : 1 ≤ mode) (h2 : mode ≤ 5) (hc : (c == 0) = false) (hcn : 0 < c.natAbs) (w : World) :
    Calls Tryd.prog 26 #[.int .i64 a, .int .i64 b, .int .i64 c, .int .i64 mode] w fun e w' => e = .returned (.tuple #[.int .i64 (mulDivS a b c mode).1, .int .i64 (mulDivS a b c mode).2]) ∧ Below w.heap.size w w' := by
  obtain ⟨x, hx⟩ : ∃ x : Nat, x = a.natAbs := ⟨_, rfl⟩
  obtain ⟨y, hy⟩ : ∃ y : Nat, y = b.natAbs := ⟨_, rfl⟩
  obtain ⟨z, hz⟩ : ∃ z : Nat, z = c.natAbs := ⟨_, rfl⟩
  rw [← hz] at hcn
  have hxb : x < 18446744073709551616 := by unfold I64 at ha; omega
  have hyb : y < 18446744073709551616 := by unfold I64 at hbb; omega
  have hzb : z < 18446744073709551616 := by unfold I64 at hcc; omega
  have HXB := Aside0.mk hxb
  have HYB := Aside0.mk hyb
  have HZB := Aside0.mk hzb
  have HIa := Aside0.mk ha
  have HIb := Aside0.mk hbb
  have HIc := Aside0.mk hcc
  clear hxb hyb hzb ha hbb hcc
  have HX := Aside0.mk hx
  have HY := Aside0.mk hy
  have HZ := Aside0.mk hz
  clear hx hy hz
  go_enter Tryd.func26, Tryd.ntmps26
  go_wp2_with fail
  refine (mag a HIa.out _).mono ?_
  rintro e w' ⟨rfl, rfl⟩
  rw [← HX.out]
  go_wp2_with fail
  refine (mag b HIb.out _).mono ?_
  rintro e w' ⟨rfl, rfl⟩
  rw [← HY.out]
  go_wp2_with fail
  refine (mulx x y HXB.out HYB.out _).mono ?_
  rintro e w1 ⟨rfl, rfl⟩
  generalize hphi : x * y / 18446744073709551616 = phi
  generalize hplo : x * y % 18446744073709551616 = plo
  have HPhi := Aside0.mk hphi
  have HPlo := Aside0.mk hplo
  clear hphi hplo
  have hg : Tryd.prog.eqGuardType Tryd.prog.depth 59 = false := by kernel_rfl
  obtain ⟨pz, hpz⟩ : ∃ pz : Bool, pz = ((phi : Int) == 0 && (plo : Int) == 0) := ⟨_, rfl⟩
  have hne := fun W => eq59 (phi : Int) (plo : Int) 0 0 W
  rw [← hpz] at hne
  have HPZ := Aside0.mk hpz
  clear hpz
  obtain ⟨ng, hng⟩ : ∃ ng : Bool, ng = (!pz && ((!(!decide (a < 0) == decide (b < 0)) == decide (c < 0)))) := ⟨_, rfl⟩
  have HNG := Aside0.mk hng
  clear hng
  go_upto_region 6 with fail
  go_cut [11] (fun s11 wx => s11 = .bool ng ∧ wx = (w.alloc (.cells #[.int .u64 phi, .int .u64 plo] 59)).alloc (.cells #[.int .u64 phi, .int .u64 plo] 59))
  case first =>
    cases pz
    · go_wp2_with fail
      go_meet
      exact ⟨by rw [HNG.out]; rfl, rfl⟩
    · go_wp2_with fail
      go_meet
      exact ⟨by rw [HNG.out]; rfl, rfl⟩
  case rest =>
    obtain ⟨rfl, rfl⟩ := hcut
    clear hne hg
    have hdiv := fun W => divide_calls phi plo z (md_hi HPhi.out HXB.out HYB.out) (by have := HPlo.out; omega) hcn HZB.out W
    generalize hQ0 : phi / z = Q0 at hdiv
    generalize hQ1 : (phi % z * 18446744073709551616 + plo) / z = Q1 at hdiv
    generalize hR : (phi % z * 18446744073709551616 + plo) % z = R at hdiv
    have HQ0 := Aside0.mk hQ0
    have HQ1 := Aside0.mk hQ1
    have HR := Aside0.mk hR
    have HDiv := Aside0.mk hdiv
    clear hQ0 hQ1 hR hdiv
    go_upto_region 7 with fail
    go_cut [12, 13] (fun s12 s13 wx => ∃ g : Nat, s12 = .pointer (some ⟨g, 0, none⟩) ∧ s13 = .int .u64 R ∧ wx.cell? ⟨g, 0, none⟩ = some (.int .u64 Q0) ∧ wx.cell? ⟨g, 1, none⟩ = some (.int .u64 Q1) ∧ wx.frozen? ⟨g, 0, none⟩ = false ∧ Below w.heap.size w wx)
    case first =>
      go_region_with (first
        | (go_at_call 38; refine (mag c HIc.out _).mono ?_; rintro e w' ⟨rfl, rfl⟩; rw [← HZ.out])
        | (go_at_call 39; refine (HDiv.out _).mono ?_; rintro e w2 ⟨rfl, rfl⟩))
      all_goals (go_wp2_with fail; go_meet; refine ⟨_, rfl, rfl, ?_, ?_, ?_, ?_⟩)
      all_goals first | (go_simp; done) | (simp [World.cell?_alloc_new]; done) | (repeat (first | exact Below.refl _ _ | refine Below.drew ?_ | refine Below.alloc ?_ (by simp; try omega) _ | refine Below.setCell ?_ (by simp; try omega) _))
    case rest =>
      obtain ⟨g, rfl, rfl, hc0, hc1, hf0, hbel⟩ := hcut
      rename World => wx
      have HBel := Aside0.mk hbel
      clear hbel
      have hR : R < z := by rw [← HR.out]; exact Nat.mod_lt _ hcn
      have HAd := Aside0.mk (fun W => away_any mode ng (decide (Q1 % 2 = 1)) R z hR HZB.out W)
      have HFin := Aside0.mk (fun h => md_fin a b c mode x y z phi plo Q0 Q1 R pz ng HX.out HY.out HZ.out HPhi.out HPlo.out HQ0.out HQ1.out HR.out HPZ.out HNG.out hcn h)
      have hQ1 : Q1 < 18446744073709551616 := md_q1 hcn HPlo.out HQ1.out
      clear hR
      have hodd : ((Q1 : Int) % 2 == 1) = decide (Q1 % 2 = 1) := by rw [Bool.eq_iff_iff, beq_iff_eq, decide_eq_true_iff]; omega
      have HOdd := Aside0.mk hodd
      clear hodd
      by_cases hq : Q0 = 0
      · have hm := (HFin.out ⟨h1, h2⟩).1 hq
        have HM := Aside0.mk hm
        clear hm
        go_wp2_with fail
        refine (mag c HIc.out _).mono ?_
        rintro e w' ⟨rfl, rfl⟩
        rw [← HZ.out]
        go_wp2_with fail
        rw [HOdd.out]
        refine (HAd.out _).mono ?_
        rintro e w' ⟨rfl, rfl⟩
        generalize haw : mdAway mode ng (decide (Q1 % 2 = 1)) R z = aw
        rw [haw] at HM
        clear haw
        cases aw
        · go_wp2_with fail
          refine (signed_any ng Q1 hQ1 _).mono ?_
          rintro e w' ⟨rfl, rfl⟩
          go_wp2_with fail
          go_ret2
          exact ⟨by rw [HM.out]; rfl, HBel.out⟩
        · by_cases hov : Q1 = 18446744073709551615
          · have hwr : IntKind.u64.wrap ((Q1 : Int) + 1) = 0 := by rw [wu64]; omega
            have ho : mdSigned ng (Q1 + 1) = (0, 4) := by rw [hov]; exact mdSigned_big ng (by omega)
            have HO := Aside0.mk ho
            clear ho hov
            go_wp2_with fail
            go_ret2
            exact ⟨by rw [HM.out]; simp only [if_true]; rw [HO.out]; rfl, HBel.out⟩
          · obtain ⟨Q2, hQ2⟩ : ∃ Q2, Q2 = Q1 + 1 := ⟨_, rfl⟩
            have hwr : IntKind.u64.wrap ((Q1 : Int) + 1) = (Q2 : Int) := by rw [wu64]; omega
            have hne0 : ((Q2 : Int) == 0) = false := by rw [beq_eq_false_iff_ne]; omega
            have hb2 : Q2 < 18446744073709551616 := by omega
            have HM2 := HM.out
            rw [if_pos rfl, ← hQ2] at HM2
            have HM3 := Aside0.mk HM2
            have HB2 := Aside0.mk hb2
            clear HM2 hb2 hov hQ1 hQ2
            go_wp2_with fail
            refine (signed_any ng Q2 HB2.out _).mono ?_
            rintro e w' ⟨rfl, rfl⟩
            go_wp2_with fail
            go_ret2
            exact ⟨by rw [HM3.out]; rfl, HBel.out⟩
      · have hm := (HFin.out ⟨h1, h2⟩).2 hq
        have HM := Aside0.mk hm
        clear hm
        go_wp2_with fail
        go_ret2
        exact ⟨by rw [HM.out]; rfl, HBel.out⟩

def muldiv_MulDiv.f (a0 : Int) (a1 : Int) (a2 : Int) (a3 : Int) : Option (Int × Int) := if I64 a0 ∧ I64 a1 ∧ I64 a2 then some (mulDivS a0 a1 a2 a3) else none
theorem muldiv_MulDiv.calls (a0 : Int) (a1 : Int) (a2 : Int) (a3 : Int) (r1 : Int) (r2 : Int) (w : World) (h : muldiv_MulDiv.f a0 a1 a2 a3 = some (r1, r2)) :
    Calls Tryd.prog 26 #[.int .i64 a0, .int .i64 a1, .int .i64 a2, .int .i64 a3] w fun e w' => e = .returned (.tuple #[.int .i64 r1, .int .i64 r2]) ∧ Below w.heap.size w w' := by
  unfold muldiv_MulDiv.f at h
  split at h <;> simp only [Option.some.injEq, reduceCtorEq] at h
  rename_i hb
  have e1 : r1 = (mulDivS a0 a1 a2 a3).1 := by rw [h]
  have e2 : r2 = (mulDivS a0 a1 a2 a3).2 := by rw [h]
  subst e1 e2
  clear h
  by_cases hm : a3 < 1 ∨ 5 < a3
  · have hs : mulDivS a0 a1 a2 a3 = (0, 10) := by unfold mulDivS; rw [if_pos hm]
    rw [hs]
    clear hb hs
    rcases hm with h1 | h1
    · go_enter Tryd.func26, Tryd.ntmps26
      go_wp2
      go_ret2
      exact ⟨rfl, Below.refl _ _⟩
    · have h2 : ¬ a3 < 1 := by omega
      go_enter Tryd.func26, Tryd.ntmps26
      go_wp2
      go_ret2
      exact ⟨rfl, Below.refl _ _⟩
  · by_cases hc : a2 = 0
    · have hs : mulDivS a0 a1 a2 a3 = (0, 2) := by unfold mulDivS; rw [if_neg hm, if_pos hc]
      rw [hs]
      clear hb hs
      subst hc
      have h1 : 1 ≤ a3 := by omega
      have h2 : a3 ≤ 5 := by omega
      clear hm
      go_enter Tryd.func26, Tryd.ntmps26
      go_wp2
      go_ret2
      exact ⟨rfl, Below.refl _ _⟩
    · exact md a0 a1 a2 a3 hb.1 hb.2.1 hb.2.2 (by omega) (by omega) (by rw [beq_eq_false_iff_ne]; exact hc) (by omega) w

end Go.Proofs.YthmpapnhomngnaaDoor.A
