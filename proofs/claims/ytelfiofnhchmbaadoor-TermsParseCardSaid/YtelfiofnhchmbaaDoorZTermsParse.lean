/- accountinglaw24.TermsParse: the program and the reference read the same terms from any string: the law's function answers true. -/
import Derived.Test.YtelfiofnhchmbaaDoorRows
import Derived.ProofKit
import Derived.ShutString
import Derived.ChangeOld
import Derived.LaidMore
import Derived.Stop.Joined
import Derived.SevenTiedAt
import Derived.Test.YtelfiofnhchmbaaDoorCards
import Derived.Test.YtelfiofnhchmbaaDoorTie
import Derived.Test.YtelfiofnhchmbaaDoorZ18
namespace Go.Proofs.YtelfiofnhchmbaaDoor.Pure
open Go.RowKit Go.Proofs.YtelfiofnhchmbaaDoor.A Go.Proofs.YtelfiofnhchmbaaDoor.B Go.Proofs.YtelfiofnhchmbaaDoorW.PrintWords Go.Proofs.YtelfiofnhchmbaaDoorW.PrintLast Go.Proofs.YtelfiofnhchmbaaDoorW.PrintMore
set_option linter.unusedVariables false
theorem TermsParse : lw24_TermsParse.Pure := by
  intro s hs
  refine Ev.rounds ?_
  unfold lw24_TermsParse.f
  refine Ev.both (fun _ => Ev.is rfl) (fun h => ?_)
  have hL : s.data.toList.length ≤ 400 := by rw [← size_eq']; omega
  obtain ⟨r, h1, h2⟩ := terms_Parse_total s.data.toList hL
  obtain ⟨t, g1, g2⟩ := ref24_Parse_total s.data.toList hL
  have e : r = t := by
    rcases h2 with rfl | ⟨n, b, l, rfl, _, _, _, ok, hT⟩
    · rcases g2 with rfl | ⟨n, b, l, rfl, _, _, _, ok, hT⟩
      · rfl
      · have := terms_Parse_text n b l ok (termsT_len ok)
        rw [hT] at this
        exact Ev.same h1 this
    · have := ref24_Parse_text n b l ok
      rw [hT] at this
      exact Ev.same this g1
  subst e
  rw [oL_data] at h1 g1
  have hlen : r.2.2.1.length ≤ 1000 := by
    rcases h2 with rfl | ⟨n, b, l, rfl, _, _, h3, ok, hT⟩
    · exact Nat.zero_le _
    · exact h3
  exact Ev.bind h1 (Ev.bind g1 (Ev.bind (Same_refl _ _ _ hlen) (Ev.yes rfl (Ev.yes rfl (Ev.is rfl)))))
end Go.Proofs.YtelfiofnhchmbaaDoor.Pure
namespace Go.Proofs.YtelfiofnhchmbaaDoor.termsParse
open Go.ChangeShapes Go.WideShapes Go.ChangeAt Go.RowKit
open Go.ChangeMaps (open_string shut_string)
set_option linter.unusedVariables false
theorem own : ownKnob Tryd.prog.godebug = none := by kernel_rfl
abbrev laidL : List (String × DataW Unit) := [("accounting/days.lengths", Rows.laid_accounting_days_lengths)]
theorem door_met (os : Os) (args : Array Value) : laidMetH Tryd.prog laidL ((World.doorLaid Tryd.prog 400 os).forCall (fun _ _ => 0) ⟨#[], args, []⟩).memory :=
  laidMetH_of_parts3 (fuel := 8) (laidMet_of_run' 8 (by kernel_rfl) (by kernel_rfl)) (by kernel_rfl) (by kernel_rfl)
theorem gl_of_laid {W : World} (h : laidMetH Tryd.prog laidL W) : B.Gl W := B.gl_of_laid (by rw [MakeChecks.laidMetH_plain _ _ _ (by kernel_rfl)] at h; exact h)
set_option maxRecDepth 100000 in
theorem lifted (os : Os) (started : os.Started) (H : Type) (enc : TypeId × Value → H) :
    ReturnsInHanded {} Tryd.checked os 6 .any (fun w args => (Rows.termsParseSpec.pre enc Tryd.prog Tryd.f6 [] false w args ∧ laidMetH Tryd.prog laidL w) ∧ sizedMet enc Tryd.prog Tryd.f6 (OpenSpec.ofChange Rows.termsParseSpec) false w args) (Rows.termsParseSpec.post enc Tryd.prog Tryd.f6 false true false false) := by
  refine returnsInHanded_of_change_and (C := Tryd.checked) (X := fun w _ => laidMetH Tryd.prog laidL w) (fun _ _ _ hh h => h.of_heap hh) own started (by kernel_rfl) Tryd.func6
    (ChangeSpec.witness_shaped (enc := enc) (C := Tryd.checked) (os := os) (X := fun w _ => laidMetH Tryd.prog laidL w) false (World.doorLaid Tryd.prog 400 os) #[.string ByteArray.empty] 8 rfl (World.shaped_of_RefB (by kernel_rfl) (by kernel_rfl)) (by kernel_rfl) (by kernel_rfl) (by kernel_rfl) (door_met os _)) ?_
  intro W base args ds gs before hval0 hW hcnd hsz0 hL _
  have hG := gl_of_laid hL
  have hsz : (DataW.weightsEach Tryd.prog (Tryd.f6.params.toList ++ Rows.termsParseSpec.plain.varTypes Tryd.prog) (ds ++ gs)).all (· ≤ reachBytes) = true := hsz0
  have hval : ∀ (j : Nat) t v, Tryd.f6.params[j]? = some t → args[j]? = some v → Value.okWide Tryd.prog W .any base t v := hval0
  have hW' := hW
  obtain ⟨p, q, hA0, hV, rfl, hfz, hnd⟩ := hW
  have hA : DataW.TrodAll enc Tryd.prog W 0 (fun _ => true) true Tryd.f6.params.toList args.toList ds p := hA0
  rw [Tryd.params6] at hA hval hsz
  obtain ⟨v0, vs0, d0, ds0, p0, q0, hargs, rfl, rfl, h0, r0⟩ := trodAll_cons hA
  obtain ⟨rfl, rfl, rfl⟩ := trodAll_nil r0
  obtain rfl : args = #[v0] := by cases args; simp_all
  obtain ⟨rfl, rfl⟩ := trodVars_none hV
  obtain ⟨a0, rfl, rfl, rfl, y0⟩ := open_string Tryd.underlying9 (hval 0 9 v0 rfl rfl) h0
  have w0 : a0.size ≤ 140737488351232 := by
    have z := sized_string hsz (j := 0) (t := 9) rfl rfl
    rw [Array.length_toList] at z
    exact z
  clear hA0 hval0 hsz0 hsz
  refine (A.lw24_TermsParse.walk Pure.TermsParse a0 W w0 hG).mono fun e W' ⟨he, bel⟩ => ?_
  subst he
  exact ⟨_, rfl, _, _, _, [], _, [], hW', trodAll_mk1 (shut_bool Tryd.underlying4 _), (trodAll_cons_mk (shut_string Tryd.underlying9 y0) trodAll_mk0), rfl, bel.frame _, fun h => by cases h⟩
theorem over : Rows.termsParseRow.holds Tryd.pinned (OpenSpec.ofChange Rows.termsParseSpec) :=
  OpenClaim.holds_of_wide 6 Tryd.f6 rfl rfl rfl rfl rfl rfl rfl ⟨rfl, rfl, rfl, rfl, rfl⟩ rfl rfl rfl rfl rfl (by kernel_rfl) Tryd.func6 (by kernel_rfl)
    (of_decide_eq_true (by kernel_rfl)) (by unfold Func.isWrapper; first | (rw [if_pos (by decide +kernel)]; kernel_rfl) | (rw [if_neg (by decide +kernel)]; exact ⟨rfl, rfl⟩))
    (fun os started H enc _ => lifted os started H enc)
theorem proved : Rows.TermsParseSaid := over
end Go.Proofs.YtelfiofnhchmbaaDoor.termsParse
namespace Go.Proofs.YtelfiofnhchmbaaDoor
theorem termsParse_holds : Rows.TermsParseCardSaid :=
  Claim7.holds_tied_plain_at .later [] [.data] true (true, "c7969ce7119ab06b58b6b2489435afc0327924688fbe8a45aa7fac86b2dcf8fc") true
    termsParse.proved (fun _ h => by cases h) (by kernel_rfl) (fun _ h => by cases h) termsParse_row_tie rfl ⟨rfl, rfl⟩ (by kernel_rfl) rfl
    (fun f fn hf hfn => by
      obtain rfl : f = 6 := Option.some.inj ((show Tryd.prog.funcNamed "accounting/accountinglaw24.TermsParse" = some 6 by kernel_rfl).symm.trans hf) |>.symm
      obtain rfl : fn = Tryd.f6 := (Option.some.inj (Tryd.func6.symm.trans hfn)).symm
      exact ⟨by kernel_rfl, fun j t ht => by
        rw [Tryd.params6] at ht
        have hm : t ∈ [9] := by simpa using Array.mem_of_getElem? ht
        have hall : ([9].all fun u => !Tryd.prog.wantsStandIn u) = true := by kernel_rfl
        exact (show Tryd.prog.wantsStandIn t = false by simpa using List.all_eq_true.1 hall t hm)⟩)
    (by kernel_rfl)
end Go.Proofs.YtelfiofnhchmbaaDoor
