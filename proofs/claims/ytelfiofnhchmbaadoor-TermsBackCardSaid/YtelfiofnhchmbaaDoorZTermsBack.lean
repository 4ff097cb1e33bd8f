/- accountinglaw24.TermsBack: the notation of valid terms denotes them, and accepted strings are notations: the law's function answers true. -/
import Derived.Test.YtelfiofnhchmbaaDoorRows
import Derived.ProofKit
import Derived.ShutString
import Derived.ChangeOld
import Derived.LaidMore
import Derived.Stop.Joined
import Derived.SevenTiedAt
import Derived.Test.YtelfiofnhchmbaaDoorCards
import Derived.Test.YtelfiofnhchmbaaDoorTie
import Derived.Test.YtelfiofnhchmbaaDoorZ6
import Derived.Test.YtelfiofnhchmbaaDoorZ21
namespace Go.Proofs.YtelfiofnhchmbaaDoor.Pure
open Go.RowKit Go.Proofs.YtelfiofnhchmbaaDoor.A Go.Proofs.YtelfiofnhchmbaaDoor.B Go.Proofs.YtelfiofnhchmbaaDoorW.PrintWords Go.Proofs.YtelfiofnhchmbaaDoorW.PrintLast Go.Proofs.YtelfiofnhchmbaaDoorW.PrintMore
set_option linter.unusedVariables false
theorem back_j1 (s : ByteArray) (hL : s.data.toList.length ≤ 400) : Ev (fun k => lw24_TermsBack.j1 k s) true := by
  obtain ⟨r, h1, h2⟩ := terms_Parse_total s.data.toList hL
  rw [oL_data] at h1
  refine Ev.step (fun k => by rw [lw24_TermsBack.j1]) (Ev.bind h1 ?_)
  rcases h2 with rfl | ⟨n, b, l, rfl, hn, hl, h3, ok, hT⟩
  · exact Ev.no (by decide) (Ev.is rfl)
  · have ht := terms_Text_ev n hn b l hl h3
    unfold termsTextS at ht
    rw [if_pos ok, hT] at ht
    have key : (oL s.data.toList).toList = s.toList := rfl
    exact Ev.yes rfl (Ev.bind ht (Ev.yes rfl (Ev.yes key (Ev.is rfl))))
theorem TermsBack (n : Int) (b : Bool) (l : List S53) (s : ByteArray) (hn : I64 n) (hl : ∀ x ∈ l, I64 x.f0 ∧ I64 x.f1.f0 ∧ I64 x.f1.f1) (hs : s.size ≤ 140737488351232) : ∃ k, lw24_TermsBack.f k n b l s = some true := by
  refine Ev.rounds ?_
  unfold lw24_TermsBack.f
  have yes : Ev (fun k => lw24_TermsBack.j0 k s true n b l) true := by
    refine Ev.step (fun k => by rw [lw24_TermsBack.j0]) ?_
    exact Ev.yes rfl (Ev.is rfl)
  refine Ev.both (fun _ => yes) (fun h => ?_)
  have hlen : l.length ≤ 1000 := by omega
  by_cases h4 : (s.size : Int) > 400
  · rw [decide_eq_true h4]; exact yes
  rw [decide_eq_false h4]
  have j := back_j1 s (by rw [← size_eq']; omega)
  have ht := terms_Text_ev n hn b l hl hlen
  have hr := terms_Right_ev n b l hl hlen
  refine Ev.step (fun k => by rw [lw24_TermsBack.j0]) (Ev.no (by decide) (Ev.bind ht (Ev.bind hr ?_)))
  unfold termsTextS
  by_cases ok : termsOk n l = true
  · rw [if_pos ok, ok]
    have hp := terms_Parse_text n b l ok (termsT_len ok)
    exact Ev.no (show ¬ ((((0 : Int) == 0) != true) = true) by decide) (Ev.yes rfl (Ev.bind hp (Ev.yes rfl (Ev.bind (Same_refl n b l hlen) (Ev.yes rfl j)))))
  · rw [if_neg ok, Bool.eq_false_iff.mpr ok]
    exact Ev.no (show ¬ ((((2 : Int) == 0) != false) = true) by decide) (Ev.no (show ¬ ((2 : Int) = 0) by decide) j)
end Go.Proofs.YtelfiofnhchmbaaDoor.Pure
namespace Go.Proofs.YtelfiofnhchmbaaDoor.termsBack
open Go.ChangeShapes Go.WideShapes Go.ChangeAt Go.RowKit
open Go.ChangeMaps (open_string shut_string)
set_option linter.unusedVariables false
theorem own : ownKnob Tryd.prog.godebug = none := by kernel_rfl
theorem laidOut : laidOutB Tryd.prog = true := by kernel_rfl
abbrev laidL : List (String × DataW Unit) := [("accounting/days.lengths", Rows.laid_accounting_days_lengths)]
theorem door_met (os : Os) (args : Array Value) : laidMetH Tryd.prog laidL ((World.doorLaid Tryd.prog 400 os).forCall (fun _ _ => 0) ⟨#[], args, []⟩).memory :=
  laidMetH_of_parts3 (fuel := 8) (laidMet_of_run' 8 (by kernel_rfl) (by kernel_rfl)) (by kernel_rfl) (by kernel_rfl)
theorem gl_of_laid {W : World} (h : laidMetH Tryd.prog laidL W) : B.Gl W := B.gl_of_laid (by rw [MakeChecks.laidMetH_plain _ _ _ (by kernel_rfl)] at h; exact h)
set_option maxRecDepth 100000 in
theorem lifted (os : Os) (started : os.Started) (H : Type) (enc : TypeId × Value → H) :
    ReturnsInHanded {} Tryd.checked os 7 .any (fun w args => (Rows.termsBackSpec.pre enc Tryd.prog Tryd.f7 [] false w args ∧ laidMetH Tryd.prog laidL w) ∧ sizedMet enc Tryd.prog Tryd.f7 (OpenSpec.ofChange Rows.termsBackSpec) false w args) (Rows.termsBackSpec.post enc Tryd.prog Tryd.f7 false true false false) := by
  refine returnsInHanded_of_change_and (C := Tryd.checked) (X := fun w _ => laidMetH Tryd.prog laidL w) (fun _ _ _ hh h => h.of_heap hh) own started (by kernel_rfl) Tryd.func7
    (ChangeSpec.witness_shaped (enc := enc) (C := Tryd.checked) (os := os) (X := fun w _ => laidMetH Tryd.prog laidL w) false (World.doorLaid Tryd.prog 400 os) #[.agg #[.int .i64 0, .bool false, .slice none 0 0], .string ⟨#[]⟩] 8 rfl (World.shaped_of_RefB (by kernel_rfl) (by kernel_rfl)) (by kernel_rfl) (by kernel_rfl) (by kernel_rfl) (door_met os _)) ?_
  intro W base args ds gs before hval0 hW hcnd hsz0 hL _
  have hG := gl_of_laid hL
  have hsz : (DataW.weightsEach Tryd.prog (Tryd.f7.params.toList ++ Rows.termsBackSpec.plain.varTypes Tryd.prog) (ds ++ gs)).all (· ≤ reachBytes) = true := hsz0
  have hval : ∀ (j : Nat) t v, Tryd.f7.params[j]? = some t → args[j]? = some v → Value.okWide Tryd.prog W .any base t v := hval0
  have hW' := hW
  obtain ⟨p, q, hA0, hV, rfl, hfz, hnd⟩ := hW
  have hA : DataW.TrodAll enc Tryd.prog W 0 (fun _ => true) true Tryd.f7.params.toList args.toList ds p := hA0
  rw [Tryd.params7] at hA hval hsz
  obtain ⟨v0, vs0, d0, ds0, p0, q0, hargs, rfl, rfl, h0, r0⟩ := trodAll_cons hA
  obtain ⟨v1, vs1, d1, ds1, p1, q1, rfl, rfl, rfl, h1, r1⟩ := trodAll_cons r0
  obtain ⟨rfl, rfl, rfl⟩ := trodAll_nil r1
  obtain rfl : args = #[v0, v1] := by cases args; simp_all
  obtain ⟨rfl, rfl⟩ := trodVars_none hV
  have k0 := h0
  have lt0 : ∀ x ∈ p0, x.block < W.heap.size := by obtain ⟨m, hm⟩ := k0; exact DataW.trod_lt m _ _ _ hm
  obtain ⟨n0, b0, A0, c0, a0, rfl, hlc0, hC0, hN0, hS0⟩ := A.open_terms (hval 0 24 v0 rfl rfl) h0 (B.arg_weights hsz (j := 0) (t := 24) rfl rfl)
  obtain ⟨a1, rfl, rfl, rfl, w1⟩ := open_string Tryd.underlying9 (hval 1 9 v1 rfl rfl) h1
  have y1 : a1.size ≤ 140737488351232 := by
    have z := sized_string hsz (j := 1) (t := 9) rfl rfl
    rw [Array.length_toList] at z
    exact z
  clear hA0 hval0 hsz0 hsz
  obtain ⟨k, hk⟩ := Pure.TermsBack n0 b0 a0 a1 hN0 hS0 y1
  refine (A.lw24_TermsBack.calls k n0 b0 A0 c0 a0 a1 true W hC0 hlc0 hk hG).mono fun e W' ⟨he, bel0⟩ => ?_
  have bel : Below W.heap.size W W' := bel0
  subst he
  exact ⟨_, rfl, _, _, _, [], _, [], hW', trodAll_mk1 (shut_bool Tryd.underlying4 _), (trodAll_cons_mk (Below.trod laidOut (by kernel_rfl) (of_decide_eq_true (by kernel_rfl)) k0 bel lt0) (trodAll_cons_mk (shut_string Tryd.underlying9 w1) trodAll_mk0)), rfl, bel.frame _, fun h => by cases h⟩
theorem over : Rows.termsBackRow.holds Tryd.pinned (OpenSpec.ofChange Rows.termsBackSpec) :=
  OpenClaim.holds_of_wide 7 Tryd.f7 rfl rfl rfl rfl rfl rfl rfl ⟨rfl, rfl, rfl, rfl, rfl⟩ rfl rfl rfl rfl rfl (by kernel_rfl) Tryd.func7 (by kernel_rfl)
    (of_decide_eq_true (by kernel_rfl)) (by unfold Func.isWrapper; first | (rw [if_pos (by decide +kernel)]; kernel_rfl) | (rw [if_neg (by decide +kernel)]; exact ⟨rfl, rfl⟩))
    (fun os started H enc _ => lifted os started H enc)
theorem proved : Rows.TermsBackSaid := over
end Go.Proofs.YtelfiofnhchmbaaDoor.termsBack
namespace Go.Proofs.YtelfiofnhchmbaaDoor
theorem termsBack_holds : Rows.TermsBackCardSaid :=
  Claim7.holds_tied_plain_at .later [] [.data] true (true, "c7969ce7119ab06b58b6b2489435afc0327924688fbe8a45aa7fac86b2dcf8fc") true
    termsBack.proved (fun _ h => by cases h) (by kernel_rfl) (fun _ h => by cases h) termsBack_row_tie rfl ⟨rfl, rfl⟩ (by kernel_rfl) rfl
    (fun f fn hf hfn => by
      obtain rfl : f = 7 := Option.some.inj ((show Tryd.prog.funcNamed "accounting/accountinglaw24.TermsBack" = some 7 by kernel_rfl).symm.trans hf) |>.symm
      obtain rfl : fn = Tryd.f7 := (Option.some.inj (Tryd.func7.symm.trans hfn)).symm
      exact ⟨by kernel_rfl, fun j t ht => by
        rw [Tryd.params7] at ht
        have hm : t ∈ [24, 9] := by simpa using Array.mem_of_getElem? ht
        have hall : ([24, 9].all fun u => !Tryd.prog.wantsStandIn u) = true := by kernel_rfl
        exact (show Tryd.prog.wantsStandIn t = false by simpa using List.all_eq_true.1 hall t hm)⟩)
    (by kernel_rfl)
end Go.Proofs.YtelfiofnhchmbaaDoor
