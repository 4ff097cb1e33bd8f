/- Proved: the Go function accountinglaw48.RulesParses returns true at every input and leaves its arguments as_ they were; the package variables are tied to the program's text. This text: the plain law over the functions that the walks have shown. By an AI agent. -/
import Derived.Test.YtkbgkekegjfkfaaGreatDoorRows
import Derived.ProofKit
import Derived.ShutString
import Derived.ChangeOld
import Derived.LaidMore
import Derived.Stop.Joined
import Derived.SevenTiedAt
import Derived.Test.YtkbgkekegjfkfaaGreatDoorCards
import Derived.Test.YtkbgkekegjfkfaaGreatDoorTie
import Derived.Test.YtkbgkekegjfkfaaGreatDoorZ34
namespace Go.Proofs.YtkbgkekegjfkfaaGreatDoor
namespace Pure
open Go.RowKit A B WW WL WM
set_option linter.unusedVariables false
theorem RulesParses:∀ (a0:ByteArray),a0.size≤140737488351232→∃ k,lw48_RulesParses.f k a0=some true:=by
  intro s _;refine Ev.ex (f:=fun k=>lw48_RulesParses.f k s) ?_;unfold lw48_RulesParses.f;refine Ev.both (fun h=>Ev.is rfl) (fun h=>?_);obtain ⟨v,h1,h2,h3,h4⟩:=parse_agree s.data.toList;rw [oL_data] at h1 h2;exact Ev.bind h1 (Ev.bind h2 (Ev.bind (r48_Same_refl _ _ _ _ _ h3 h4) (Ev.yes rfl (Ev.yes rfl (Ev.yes rfl Ev.livR)))))
end Pure
namespace rulesParses
open Go.ChangeShapes Go.WideShapes Go.ChangeAt Go.RowKit
open Go.ChangeMaps (open_string shut_string)
set_option linter.unusedVariables false
theorem own:ownKnob Tryz.prog.godebug=none:=by kernel_rfl
theorem laidOut:laidOutB Tryz.prog=true:=by kernel_rfl
abbrev laidL : List (String × DataW Unit) := [("accounting/days.lengths", Rows.laid_accounting_days_lengths), ("unicode.White_Space", Rows.laid_unicode_White_Space), ("strings.asciiSpace", Rows.laid_strings_asciiSpace)]
set_option maxRecDepth 100000 in
theorem door_met (os:Os) (args:Array Value):laidMetH Tryz.prog laidL ((World.doorLaid Tryz.prog 400 os).forCall (fun _ _=>0) ⟨#[],args,[]⟩).memory :=
  laidMetH_of_parts3 (fuel:=8) (laidMet_of_run' 8 (by kernel_rfl) (by kernel_rfl)) (by kernel_rfl) (by kernel_rfl)
set_option maxRecDepth 100000 in
theorem gl_of_laid {W:World} (h:laidMetH Tryz.prog laidL W) (hm:∃ m,W.cell? ⟨2,0,none⟩=some (.int .i64 m)):B.Gl W:=B.gl_of_laid (by rw [MakeChecks.laidMetH_plain _ _ _ (by kernel_rfl)] at h;exact h) hm
set_option maxRecDepth 100000 in
theorem lifted (os:Os) (started:os.Started) (H:Type) (enc:TypeId×Value→H) :
    ReturnsInHanded {} Tryz.checked os 7 .any (fun w args=>(Rows.rulesParsesSpec.pre enc Tryz.prog Tryz.f7 [] false w args∧laidMetH Tryz.prog laidL w)∧sizedMet enc Tryz.prog Tryz.f7 (OpenSpec.ofChange Rows.rulesParsesSpec) false w args) (Rows.rulesParsesSpec.post enc Tryz.prog Tryz.f7 false true false false):=by
  refine B.handed_open (C:=Tryz.checked) (X:=fun w _=>laidMetH Tryz.prog laidL w) (fun _ _ _ hh h=>h.of_heap hh) own started (by kernel_rfl) Tryz.func7
    (ChangeSpec.witness_shaped (enc:=enc) (C:=Tryz.checked) (os:=os) (X:=fun w _=>laidMetH Tryz.prog laidL w) false (World.doorLaid Tryz.prog 400 os) #[.string ⟨#[]⟩] 8 rfl (World.shaped_of_RefB (by kernel_rfl) (by kernel_rfl)) (by kernel_rfl) (by kernel_rfl) (by kernel_rfl) (door_met os _)) ?_
  intro W base args ds gs before hO hL hval0 hW hsz0;have hG:=gl_of_laid hL (B.maxLen_some hO);have hsz:(DataW.weightsEach Tryz.prog (Tryz.f7.params.toList++Rows.rulesParsesSpec.plain.varTypes Tryz.prog) (ds++gs)).all (·≤reachBytes)=true:=hsz0;have hval:∀ (j:Nat) t v,Tryz.f7.params[j]?=some t→args[j]?=some v→Value.okWide Tryz.prog W .any base t v:=hval0;have hW':=hW;obtain ⟨p,q,hA0,hV,rfl,hfz,hnd⟩:=hW;have hA:DataW.TrodAll enc Tryz.prog W 0 (fun _=>true) true Tryz.f7.params.toList args.toList ds p:=hA0;rw [Tryz.params7] at hA hval hsz;obtain ⟨v0,vs0,d0,ds0,p0,q0,hargs,rfl,rfl,h0,r0⟩:=trodAll_cons hA;obtain ⟨rfl,rfl,rfl⟩:=trodAll_nil r0;obtain rfl:args=#[v0]:=by cases args;simp_all
  obtain ⟨rfl,rfl⟩:=trodVars_none hV;obtain ⟨a0,rfl,rfl,rfl,w0⟩:=open_string Tryz.underlying9 (hval 0 9 v0 rfl rfl) h0
  have y0:a0.size≤140737488351232:=by
    have z:=sized_string hsz (j:=0) (t:=9) rfl rfl;rw [Array.length_toList] at z;exact z
  clear hA0 hval0 hsz0 hsz;obtain ⟨k,hk⟩:=Pure.RulesParses a0 y0;refine (A.lw48_RulesParses.calls k a0 true W hk hG).mono fun e W' ⟨he,bel0⟩=>?_
  have bel:Below W.heap.size W W':=bel0;subst he;exact ⟨_,rfl,_,_,_,[],_,[],hW',trodAll_mk1 (shut_bool Tryz.underlying4 _),(trodAll_cons_mk (shut_string Tryz.underlying9 w0) trodAll_mk0),rfl,bel.frame _,fun h=>by cases h⟩
theorem over:Rows.rulesParsesRow.holds Tryz.pinned (OpenSpec.ofChange Rows.rulesParsesSpec) :=
  OpenClaim.holds_of_wide 7 Tryz.f7 rfl rfl rfl rfl rfl rfl rfl ⟨rfl,rfl,rfl,rfl,rfl⟩ rfl rfl rfl rfl rfl (by kernel_rfl) Tryz.func7 (by kernel_rfl)
    (of_decide_eq_true (by kernel_rfl)) (by unfold Func.isWrapper;first|(rw [if_pos (by decide +kernel)];kernel_rfl)|(rw [if_neg (by decide +kernel)];exact ⟨rfl,rfl⟩))
    (fun os started H enc _=>lifted os started H enc)
theorem proved:Rows.RulesParsesSaid:=over
end rulesParses
end Go.Proofs.YtkbgkekegjfkfaaGreatDoor
namespace Go.Proofs.YtkbgkekegjfkfaaGreatDoor
theorem rulesParses_holds:Rows.RulesParsesCardSaid :=
  Claim7.holds_tied_plain_at .later [] [.data, .listed, .data] true (true, "891669ef6671e58eb7a3e4e90bb8fffe22bf62e27f203fa964449a1d32959f4b") false
    rulesParses.proved (fun _ h=>by cases h) (by kernel_rfl) (fun _ h=>by cases h) rulesParses_row_tie rfl ⟨rfl,rfl⟩ (by kernel_rfl) rfl
    (fun f fn hf hfn=>by
      obtain rfl : f = 7 := Option.some.inj ((show Tryz.prog.funcNamed "accounting/accountinglaw48.RulesParses" = some 7 by kernel_rfl).symm.trans hf) |>.symm
      obtain rfl:fn=Tryz.f7:=(Option.some.inj (Tryz.func7.symm.trans hfn)).symm
      exact ⟨by kernel_rfl,fun j t ht=>by
        rw [Tryz.params7] at ht;have hm:t∈[9]:=by simpa using Array.mem_of_getElem? ht
        have hall:([9].all fun u=>!Tryz.prog.wantsStandIn u)=true:=by kernel_rfl
        exact (show Tryz.prog.wantsStandIn t=false by simpa using List.all_eq_true.1 hall t hm)⟩)
    (by kernel_rfl)
end Go.Proofs.YtkbgkekegjfkfaaGreatDoor
