/- Proved: the Go function accountinglaw48.RulesTexts returns true at every input and leaves its arguments as_ they were; the package variables are tied to the program's text. This text: the plain law over the functions that the walks have shown. By an AI agent. -/
import Derived.Test.YtkbgkekegjfkfaaGreatDoorRows
import Derived.ProofKit
import Derived.ShutString
import Derived.ChangeOld
import Derived.LaidMore
import Derived.Stop.Joined
import Derived.SevenTiedAt
import Derived.Test.YtkbgkekegjfkfaaGreatDoorCards
import Derived.Test.YtkbgkekegjfkfaaGreatDoorTie
import Derived.Test.YtkbgkekegjfkfaaGreatDoorY26
import Derived.Test.YtkbgkekegjfkfaaGreatDoorY29
namespace Go.Proofs.YtkbgkekegjfkfaaGreatDoor.Pure
open Go.RowKit A B WW WL WM
set_option linter.unusedVariables false
theorem RulesTexts:∀ (nm0:ByteArray) (cs0:List S48) (acc0 par0:ByteArray) (tg0:List S50),FitR nm0 cs0 acc0 par0 tg0→(∀ x∈cs0,I64 x.f0∧I64 x.f1∧I64 x.f3)→∃ k,lw48_RulesTexts.f k nm0 cs0 acc0 par0 tg0=some true:=by
  intro nm cs acc par tg hF hI;refine Ev.ex (f:=fun k=>lw48_RulesTexts.f k nm cs acc par tg) ?_;unfold lw48_RulesTexts.f;refine Ev.bind (large_ev _ _ _ _ _ hF) (Ev.both (fun h=>Ev.is rfl) (fun h=>?_));have hs:=largeS_small h;refine Ev.bind (rules_Text_ev hs) (Ev.bind (r48_Text_ev hs (fun c hc=>(hI c hc).2.2)) (Ev.yes rfl (Ev.yes rfl ?_)));show Ev (fun k=>lw48_RulesTexts.j0 k (textS nm cs acc par tg).1 (textS nm cs acc par tg).2 false nm cs acc par tg) true
  refine Ev.step (fun k=>by rw [lw48_RulesTexts.j0]) ?_;refine Ev.no (by decide) (Ev.both (fun e=>?_) (fun e=>Ev.is rfl));unfold textS at e ⊢;by_cases hc:checkS nm cs acc par tg=0
  · rw [if_pos hc] at e ⊢
    by_cases hl:400 < (txtL nm cs acc par tg).length
    · rw [if_pos hl] at e;cases e
    · rw [if_neg hl]
      exact Ev.bind (rules_Parse_txt hs hc (by omega)) (Ev.bind (r48_Same_refl nm cs acc par tg (by have:=hs.lc;omega) (by have:=hs.lt;omega)) (Ev.yes rfl (Ev.yes rfl (Ev.is rfl))))
  · rw [if_neg hc] at e;exact absurd e hc
end Go.Proofs.YtkbgkekegjfkfaaGreatDoor.Pure
namespace Go.Proofs.YtkbgkekegjfkfaaGreatDoor.rulesTexts
open Go.ChangeShapes Go.WideShapes Go.ChangeAt Go.RowKit
open Go.ChangeMaps (open_string shut_string)
set_option linter.unusedVariables false
theorem own:ownKnob Tryz.prog.godebug=none:=by kernel_rfl
theorem laidOut:laidOutB Tryz.prog=true:=by kernel_rfl
abbrev laidL : List (String × DataW Unit) := [("accounting/days.lengths", Rows.laid_accounting_days_lengths), ("unicode.White_Space", Rows.laid_unicode_White_Space), ("strings.asciiSpace", Rows.laid_strings_asciiSpace)]
set_option maxRecDepth 100000 in
theorem door_met (os:Os) (args:Array Value):laidMetH Tryz.prog laidL ((World.doorLaid Tryz.prog 400 os).forCall (fun _ _=>0) ⟨#[],args,[]⟩).memory :=
  laidMetH_of_parts3 (fuel:=8) (laidMet_of_run' 8 (by kernel_rfl) (by kernel_rfl)) (by kernel_rfl) (by kernel_rfl)
set_option maxRecDepth 100000 in
theorem gl_of_laid {W:World} (h:laidMetH Tryz.prog laidL W) (hm:∃ m,W.cell? ⟨2,0,none⟩=some (.int .i64 m)):B.Gl W:=B.gl_of_laid (by rw [MakeChecks.laidMetH_plain _ _ _ (by kernel_rfl)] at h;exact h) hm
set_option maxRecDepth 100000 in
theorem lifted (os:Os) (started:os.Started) (H:Type) (enc:TypeId×Value→H) :
    ReturnsInHanded {} Tryz.checked os 6 .any (fun w args=>(Rows.rulesTextsSpec.pre enc Tryz.prog Tryz.f6 [] false w args∧laidMetH Tryz.prog laidL w)∧sizedMet enc Tryz.prog Tryz.f6 (OpenSpec.ofChange Rows.rulesTextsSpec) false w args) (Rows.rulesTextsSpec.post enc Tryz.prog Tryz.f6 false true false false):=by
  refine B.handed_open (C:=Tryz.checked) (X:=fun w _=>laidMetH Tryz.prog laidL w) (fun _ _ _ hh h=>h.of_heap hh) own started (by kernel_rfl) Tryz.func6
    (ChangeSpec.witness_shaped (enc:=enc) (C:=Tryz.checked) (os:=os) (X:=fun w _=>laidMetH Tryz.prog laidL w) false (World.doorLaid Tryz.prog 400 os) #[.agg #[.string ⟨#[]⟩,.slice none 0 0,.string ⟨#[]⟩,.string ⟨#[]⟩,.slice none 0 0]] 8 rfl (World.shaped_of_RefB (by kernel_rfl) (by kernel_rfl)) (by kernel_rfl) (by kernel_rfl) (by kernel_rfl) (door_met os _)) ?_
  intro W base args ds gs before hO hL hval0 hW hsz0;have hG:=gl_of_laid hL (B.maxLen_some hO);have hsz:(DataW.weightsEach Tryz.prog (Tryz.f6.params.toList++Rows.rulesTextsSpec.plain.varTypes Tryz.prog) (ds++gs)).all (·≤reachBytes)=true:=hsz0;have hval:∀ (j:Nat) t v,Tryz.f6.params[j]?=some t→args[j]?=some v→Value.okWide Tryz.prog W .any base t v:=hval0;have hW':=hW;obtain ⟨p,q,hA0,hV,rfl,hfz,hnd⟩:=hW;have hA:DataW.TrodAll enc Tryz.prog W 0 (fun _=>true) true Tryz.f6.params.toList args.toList ds p:=hA0;rw [Tryz.params6] at hA hval hsz;obtain ⟨v0,vs0,d0,ds0,p0,q0,hargs,rfl,rfl,h0,r0⟩:=trodAll_cons hA;obtain ⟨rfl,rfl,rfl⟩:=trodAll_nil r0;obtain rfl:args=#[v0]:=by cases args;simp_all
  obtain ⟨rfl,rfl⟩:=trodVars_none hV;have k0:=h0;have lt0:∀ x∈p0,x.block < W.heap.size:=by obtain ⟨m,hm⟩:=k0;exact DataW.trod_lt m _ _ _ hm
  obtain ⟨nm0,acc0,par0,A0,c0,cs0,B0,d0,tg0,rfl,⟨hl0,hC0,hm0,hD0⟩,hF0,hI0⟩:=A.open_rule (hval 0 25 v0 rfl rfl) h0 (B.arg_weights hsz (j:=0) (t:=25) rfl rfl);clear hA0 hval0 hsz0 hsz;obtain ⟨k,hk⟩:=Pure.RulesTexts nm0 cs0 acc0 par0 tg0 hF0 hI0;refine (A.lw48_RulesTexts.calls k nm0 A0 c0 cs0 acc0 par0 B0 d0 tg0 true W hC0 hl0 hD0 hm0 hk hG).mono fun e W' ⟨he,bel0⟩=>?_
  have bel:Below W.heap.size W W':=bel0;subst he;exact ⟨_,rfl,_,_,_,[],_,[],hW',trodAll_mk1 (shut_bool Tryz.underlying4 _),(trodAll_cons_mk (Below.trod laidOut (by kernel_rfl) (of_decide_eq_true (by kernel_rfl)) k0 bel lt0) trodAll_mk0),rfl,bel.frame _,fun h=>by cases h⟩
theorem over:Rows.rulesTextsRow.holds Tryz.pinned (OpenSpec.ofChange Rows.rulesTextsSpec) :=
  OpenClaim.holds_of_wide 6 Tryz.f6 rfl rfl rfl rfl rfl rfl rfl ⟨rfl,rfl,rfl,rfl,rfl⟩ rfl rfl rfl rfl rfl (by kernel_rfl) Tryz.func6 (by kernel_rfl)
    (of_decide_eq_true (by kernel_rfl)) (by unfold Func.isWrapper;first | (rw [if_pos (by decide +kernel)];kernel_rfl) | (rw [if_neg (by decide +kernel)];exact ⟨rfl,rfl⟩))
    (fun os started H enc _=>lifted os started H enc)
theorem proved:Rows.RulesTextsSaid:=over
end Go.Proofs.YtkbgkekegjfkfaaGreatDoor.rulesTexts
namespace Go.Proofs.YtkbgkekegjfkfaaGreatDoor
theorem rulesTexts_holds:Rows.RulesTextsCardSaid :=
  Claim7.holds_tied_plain_at .later [] [.data, .listed, .data] true (true, "891669ef6671e58eb7a3e4e90bb8fffe22bf62e27f203fa964449a1d32959f4b") false
    rulesTexts.proved (fun _ h=>by cases h) (by kernel_rfl) (fun _ h=>by cases h) rulesTexts_row_tie rfl ⟨rfl,rfl⟩ (by kernel_rfl) rfl
    (fun f fn hf hfn=>by
      obtain rfl : f = 6 := Option.some.inj ((show Tryz.prog.funcNamed "accounting/accountinglaw48.RulesTexts" = some 6 by kernel_rfl).symm.trans hf) |>.symm
      obtain rfl:fn=Tryz.f6:=(Option.some.inj (Tryz.func6.symm.trans hfn)).symm
      exact ⟨by kernel_rfl,fun j t ht=>by
        rw [Tryz.params6] at ht;have hm:t∈[25]:=by simpa using Array.mem_of_getElem? ht
        have hall:([25].all fun u=>!Tryz.prog.wantsStandIn u)=true:=by kernel_rfl
        exact (show Tryz.prog.wantsStandIn t=false by simpa using List.all_eq_true.1 hall t hm)⟩)
    (by kernel_rfl)
end Go.Proofs.YtkbgkekegjfkfaaGreatDoor
