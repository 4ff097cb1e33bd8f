/- Proved: the Go function accountinglaw47.StmtText returns true at every input and leaves its arguments as_ they were; the package variables are tied to the program's text. This text: the plain law over the functions that the walks have shown. By an AI agent. -/
import Derived.Test.YtmlcdpfcafmmcaaDoorRows
import Derived.ProofKit
import Derived.ShutString
import Derived.ChangeOld
import Derived.LaidMore
import Derived.Stop.Joined
import Derived.SevenTiedAt
import Derived.Test.YtmlcdpfcafmmcaaDoorCards
import Derived.Test.YtmlcdpfcafmmcaaDoorTie
import Derived.Test.YtmlcdpfcafmmcaaDoorX60
namespace Go.Proofs.YtmlcdpfcafmmcaaDoor.Pure
open Go.RowKit A B WW WL WM
set_option linter.unusedVariables false
theorem StmtText:∀ (ac0 cu0:ByteArray) (no0 ow0 cw0:Int) (ls0:List S44) (a1:List S77),(I64 no0∧I64 ow0∧I64 cw0)→(∀ x∈ls0,I64 x.f0∧I64 x.f1)→(∀ x∈a1,x.f0.size≤140737488351232)→∃ k,lw47_StmtText.f k ac0 cu0 no0 ow0 cw0 ls0 a1=some true:=by
  intro ac0 cu0 no0 ow0 cw0 ls0 a1 hN hS hC;refine Ev.ex (f:=fun k=>lw47_StmtText.f k ac0 cu0 no0 ow0 cw0 ls0 a1) ?_;have tr:Ev (fun k=>lw47_StmtText.j0 k a1 true ac0 cu0 no0 ow0 cw0 ls0) true:=Ev.step (fun k=>by rw [lw47_StmtText.j0]) (Ev.yes rfl Ev.live);unfold lw47_StmtText.f;refine Ev.bind (light_ev _ _ _ _ _ _) (Ev.both (fun h=>?_) (fun h=>tr));by_cases c:(a1.length:Int) > 60
  · rw [decide_eq_true c];exact tr
  rw [decide_eq_false c];obtain ⟨h1,h2,h3⟩:=lightS_short h;have:=(lightS_is h).2.2.1;refine Ev.step (fun k=>by rw [lw47_StmtText.j0]) (Ev.no (by decide) ?_);exact Ev.bind (stmt_Text_ev _ _ _ _ _ _ _ h1 h2 h3 (by omega) (by omega) hC) (Ev.bind (ref47_Text_ev _ _ _ _ _ _ _ h1 h2 h3 (by omega)) (Ev.yes rfl (Ev.yes rfl Ev.live)))
end Go.Proofs.YtmlcdpfcafmmcaaDoor.Pure
namespace Go.Proofs.YtmlcdpfcafmmcaaDoor.stmtText
open Go.ChangeShapes Go.WideShapes Go.ChangeAt Go.RowKit
open Go.ChangeMaps (open_string shut_string)
set_option linter.unusedVariables false
theorem own:ownKnob Tryd.prog.godebug=none:=by kernel_rfl
theorem laidOut:laidOutB Tryd.prog=true:=by kernel_rfl
abbrev laidL : List (String × DataW Unit) := [("accounting/days.lengths", Rows.laid_accounting_days_lengths), ("accounting/money.powers", Rows.laid_accounting_money_powers)]
theorem door_met (os:Os) (args:Array Value):laidMetH Tryd.prog laidL ((World.doorLaid Tryd.prog 400 os).forCall (fun _ _=>0) ⟨#[],args,[]⟩).memory :=
  laidMetH_of_parts3 (fuel:=8) (laidMet_of_run' 8 (by kernel_rfl) (by kernel_rfl)) (by kernel_rfl) (by kernel_rfl)
theorem gl_of_laid {W:World} (h:laidMetH Tryd.prog laidL W):B.Gl W:=B.gl_of_laid (by rw [MakeChecks.laidMetH_plain _ _ _ (by kernel_rfl)] at h;exact h)
set_option maxRecDepth 100000 in
theorem lifted (os:Os) (started:os.Started) (H:Type) (enc:TypeId×Value→H) :
    ReturnsInHanded {} Tryd.checked os 5 .any (fun w args=>(Rows.stmtTextSpec.pre enc Tryd.prog Tryd.f5 [] false w args∧laidMetH Tryd.prog laidL w)∧sizedMet enc Tryd.prog Tryd.f5 (OpenSpec.ofChange Rows.stmtTextSpec) false w args) (Rows.stmtTextSpec.post enc Tryd.prog Tryd.f5 false true false false):=by
  refine returnsInHanded_of_change_and (C:=Tryd.checked) (X:=fun w _=>laidMetH Tryd.prog laidL w) (fun _ _ _ hh h=>h.of_heap hh) own started (by kernel_rfl) Tryd.func5
    (ChangeSpec.witness_shaped (enc:=enc) (C:=Tryd.checked) (os:=os) (X:=fun w _=>laidMetH Tryd.prog laidL w) false (World.doorLaid Tryd.prog 400 os) #[.agg #[.string ⟨#[]⟩,.string ⟨#[]⟩,.int .i64 0,.int .i64 0,.int .i64 0,.slice none 0 0],.slice none 0 0] 8 rfl (World.shaped_of_RefB (by kernel_rfl) (by kernel_rfl)) (by kernel_rfl) (by kernel_rfl) (by kernel_rfl) (door_met os _)) ?_
  intro W base args ds gs before hval0 hW hcnd hsz0 hL _;have hG:=gl_of_laid hL;have hsz:(DataW.weightsEach Tryd.prog (Tryd.f5.params.toList++Rows.stmtTextSpec.plain.varTypes Tryd.prog) (ds++gs)).all (·≤reachBytes)=true:=hsz0;have hval:∀ (j:Nat) t v,Tryd.f5.params[j]?=some t→args[j]?=some v→Value.okWide Tryd.prog W .any base t v:=hval0;have hW':=hW;obtain ⟨p,q,hA0,hV,rfl,hfz,hnd⟩:=hW;have hA:DataW.TrodAll enc Tryd.prog W 0 (fun _=>true) true Tryd.f5.params.toList args.toList ds p:=hA0;rw [Tryd.params5] at hA hval hsz;obtain ⟨v0,vs0,d0,ds0,p0,q0,hargs,rfl,rfl,h0,r0⟩:=trodAll_cons hA;obtain ⟨v1,vs1,d1,ds1,p1,q1,rfl,rfl,rfl,h1,r1⟩:=trodAll_cons r0;obtain ⟨rfl,rfl,rfl⟩:=trodAll_nil r1;obtain rfl:args=#[v0,v1]:=by cases args;simp_all
  obtain ⟨rfl,rfl⟩:=trodVars_none hV;have k0:=h0;have lt0:∀ x∈p0,x.block < W.heap.size:=by obtain ⟨m,hm⟩:=k0;exact DataW.trod_lt m _ _ _ hm
  obtain ⟨ac0,cu0,no0,ow0,cw0,A0,c0,a0,rfl,hlc0,hC0,hN0,hS0⟩:=A.open_stmt (hval 0 24 v0 rfl rfl) h0 (B.arg_weights hsz (j:=0) (t:=24) rfl rfl);have k1:=h1;have lt1:∀ x∈p1,x.block < W.heap.size:=by obtain ⟨m,hm⟩:=k1;exact DataW.trod_lt m _ _ _ hm
  obtain ⟨A1,c1,a1,rfl,hlc1,hC1,hS1⟩:=A.open_curs (hval 1 31 v1 rfl rfl) h1 (B.arg_weights hsz (j:=1) (t:=31) rfl rfl);clear hA0 hval0 hsz0 hsz;obtain ⟨k,hk⟩:=Pure.StmtText ac0 cu0 no0 ow0 cw0 a0 a1 hN0 hS0 hS1;refine (A.lw47_StmtText.calls k ac0 cu0 no0 ow0 cw0 A0 c0 a0 A1 c1 a1 true W hC0 hlc0 hC1 hlc1 hk hG).mono fun e W' ⟨he,bel0⟩=>?_
  have bel:Below W.heap.size W W':=bel0;subst he;exact ⟨_,rfl,_,_,_,[],_,[],hW',trodAll_mk1 (shut_bool Tryd.underlying4 _),(trodAll_cons_mk (Below.trod laidOut (by kernel_rfl) (of_decide_eq_true (by kernel_rfl)) k0 bel lt0) (trodAll_cons_mk (Below.trod laidOut (by kernel_rfl) (of_decide_eq_true (by kernel_rfl)) k1 bel lt1) trodAll_mk0)),rfl,bel.frame _,fun h=>by cases h⟩
theorem over:Rows.stmtTextRow.holds Tryd.pinned (OpenSpec.ofChange Rows.stmtTextSpec) :=
  OpenClaim.holds_of_wide 5 Tryd.f5 rfl rfl rfl rfl rfl rfl rfl ⟨rfl,rfl,rfl,rfl,rfl⟩ rfl rfl rfl rfl rfl (by kernel_rfl) Tryd.func5 (by kernel_rfl)
    (of_decide_eq_true (by kernel_rfl)) (by unfold Func.isWrapper;first | (rw [if_pos (by decide +kernel)];kernel_rfl) | (rw [if_neg (by decide +kernel)];exact ⟨rfl,rfl⟩))
    (fun os started H enc _=>lifted os started H enc)
theorem proved:Rows.StmtTextSaid:=over
end Go.Proofs.YtmlcdpfcafmmcaaDoor.stmtText
namespace Go.Proofs.YtmlcdpfcafmmcaaDoor
theorem stmtText_holds:Rows.StmtTextCardSaid :=
  Claim7.holds_tied_plain_at .later [] [.data, .data] true (true, "e2ca4102f9483c5686cf01e559ba30cc68b277cf3843f274404e99127137410b") false
    stmtText.proved (fun _ h=>by cases h) (by kernel_rfl) (fun _ h=>by cases h) stmtText_row_tie rfl ⟨rfl,rfl⟩ (by kernel_rfl) rfl
    (fun f fn hf hfn=>by
      obtain rfl : f = 5 := Option.some.inj ((show Tryd.prog.funcNamed "accounting/accountinglaw47.StmtText" = some 5 by kernel_rfl).symm.trans hf) |>.symm
      obtain rfl:fn=Tryd.f5:=(Option.some.inj (Tryd.func5.symm.trans hfn)).symm
      exact ⟨by kernel_rfl,fun j t ht=>by
        rw [Tryd.params5] at ht;have hm:t∈[24,31]:=by simpa using Array.mem_of_getElem? ht
        have hall:([24,31].all fun u=>!Tryd.prog.wantsStandIn u)=true:=by kernel_rfl
        exact (show Tryd.prog.wantsStandIn t=false by simpa using List.all_eq_true.1 hall t hm)⟩)
    (by kernel_rfl)
end Go.Proofs.YtmlcdpfcafmmcaaDoor
