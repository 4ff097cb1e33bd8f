/- Proved: the Go function accountinglaw47.StmtCheck returns true at every input and leaves its arguments as_ they were; the package variables are tied to the program's text. This text: the plain law over the functions that the walks have shown. By an AI agent. -/
import Derived.Test.YtmlcdpfcafmmcaaDoorRows
import Derived.ProofKit
import Derived.ShutString
import Derived.ChangeOld
import Derived.LaidMore
import Derived.Stop.Joined
import Derived.SevenTiedAt
import Derived.Test.YtmlcdpfcafmmcaaDoorCards
import Derived.Test.YtmlcdpfcafmmcaaDoorTie
import Derived.Test.YtmlcdpfcafmmcaaDoorX63
namespace Go.Proofs.YtmlcdpfcafmmcaaDoor.Pure
open Go.RowKit A B WW WL WM
set_option linter.unusedVariables false
theorem StmtCheck:∀ (ac0 cu0:ByteArray) (no0 ow0 cw0:Int) (ls0:List S44),(I64 no0∧I64 ow0∧I64 cw0)→(∀ x∈ls0,I64 x.f0∧I64 x.f1)→∃ k,lw47_StmtCheck.f k ac0 cu0 no0 ow0 cw0 ls0=some true:=by
  intro ac0 cu0 no0 ow0 cw0 ls0 hN hS;refine Ev.ex (f:=fun k=>lw47_StmtCheck.f k ac0 cu0 no0 ow0 cw0 ls0) ?_;unfold lw47_StmtCheck.f;refine Ev.bind (light_ev _ _ _ _ _ _) (Ev.both (fun h=>?_) (fun h=>Ev.live));obtain ⟨h1,h2,h3⟩:=lightS_short h;exact Ev.bind (stmt_Check_ev _ _ _ _ _ _ h1 h2 h3) (Ev.bind (ref47_Check_ev _ _ _ _ _ _ h1 h2 h3) (Ev.yes rfl Ev.live))
end Go.Proofs.YtmlcdpfcafmmcaaDoor.Pure
namespace Go.Proofs.YtmlcdpfcafmmcaaDoor.stmtCheck
open Go.ChangeShapes Go.WideShapes Go.ChangeAt Go.RowKit
open Go.ChangeMaps (open_string shut_string)
set_option linter.unusedVariables false
theorem own:ownKnob Tryd.prog.godebug=none:=by kernel_rfl
theorem laidOut:laidOutB Tryd.prog=true:=by kernel_rfl
abbrev laidL : List (String × DataW Unit) := [("accounting/days.lengths", Rows.laid_accounting_days_lengths), ("accounting/money.powers", Rows.laid_accounting_money_powers)]
theorem door_met (os:Os) (args:Array Value):laidMetH Tryd.prog laidL ((World.doorLaid Tryd.prog 400 os).forCall (fun _ _=>0) ⟨#[],args,[]⟩).memory :=
  laidMetH_of_parts3 (fuel:=8) (laidMet_of_run' 8 (by kernel_rfl) (by kernel_rfl)) (by kernel_rfl) (by kernel_rfl)
theorem gl_of_laid {W:World} (h:laidMetH Tryd.prog laidL W):B.Gl W:=B.gl_of_laid (by rw [MakeChecks.laidMetH_plain _ _ _ (by kernel_rfl)] at h;exact h)
set_option maxRecDepth 100000 in
theorem lifted (os:Os) (started:os.Started) (H:Type) (enc:TypeId×Value→H) :
    ReturnsInHanded {} Tryd.checked os 3 .any (fun w args=>(Rows.stmtCheckSpec.pre enc Tryd.prog Tryd.f3 [] false w args∧laidMetH Tryd.prog laidL w)∧sizedMet enc Tryd.prog Tryd.f3 (OpenSpec.ofChange Rows.stmtCheckSpec) false w args) (Rows.stmtCheckSpec.post enc Tryd.prog Tryd.f3 false true false false):=by
  refine returnsInHanded_of_change_and (C:=Tryd.checked) (X:=fun w _=>laidMetH Tryd.prog laidL w) (fun _ _ _ hh h=>h.of_heap hh) own started (by kernel_rfl) Tryd.func3
    (ChangeSpec.witness_shaped (enc:=enc) (C:=Tryd.checked) (os:=os) (X:=fun w _=>laidMetH Tryd.prog laidL w) false (World.doorLaid Tryd.prog 400 os) #[.agg #[.string ⟨#[]⟩,.string ⟨#[]⟩,.int .i64 0,.int .i64 0,.int .i64 0,.slice none 0 0]] 8 rfl (World.shaped_of_RefB (by kernel_rfl) (by kernel_rfl)) (by kernel_rfl) (by kernel_rfl) (by kernel_rfl) (door_met os _)) ?_
  intro W base args ds gs before hval0 hW hcnd hsz0 hL _;have hG:=gl_of_laid hL;have hsz:(DataW.weightsEach Tryd.prog (Tryd.f3.params.toList++Rows.stmtCheckSpec.plain.varTypes Tryd.prog) (ds++gs)).all (·≤reachBytes)=true:=hsz0;have hval:∀ (j:Nat) t v,Tryd.f3.params[j]?=some t→args[j]?=some v→Value.okWide Tryd.prog W .any base t v:=hval0;have hW':=hW;obtain ⟨p,q,hA0,hV,rfl,hfz,hnd⟩:=hW;have hA:DataW.TrodAll enc Tryd.prog W 0 (fun _=>true) true Tryd.f3.params.toList args.toList ds p:=hA0;rw [Tryd.params3] at hA hval hsz;obtain ⟨v0,vs0,d0,ds0,p0,q0,hargs,rfl,rfl,h0,r0⟩:=trodAll_cons hA;obtain ⟨rfl,rfl,rfl⟩:=trodAll_nil r0;obtain rfl:args=#[v0]:=by cases args;simp_all
  obtain ⟨rfl,rfl⟩:=trodVars_none hV;have k0:=h0;have lt0:∀ x∈p0,x.block < W.heap.size:=by obtain ⟨m,hm⟩:=k0;exact DataW.trod_lt m _ _ _ hm
  obtain ⟨ac0,cu0,no0,ow0,cw0,A0,c0,a0,rfl,hlc0,hC0,hN0,hS0⟩:=A.open_stmt (hval 0 24 v0 rfl rfl) h0 (B.arg_weights hsz (j:=0) (t:=24) rfl rfl);clear hA0 hval0 hsz0 hsz;obtain ⟨k,hk⟩:=Pure.StmtCheck ac0 cu0 no0 ow0 cw0 a0 hN0 hS0;refine (A.lw47_StmtCheck.calls k ac0 cu0 no0 ow0 cw0 A0 c0 a0 true W hC0 hlc0 hk hG).mono fun e W' ⟨he,bel0⟩=>?_
  have bel:Below W.heap.size W W':=bel0;subst he;exact ⟨_,rfl,_,_,_,[],_,[],hW',trodAll_mk1 (shut_bool Tryd.underlying4 _),(trodAll_cons_mk (Below.trod laidOut (by kernel_rfl) (of_decide_eq_true (by kernel_rfl)) k0 bel lt0) trodAll_mk0),rfl,bel.frame _,fun h=>by cases h⟩
theorem over:Rows.stmtCheckRow.holds Tryd.pinned (OpenSpec.ofChange Rows.stmtCheckSpec) :=
  OpenClaim.holds_of_wide 3 Tryd.f3 rfl rfl rfl rfl rfl rfl rfl ⟨rfl,rfl,rfl,rfl,rfl⟩ rfl rfl rfl rfl rfl (by kernel_rfl) Tryd.func3 (by kernel_rfl)
    (of_decide_eq_true (by kernel_rfl)) (by unfold Func.isWrapper;first | (rw [if_pos (by decide +kernel)];kernel_rfl) | (rw [if_neg (by decide +kernel)];exact ⟨rfl,rfl⟩))
    (fun os started H enc _=>lifted os started H enc)
theorem proved:Rows.StmtCheckSaid:=over
end Go.Proofs.YtmlcdpfcafmmcaaDoor.stmtCheck
namespace Go.Proofs.YtmlcdpfcafmmcaaDoor
theorem stmtCheck_holds:Rows.StmtCheckCardSaid :=
  Claim7.holds_tied_plain_at .later [] [.data, .data] true (true, "e2ca4102f9483c5686cf01e559ba30cc68b277cf3843f274404e99127137410b") false
    stmtCheck.proved (fun _ h=>by cases h) (by kernel_rfl) (fun _ h=>by cases h) stmtCheck_row_tie rfl ⟨rfl,rfl⟩ (by kernel_rfl) rfl
    (fun f fn hf hfn=>by
      obtain rfl : f = 3 := Option.some.inj ((show Tryd.prog.funcNamed "accounting/accountinglaw47.StmtCheck" = some 3 by kernel_rfl).symm.trans hf) |>.symm
      obtain rfl:fn=Tryd.f3:=(Option.some.inj (Tryd.func3.symm.trans hfn)).symm
      exact ⟨by kernel_rfl,fun j t ht=>by
        rw [Tryd.params3] at ht;have hm:t∈[24]:=by simpa using Array.mem_of_getElem? ht
        have hall:([24].all fun u=>!Tryd.prog.wantsStandIn u)=true:=by kernel_rfl
        exact (show Tryd.prog.wantsStandIn t=false by simpa using List.all_eq_true.1 hall t hm)⟩)
    (by kernel_rfl)
end Go.Proofs.YtmlcdpfcafmmcaaDoor
