/- Proved: the Go function accountinglaw47.StmtChain returns true at every input and leaves its arguments as_ they were; the package variables are tied to the program's text. This text: the plain law over the functions that the walks have shown. By an AI agent. -/
import Derived.Test.YtmlcdpfcafmmcaaDoorRows
import Derived.ProofKit
import Derived.ShutString
import Derived.ChangeOld
import Derived.LaidMore
import Derived.Stop.Joined
import Derived.SevenTiedAt
import Derived.Test.YtmlcdpfcafmmcaaDoorCards
import Derived.Test.YtmlcdpfcafmmcaaDoorTie
import Derived.Test.YtmlcdpfcafmmcaaDoorX34
import Derived.Test.YtmlcdpfcafmmcaaDoorX35
import Derived.Test.YtmlcdpfcafmmcaaDoorX62
namespace Go.Proofs.YtmlcdpfcafmmcaaDoor.Pure
open Go.RowKit A B WW WL WM
set_option linter.unusedVariables false
def sumA:List S44→Int
  | []=>0
  | x :: r=>x.f1+sumA r
theorem checkL_sum (cl:Int):∀ (R:List S44) (last n:Int),checkL cl R last n=0→n+sumA R=cl∧∀ x∈R,-1000000000000≤x.f1∧x.f1≤1000000000000:=by
  intro R;induction R with
  | nil =>
    intro last n h;rw [checkL] at h;split at h
    · rename_i e;exact ⟨by rw [sumA];omega,fun x hx=>by cases hx⟩
    · exact absurd h (by decide)
  | cons x r ih =>
    intro last n h;rw [checkL] at h;split at h
    · rename_i e
      obtain ⟨h1,h2⟩:=ih _ _ h;refine ⟨by rw [sumA];omega,fun y hy=>?_⟩;rcases List.mem_cons.mp hy with rfl | hy
      · exact lineS_in e
      · exact h2 y hy
    · rename_i e;exact absurd h e
theorem checkS_sum {acc cur:ByteArray} {no op cl:Int} {ls:List S44} (h:checkS acc cur no op cl ls=0):(1≤no∧no≤4000)∧(-1000000000000000≤op∧op≤1000000000000000)∧ls.length≤200∧op+sumA ls=cl∧∀ x∈ls,-1000000000000≤x.f1∧x.f1≤1000000000000:=by
  unfold checkS at h;split at h
  · split at h
    · split at h
      · rename_i hno
        split at h
        · rename_i hin
          split at h
          · exact absurd h (by decide)
          · obtain ⟨h1,h2⟩:=checkL_sum _ _ _ _ h
            have:=hin.1;unfold inS at this;rw [decide_eq_true_iff] at this;exact ⟨hno,this,by omega,h1,h2⟩
        · exact absurd h (by decide)
      · exact absurd h (by decide)
    · exact absurd h (by decide)
  · exact absurd h (by decide)
theorem StmtChain:∀ (ac0 cu0:ByteArray) (no0 ow0 cw0:Int) (ls0:List S44) (ac1 cu1:ByteArray) (no1 ow1 cw1:Int) (ls1:List S44),(I64 no0∧I64 ow0∧I64 cw0)→(∀ x∈ls0,I64 x.f0∧I64 x.f1)→(I64 no1∧I64 ow1∧I64 cw1)→(∀ x∈ls1,I64 x.f0∧I64 x.f1)→∃ k,lw47_StmtChain.f k ac0 cu0 no0 ow0 cw0 ls0 ac1 cu1 no1 ow1 cw1 ls1=some true:=by
  intro ac0 cu0 no0 ow0 cw0 ls0 ac1 cu1 no1 ow1 cw1 ls1 hN hS hN1 hS1;refine Ev.ex (f:=fun k=>lw47_StmtChain.f k ac0 cu0 no0 ow0 cw0 ls0 ac1 cu1 no1 ow1 cw1 ls1) ?_;have tr:Ev (fun k=>lw47_StmtChain.j0 k true ac0 cu0 no0 ow0 cw0 ls0 ac1 cu1 no1 ow1 cw1 ls1) true:=Ev.step (fun k=>by rw [lw47_StmtChain.j0]) (Ev.yes rfl Ev.live);unfold lw47_StmtChain.f;refine Ev.bind (light_ev _ _ _ _ _ _) (Ev.both (fun h=>Ev.bind (light_ev _ _ _ _ _ _) (Ev.both (fun g=>?_) (fun g=>tr))) (fun h=>tr));refine Ev.bind (stmt_Follows_ev (ac0,cu0,no0,ow0,cw0,ls0) (ac1,cu1,no1,ow1,cw1,ls1) (lightS_short h) (lightS_short g)) ?_
  cases fo:followsS (ac0,cu0,no0,ow0,cw0,ls0) (ac1,cu1,no1,ow1,cw1,ls1) with
  | false=>exact tr
  | true =>
    unfold followsS at fo;rw [decide_eq_true_iff] at fo;dsimp only at fo
    obtain ⟨f1,f2,f3,f4,f5,f6⟩:=fo;obtain ⟨a1,a2,a3,a4,a5⟩:=checkS_sum f1;obtain ⟨b1,b2,b3,b4,b5⟩:=checkS_sum f2;rw [w_in (by omega)] at f5;refine Ev.step (fun k=>by rw [lw47_StmtChain.j0]) (Ev.no (by decide) ?_)
    have no:followsS (ac1,cu1,no1,ow1,cw1,ls1) (ac0,cu0,no0,ow0,cw0,ls0)=false:=by
      unfold followsS;refine decide_eq_false (fun x=>?_);have:=x.2.2.2.2.1;dsimp only at this
      rw [w_in (by omega)] at this;omega
    have l1:∀ (R:List S44) (i:Nat) (n:Int),ls1.drop i=R→n+sumA R=cw1→i≤ls1.length→n≤500000000000000000+1000000000000 * (i:Int)→-500000000000000000 - 1000000000000 * (i:Int)≤n→Ev (fun k=>lw47_StmtChain.l1 k n (i:Int) ac0 cu0 no0 ow0 cw0 ls0 ac1 cu1 no1 ow1 cw1 ls1) true:=fun R=>by
      induction R with
      | nil =>
        intro i n e s hj h2 h3;have:=List.drop_eq_nil_iff.mp e;rw [sumA] at s;refine Ev.step (fun k=>by rw [lw47_StmtChain.l1]) (Ev.no (by omega) (Ev.yes (by omega) ?_));refine Ev.bind (stmt_Follows_ev (ac1,cu1,no1,ow1,cw1,ls1) (ac0,cu0,no0,ow0,cw0,ls0) (lightS_short g) (lightS_short h)) ?_;rw [no];exact Ev.no (by decide) Ev.live
      | cons x r ih =>
        intro i n e s hj h2 h3;obtain ⟨hi,hx,hr⟩:=rd44_at e;rw [sumA] at s;have:=b5 x (List.mem_of_mem_drop (i:=i) (by rw [e];exact List.mem_cons_self));refine Ev.step (fun k=>by rw [lw47_StmtChain.l1]) (Ev.yes (by omega) (Ev.yes (by omega) ?_));rw [hx,w_next i (by omega),w_in (by omega)];exact ih (i+1) _ hr (by omega) (by omega) (by omega) (by omega)
    have l0:∀ (R:List S44) (i:Nat) (n:Int),ls0.drop i=R→n+sumA R=cw0→i≤ls0.length→n≤1000000000000000+1000000000000 * (i:Int)→-1000000000000000 - 1000000000000 * (i:Int)≤n→Ev (fun k=>lw47_StmtChain.l0 k n (i:Int) ac0 cu0 no0 ow0 cw0 ls0 ac1 cu1 no1 ow1 cw1 ls1) true:=fun R=>by
      induction R with
      | nil =>
        intro i n e s hj h2 h3;have:=List.drop_eq_nil_iff.mp e;rw [sumA] at s;refine Ev.step (fun k=>by rw [lw47_StmtChain.l0]) (Ev.no (by omega) ?_);exact l1 ls1 0 n rfl (by omega) (by omega) (by omega) (by omega)
      | cons x r ih =>
        intro i n e s hj h2 h3;obtain ⟨hi,hx,hr⟩:=rd44_at e;rw [sumA] at s;have:=a5 x (List.mem_of_mem_drop (i:=i) (by rw [e];exact List.mem_cons_self));refine Ev.step (fun k=>by rw [lw47_StmtChain.l0]) (Ev.yes (by omega) (Ev.yes (by omega) ?_));rw [hx,w_next i (by omega),w_in (by omega)];exact ih (i+1) _ hr (by omega) (by omega) (by omega) (by omega)
    exact l0 ls0 0 ow0 rfl (by omega) (by omega) (by omega) (by omega)
end Go.Proofs.YtmlcdpfcafmmcaaDoor.Pure
namespace Go.Proofs.YtmlcdpfcafmmcaaDoor.stmtChain
open Go.ChangeShapes Go.WideShapes Go.ChangeAt Go.RowKit
open Go.ChangeMaps (open_string shut_string)
set_option linter.unusedVariables false
theorem own:ownKnob Tryd.prog.godebug=none:=by kernel_rfl
theorem laidOut:laidOutB Tryd.prog=true:=by kernel_rfl
abbrev laidL : List (String × DataW Unit) := [("accounting/days.lengths", Rows.laid_accounting_days_lengths), ("accounting/money.powers", Rows.laid_accounting_money_powers)]
theorem door_met (os:Os) (args:Array Value):laidMetH Tryd.prog laidL ((World.doorLaid Tryd.prog 400 os).forCall (fun _ _=>0) ⟨#[],args,[]⟩).memory :=
  laidMetH_of_parts3 (fuel:=8) (laidMet_of_run' 8 (by kernel_rfl) (by kernel_rfl)) (by kernel_rfl) (by kernel_rfl)
theorem gl_of_laid {W:World} (h:laidMetH Tryd.prog laidL W):B.Gl W:=B.gl_of_laid (by rw [MakeChecks.laidMetH_plain _ _ _ (by kernel_rfl)] at h;exact h)
set_option maxRecDepth 100000 in
theorem lifted (os:Os) (started:os.Started) (H:Type) (enc:TypeId×Value→H) :
    ReturnsInHanded {} Tryd.checked os 9 .any (fun w args=>(Rows.stmtChainSpec.pre enc Tryd.prog Tryd.f9 [] false w args∧laidMetH Tryd.prog laidL w)∧sizedMet enc Tryd.prog Tryd.f9 (OpenSpec.ofChange Rows.stmtChainSpec) false w args) (Rows.stmtChainSpec.post enc Tryd.prog Tryd.f9 false true false false):=by
  refine returnsInHanded_of_change_and (C:=Tryd.checked) (X:=fun w _=>laidMetH Tryd.prog laidL w) (fun _ _ _ hh h=>h.of_heap hh) own started (by kernel_rfl) Tryd.func9
    (ChangeSpec.witness_shaped (enc:=enc) (C:=Tryd.checked) (os:=os) (X:=fun w _=>laidMetH Tryd.prog laidL w) false (World.doorLaid Tryd.prog 400 os) #[.agg #[.string ⟨#[]⟩,.string ⟨#[]⟩,.int .i64 0,.int .i64 0,.int .i64 0,.slice none 0 0],.agg #[.string ⟨#[]⟩,.string ⟨#[]⟩,.int .i64 0,.int .i64 0,.int .i64 0,.slice none 0 0]] 8 rfl (World.shaped_of_RefB (by kernel_rfl) (by kernel_rfl)) (by kernel_rfl) (by kernel_rfl) (by kernel_rfl) (door_met os _)) ?_
  intro W base args ds gs before hval0 hW hcnd hsz0 hL _;have hG:=gl_of_laid hL;have hsz:(DataW.weightsEach Tryd.prog (Tryd.f9.params.toList++Rows.stmtChainSpec.plain.varTypes Tryd.prog) (ds++gs)).all (·≤reachBytes)=true:=hsz0;have hval:∀ (j:Nat) t v,Tryd.f9.params[j]?=some t→args[j]?=some v→Value.okWide Tryd.prog W .any base t v:=hval0;have hW':=hW;obtain ⟨p,q,hA0,hV,rfl,hfz,hnd⟩:=hW;have hA:DataW.TrodAll enc Tryd.prog W 0 (fun _=>true) true Tryd.f9.params.toList args.toList ds p:=hA0;rw [Tryd.params9] at hA hval hsz;obtain ⟨v0,vs0,d0,ds0,p0,q0,hargs,rfl,rfl,h0,r0⟩:=trodAll_cons hA;obtain ⟨v1,vs1,d1,ds1,p1,q1,rfl,rfl,rfl,h1,r1⟩:=trodAll_cons r0;obtain ⟨rfl,rfl,rfl⟩:=trodAll_nil r1;obtain rfl:args=#[v0,v1]:=by cases args;simp_all
  obtain ⟨rfl,rfl⟩:=trodVars_none hV;have k0:=h0;have lt0:∀ x∈p0,x.block < W.heap.size:=by obtain ⟨m,hm⟩:=k0;exact DataW.trod_lt m _ _ _ hm
  obtain ⟨ac0,cu0,no0,ow0,cw0,A0,c0,a0,rfl,hlc0,hC0,hN0,hS0⟩:=A.open_stmt (hval 0 24 v0 rfl rfl) h0 (B.arg_weights hsz (j:=0) (t:=24) rfl rfl);have k1:=h1;have lt1:∀ x∈p1,x.block < W.heap.size:=by obtain ⟨m,hm⟩:=k1;exact DataW.trod_lt m _ _ _ hm
  obtain ⟨ac1,cu1,no1,ow1,cw1,A1,c1,a1,rfl,hlc1,hC1,hN1,hS1⟩:=A.open_stmt (hval 1 24 v1 rfl rfl) h1 (B.arg_weights hsz (j:=1) (t:=24) rfl rfl);clear hA0 hval0 hsz0 hsz;obtain ⟨k,hk⟩:=Pure.StmtChain ac0 cu0 no0 ow0 cw0 a0 ac1 cu1 no1 ow1 cw1 a1 hN0 hS0 hN1 hS1;refine (A.lw47_StmtChain.calls k ac0 cu0 no0 ow0 cw0 A0 c0 a0 ac1 cu1 no1 ow1 cw1 A1 c1 a1 true W hC0 hlc0 hC1 hlc1 hk hG).mono fun e W' ⟨he,bel0⟩=>?_
  have bel:Below W.heap.size W W':=bel0;subst he;exact ⟨_,rfl,_,_,_,[],_,[],hW',trodAll_mk1 (shut_bool Tryd.underlying4 _),(trodAll_cons_mk (Below.trod laidOut (by kernel_rfl) (of_decide_eq_true (by kernel_rfl)) k0 bel lt0) (trodAll_cons_mk (Below.trod laidOut (by kernel_rfl) (of_decide_eq_true (by kernel_rfl)) k1 bel lt1) trodAll_mk0)),rfl,bel.frame _,fun h=>by cases h⟩
theorem over:Rows.stmtChainRow.holds Tryd.pinned (OpenSpec.ofChange Rows.stmtChainSpec) :=
  OpenClaim.holds_of_wide 9 Tryd.f9 rfl rfl rfl rfl rfl rfl rfl ⟨rfl,rfl,rfl,rfl,rfl⟩ rfl rfl rfl rfl rfl (by kernel_rfl) Tryd.func9 (by kernel_rfl)
    (of_decide_eq_true (by kernel_rfl)) (by unfold Func.isWrapper;first | (rw [if_pos (by decide +kernel)];kernel_rfl) | (rw [if_neg (by decide +kernel)];exact ⟨rfl,rfl⟩))
    (fun os started H enc _=>lifted os started H enc)
theorem proved:Rows.StmtChainSaid:=over
end Go.Proofs.YtmlcdpfcafmmcaaDoor.stmtChain
namespace Go.Proofs.YtmlcdpfcafmmcaaDoor
theorem stmtChain_holds:Rows.StmtChainCardSaid :=
  Claim7.holds_tied_plain_at .later [] [.data, .data] true (true, "e2ca4102f9483c5686cf01e559ba30cc68b277cf3843f274404e99127137410b") false
    stmtChain.proved (fun _ h=>by cases h) (by kernel_rfl) (fun _ h=>by cases h) stmtChain_row_tie rfl ⟨rfl,rfl⟩ (by kernel_rfl) rfl
    (fun f fn hf hfn=>by
      obtain rfl : f = 9 := Option.some.inj ((show Tryd.prog.funcNamed "accounting/accountinglaw47.StmtChain" = some 9 by kernel_rfl).symm.trans hf) |>.symm
      obtain rfl:fn=Tryd.f9:=(Option.some.inj (Tryd.func9.symm.trans hfn)).symm
      exact ⟨by kernel_rfl,fun j t ht=>by
        rw [Tryd.params9] at ht;have hm:t∈[24,24]:=by simpa using Array.mem_of_getElem? ht
        have hall:([24,24].all fun u=>!Tryd.prog.wantsStandIn u)=true:=by kernel_rfl
        exact (show Tryd.prog.wantsStandIn t=false by simpa using List.all_eq_true.1 hall t hm)⟩)
    (by kernel_rfl)
end Go.Proofs.YtmlcdpfcafmmcaaDoor
