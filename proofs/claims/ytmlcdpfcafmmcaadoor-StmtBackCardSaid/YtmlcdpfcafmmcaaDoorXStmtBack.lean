/- Proved: the Go function accountinglaw47.StmtBack returns true at every input and leaves its arguments as_ they were; the package variables are tied to the program's text. This text: the plain law over the functions that the walks have shown. By an AI agent. -/
import Derived.Test.YtmlcdpfcafmmcaaDoorRows
import Derived.ProofKit
import Derived.ShutString
import Derived.ChangeOld
import Derived.LaidMore
import Derived.Stop.Joined
import Derived.SevenTiedAt
import Derived.Test.YtmlcdpfcafmmcaaDoorCards
import Derived.Test.YtmlcdpfcafmmcaaDoorTie
import Derived.Test.YtmlcdpfcafmmcaaDoorX51
import Derived.Test.YtmlcdpfcafmmcaaDoorX52
namespace Go.Proofs.YtmlcdpfcafmmcaaDoor.Pure
open Go.RowKit A B WW WL WM
set_option linter.unusedVariables false
theorem StmtBack:∀ (ac0 cu0:ByteArray) (no0 ow0 cw0:Int) (ls0:List S44) (a1:ByteArray) (a2:List S77),(I64 no0∧I64 ow0∧I64 cw0)→(∀ x∈ls0,I64 x.f0∧I64 x.f1)→a1.size≤140737488351232→(∀ x∈a2,x.f0.size≤140737488351232)→∃ k,lw47_StmtBack.f k ac0 cu0 no0 ow0 cw0 ls0 a1 a2=some true:=by
  intro ac0 cu0 no0 ow0 cw0 ls0 a1 a2 hN hS h1 hC;refine Ev.ex (f:=fun k=>lw47_StmtBack.f k ac0 cu0 no0 ow0 cw0 ls0 a1 a2) ?_;have tr:Ev (fun k=>lw47_StmtBack.j0 k a1 a2 true ac0 cu0 no0 ow0 cw0 ls0) true:=Ev.step (fun k=>by rw [lw47_StmtBack.j0]) (Ev.yes rfl Ev.live);unfold lw47_StmtBack.f;refine Ev.bind (light_ev _ _ _ _ _ _) (Ev.both (fun h=>Ev.both (fun g=>tr) (fun g=>?_)) (fun h=>tr));by_cases c:(a2.length:Int) > 60
  · rw [decide_eq_true c];exact tr
  rw [decide_eq_false c];obtain ⟨s1,s2,s3⟩:=lightS_short h;have s4:=(lightS_is h).2.2.1;have h60:a2.length≤60:=by omega
  have hs:a1.data.toList.length≤900000:=by rw [← size_eq'];omega
  have rd:∀ (acc cur:ByteArray) (no op cl:Int) (ls:List S44),rtL a2=true→checkS acc cur no op cl ls=0→(dgL a2 cur).2=true→Ev (fun k=>stmt_Parse.f k (textX acc cur no op cl ls (dgL a2 cur).1) a2) (acc,cur,no,op,cl,ls,0,0):=fun acc cur no op cl ls r ck d=>by
    have hz:=textX_size (dgL a2 cur).1 ck;have:=stmt_Parse_ev (textX acc cur no op cl ls (dgL a2 cur).1).data.toList a2 h60 hC (by rw [← size_eq'];omega);rw [oL_data,parse_textX r ck d] at this;exact this
  have second:Ev (fun k=>lw47_StmtBack.j1 k a1 a2) true:=by
    refine Ev.step (fun k=>by rw [lw47_StmtBack.j1]) ?_;have hp:=stmt_Parse_ev a1.data.toList a2 h60 hC hs;rw [oL_data] at hp;refine Ev.bind hp (Ev.both (fun e=>?_) (fun e=>Ev.live));obtain ⟨v1,v2,v3⟩:=parse_valid e;have hl:=parseS_len (cs:=a2) (t:=a1.data.toList) hs;have hz:=parseS_short (cs:=a2) (t:=a1.data.toList);generalize parseS a1.data.toList a2=q at v2 v3 hl hz ⊢;obtain ⟨acc,cur,no,op,cl,ls,z1,z2⟩:=q;have ht:=stmt_Text_ev acc cur no op cl ls a2 (Nat.le_trans hz.1 (by decide)) (Nat.le_trans hz.2.1 (by decide)) hz.2.2 hl h60 hC
    have et:stmtTextS acc cur no op cl ls a2=(textX acc cur no op cl ls (dgL a2 cur).1,0):=by
      unfold stmtTextS;rw [if_pos v1,if_pos v2,if_pos v3]
    rw [et] at ht;refine Ev.bind ht (Ev.bind (rd acc cur no op cl ls v1 v2 v3) (Ev.yes rfl (Ev.yes rfl (Ev.bind (same_ev (acc,cur,no,op,cl,ls) hl) (Ev.yes rfl ?_)))));have hc:=stmt_Check_ev acc cur no op cl ls (Nat.le_trans hz.1 (by decide)) (Nat.le_trans hz.2.1 (by decide)) hz.2.2;exact Ev.bind hc (Ev.yes v2 Ev.live)
  refine Ev.step (fun k=>by rw [lw47_StmtBack.j0]) (Ev.no (by decide) ?_);refine Ev.bind (stmt_Text_ev ac0 cu0 no0 ow0 cw0 ls0 a2 s1 s2 s3 (by omega) h60 hC) (Ev.both (fun e=>?_) (fun e=>second))
  have et:rtL a2=true∧checkS ac0 cu0 no0 ow0 cw0 ls0=0∧(dgL a2 cu0).2=true∧(stmtTextS ac0 cu0 no0 ow0 cw0 ls0 a2).1=textX ac0 cu0 no0 ow0 cw0 ls0 (dgL a2 cu0).1:=by
    unfold stmtTextS at e ⊢;by_cases r:rtL a2=true
    · rw [if_pos r] at e ⊢
      by_cases ck:checkS ac0 cu0 no0 ow0 cw0 ls0=0
      · rw [if_pos ck] at e ⊢
        by_cases d:(dgL a2 cu0).2=true
        · rw [if_pos d];exact ⟨r,ck,d,rfl⟩
        · rw [if_neg d] at e;exact absurd e (by decide)
      · rw [if_neg ck] at e;exact absurd e ck
    · rw [if_neg r] at e;exact absurd e (by decide)
  obtain ⟨v1,v2,v3,v4⟩:=et;rw [v4];exact Ev.bind (rd ac0 cu0 no0 ow0 cw0 ls0 v1 v2 v3) (Ev.yes rfl (Ev.yes rfl (Ev.bind (same_ev (ac0,cu0,no0,ow0,cw0,ls0) (by show ls0.length≤1000000;omega)) (Ev.yes rfl second))))
end Go.Proofs.YtmlcdpfcafmmcaaDoor.Pure
namespace Go.Proofs.YtmlcdpfcafmmcaaDoor.stmtBack
open Go.ChangeShapes Go.WideShapes Go.ChangeAt Go.RowKit
open Go.ChangeMaps (open_string shut_string)
set_option linter.unusedVariables false
theorem own:ownKnob Tryd.prog.godebug=none:=by kernel_rfl
theorem laidOut:laidOutB Tryd.prog=true:=by kernel_rfl
abbrev laidL : List (String × DataW Unit) := [("accounting/days.lengths", Rows.laid_accounting_days_lengths), ("accounting/money.powers", Rows.laid_accounting_money_powers)]
theorem door_met (os:Os) (args:Array Value):laidMetH Tryd.prog laidL ((World.doorLaid Tryd.prog 400 os).forCall (fun _ _=>0) ⟨#[],args,[]⟩).memory :=
  laidMetH_of_parts3 (fuel:=8) (laidMet_of_run' 8 (by kernel_rfl) (by kernel_rfl)) (by kernel_rfl) (by kernel_rfl)
theorem gl_of_laid {W:World} (h:laidMetH Tryd.prog laidL W):B.Gl W:=B.gl_of_laid (by rw [MakeChecks.laidMetH_plain _ _ _ (by kernel_rfl)] at h;exact h)
set_option maxRecDepth 100000 in
theorem lifted (os:Os) (started:os.Started) (H:Type) (enc:TypeId×Value→H) :
    ReturnsInHanded {} Tryd.checked os 7 .any (fun w args=>(Rows.stmtBackSpec.pre enc Tryd.prog Tryd.f7 [] false w args∧laidMetH Tryd.prog laidL w)∧sizedMet enc Tryd.prog Tryd.f7 (OpenSpec.ofChange Rows.stmtBackSpec) false w args) (Rows.stmtBackSpec.post enc Tryd.prog Tryd.f7 false true false false):=by
  refine returnsInHanded_of_change_and (C:=Tryd.checked) (X:=fun w _=>laidMetH Tryd.prog laidL w) (fun _ _ _ hh h=>h.of_heap hh) own started (by kernel_rfl) Tryd.func7
    (ChangeSpec.witness_shaped (enc:=enc) (C:=Tryd.checked) (os:=os) (X:=fun w _=>laidMetH Tryd.prog laidL w) false (World.doorLaid Tryd.prog 400 os) #[.agg #[.string ⟨#[]⟩,.string ⟨#[]⟩,.int .i64 0,.int .i64 0,.int .i64 0,.slice none 0 0],.string ⟨#[]⟩,.slice none 0 0] 8 rfl (World.shaped_of_RefB (by kernel_rfl) (by kernel_rfl)) (by kernel_rfl) (by kernel_rfl) (by kernel_rfl) (door_met os _)) ?_
  intro W base args ds gs before hval0 hW hcnd hsz0 hL _;have hG:=gl_of_laid hL;have hsz:(DataW.weightsEach Tryd.prog (Tryd.f7.params.toList++Rows.stmtBackSpec.plain.varTypes Tryd.prog) (ds++gs)).all (·≤reachBytes)=true:=hsz0;have hval:∀ (j:Nat) t v,Tryd.f7.params[j]?=some t→args[j]?=some v→Value.okWide Tryd.prog W .any base t v:=hval0;have hW':=hW;obtain ⟨p,q,hA0,hV,rfl,hfz,hnd⟩:=hW;have hA:DataW.TrodAll enc Tryd.prog W 0 (fun _=>true) true Tryd.f7.params.toList args.toList ds p:=hA0;rw [Tryd.params7] at hA hval hsz;obtain ⟨v0,vs0,d0,ds0,p0,q0,hargs,rfl,rfl,h0,r0⟩:=trodAll_cons hA;obtain ⟨v1,vs1,d1,ds1,p1,q1,rfl,rfl,rfl,h1,r1⟩:=trodAll_cons r0;obtain ⟨v2,vs2,d2,ds2,p2,q2,rfl,rfl,rfl,h2,r2⟩:=trodAll_cons r1;obtain ⟨rfl,rfl,rfl⟩:=trodAll_nil r2;obtain rfl:args=#[v0,v1,v2]:=by cases args;simp_all
  obtain ⟨rfl,rfl⟩:=trodVars_none hV;have k0:=h0;have lt0:∀ x∈p0,x.block < W.heap.size:=by obtain ⟨m,hm⟩:=k0;exact DataW.trod_lt m _ _ _ hm
  obtain ⟨ac0,cu0,no0,ow0,cw0,A0,c0,a0,rfl,hlc0,hC0,hN0,hS0⟩:=A.open_stmt (hval 0 24 v0 rfl rfl) h0 (B.arg_weights hsz (j:=0) (t:=24) rfl rfl);obtain ⟨a1,rfl,rfl,rfl,w1⟩:=open_string Tryd.underlying9 (hval 1 9 v1 rfl rfl) h1
  have y1:a1.size≤140737488351232:=by
    have z:=sized_string hsz (j:=1) (t:=9) rfl rfl;rw [Array.length_toList] at z;exact z
  have k2:=h2;have lt2:∀ x∈p2,x.block < W.heap.size:=by obtain ⟨m,hm⟩:=k2;exact DataW.trod_lt m _ _ _ hm
  obtain ⟨A2,c2,a2,rfl,hlc2,hC2,hS2⟩:=A.open_curs (hval 2 31 v2 rfl rfl) h2 (B.arg_weights hsz (j:=2) (t:=31) rfl rfl);clear hA0 hval0 hsz0 hsz;obtain ⟨k,hk⟩:=Pure.StmtBack ac0 cu0 no0 ow0 cw0 a0 a1 a2 hN0 hS0 y1 hS2;refine (A.lw47_StmtBack.calls k ac0 cu0 no0 ow0 cw0 A0 c0 a0 a1 A2 c2 a2 true W hC0 hlc0 hC2 hlc2 hk hG).mono fun e W' ⟨he,bel0⟩=>?_
  have bel:Below W.heap.size W W':=bel0;subst he;exact ⟨_,rfl,_,_,_,[],_,[],hW',trodAll_mk1 (shut_bool Tryd.underlying4 _),(trodAll_cons_mk (Below.trod laidOut (by kernel_rfl) (of_decide_eq_true (by kernel_rfl)) k0 bel lt0) (trodAll_cons_mk (shut_string Tryd.underlying9 w1) (trodAll_cons_mk (Below.trod laidOut (by kernel_rfl) (of_decide_eq_true (by kernel_rfl)) k2 bel lt2) trodAll_mk0))),rfl,bel.frame _,fun h=>by cases h⟩
theorem over:Rows.stmtBackRow.holds Tryd.pinned (OpenSpec.ofChange Rows.stmtBackSpec) :=
  OpenClaim.holds_of_wide 7 Tryd.f7 rfl rfl rfl rfl rfl rfl rfl ⟨rfl,rfl,rfl,rfl,rfl⟩ rfl rfl rfl rfl rfl (by kernel_rfl) Tryd.func7 (by kernel_rfl)
    (of_decide_eq_true (by kernel_rfl)) (by unfold Func.isWrapper;first | (rw [if_pos (by decide +kernel)];kernel_rfl) | (rw [if_neg (by decide +kernel)];exact ⟨rfl,rfl⟩))
    (fun os started H enc _=>lifted os started H enc)
theorem proved:Rows.StmtBackSaid:=over
end Go.Proofs.YtmlcdpfcafmmcaaDoor.stmtBack
namespace Go.Proofs.YtmlcdpfcafmmcaaDoor
theorem stmtBack_holds:Rows.StmtBackCardSaid :=
  Claim7.holds_tied_plain_at .later [] [.data, .data] true (true, "e2ca4102f9483c5686cf01e559ba30cc68b277cf3843f274404e99127137410b") false
    stmtBack.proved (fun _ h=>by cases h) (by kernel_rfl) (fun _ h=>by cases h) stmtBack_row_tie rfl ⟨rfl,rfl⟩ (by kernel_rfl) rfl
    (fun f fn hf hfn=>by
      obtain rfl : f = 7 := Option.some.inj ((show Tryd.prog.funcNamed "accounting/accountinglaw47.StmtBack" = some 7 by kernel_rfl).symm.trans hf) |>.symm
      obtain rfl:fn=Tryd.f7:=(Option.some.inj (Tryd.func7.symm.trans hfn)).symm
      exact ⟨by kernel_rfl,fun j t ht=>by
        rw [Tryd.params7] at ht;have hm:t∈[24,9,31]:=by simpa using Array.mem_of_getElem? ht
        have hall:([24,9,31].all fun u=>!Tryd.prog.wantsStandIn u)=true:=by kernel_rfl
        exact (show Tryd.prog.wantsStandIn t=false by simpa using List.all_eq_true.1 hall t hm)⟩)
    (by kernel_rfl)
end Go.Proofs.YtmlcdpfcafmmcaaDoor
