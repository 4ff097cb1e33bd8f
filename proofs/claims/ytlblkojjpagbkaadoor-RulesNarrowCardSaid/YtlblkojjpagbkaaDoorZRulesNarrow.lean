/- Proved: the Go function accountinglaw48.RulesNarrow returns true at every input and leaves its arguments as_ they were; the package variables are tied to the program's text. This text: the plain law over the functions that the walks have shown. By an AI agent. -/
import Derived.Test.YtlblkojjpagbkaaDoorRows
import Derived.ProofKit
import Derived.ShutString
import Derived.ChangeOld
import Derived.LaidMore
import Derived.Stop.Joined
import Derived.SevenTiedAt
import Derived.Test.YtlblkojjpagbkaaDoorCards
import Derived.Test.YtlblkojjpagbkaaDoorTie
import Derived.Test.YtlblkojjpagbkaaDoorZ21
import Derived.Test.YtlblkojjpagbkaaDoorZ22
namespace Go.Proofs.YtlblkojjpagbkaaDoor
namespace Pure
open Go.RowKit A B WW WL WM
set_option linter.unusedVariables false
theorem holdsN_ev {nm:ByteArray} {cs:List S27} {acc par:ByteArray} {tg:List S35} (hn:nm.size+acc.size+par.size≤400) (sc:ShortC cs) (st:ShortT tg) (d a:Int) (rf tx:ByteArray) (h1:rf.size≤400) (h2:tx.size≤400) :
    Ev (fun k=>rules_Holds.f k nm cs acc par tg d a rf tx) (holdsS nm cs acc par tg d a rf tx):=by
  unfold rules_Holds.f holdsS;refine Ev.bind (rules_Check_ev nm cs acc par tg (by omega) (by omega) (by omega) sc st) (Ev.both (fun e=>Ev.yes ⟨by omega,by omega⟩ (Ev.is (by rw [decide_eq_true e,Bool.true_and]))) (fun e=>Ev.is (by rw [decide_eq_false e,Bool.false_and])))
theorem checkC_app (cs:List S27) (r:List S27) (h:checkC (cs++r)=0):checkC cs=0:=by
  induction cs with
 |nil=>rfl
 |cons x q ih =>
    rw [List.cons_append,checkC] at h;rw [checkC];split at h
    · rw [if_pos (by assumption)];exact ih h
    · contradiction
theorem holds_narrow {nm:ByteArray} {cs:List S27} {c:S27} {acc par:ByteArray} {tg:List S35} {d a:Int} {rf tx:ByteArray} (h0:cs.length≠0) (h:holdsS nm (cs++[c]) acc par tg d a rf tx=true):holdsS nm cs acc par tg d a rf tx=true:=by
  unfold holdsS at h ⊢;rw [Bool.and_eq_true,decide_eq_true_iff] at h;obtain ⟨hc,ha⟩:=h;obtain ⟨q1,q2,q3,q4,_⟩:=checkS_conds hc;rw [List.length_append,List.length_singleton] at q4
  have h3:checkC (cs++[c])=0:=by
    unfold checkS at hc;rw [if_pos q1,if_pos q2,if_neg (by rw [List.length_append,List.length_singleton];omega),if_neg (by rw [List.length_append,List.length_singleton];omega)] at hc;exact hc
  rw [List.all_append,Bool.and_eq_true] at ha;rw [Bool.and_eq_true,decide_eq_true_iff];refine ⟨?_,ha.1⟩;unfold checkS;rw [if_pos q1,if_pos q2,if_neg h0,if_neg (by omega)];exact checkC_app cs [c] h3
theorem RulesNarrow:∀ (nm0:ByteArray) (cs0:List S27) (acc0 par0:ByteArray) (tg0:List S35) (cf1 co1:Int) (cz1:ByteArray) (cn1:Int) (d1 m1:Int) (rf1 tx1:ByteArray),FitR nm0 cs0 acc0 par0 tg0→(∀ x∈cs0,I64 x.f0∧I64 x.f1∧I64 x.f3)→(I64 cf1∧I64 co1∧I64 cn1)→cz1.size≤140737488351232→(I64 d1∧I64 m1)→rf1.size≤140737488351232→tx1.size≤140737488351232→∃ k,lw48_RulesNarrow.f k nm0 cs0 acc0 par0 tg0 cf1 co1 cz1 cn1 d1 m1 rf1 tx1=some true:=by
  intro nm cs acc par tg cf co cz cn d a rf tx hF hI _ _ _ _ _;refine Ev.ex (f:=fun k=>lw48_RulesNarrow.f k nm cs acc par tg cf co cz cn d a rf tx) ?_
  have jt:Ev (fun k=>lw48_RulesNarrow.j0 k true nm cs acc par tg cf co cz cn d a rf tx) true:=by
    refine Ev.step (fun k=>by rw [lw48_RulesNarrow.j0]) ?_;exact Ev.yes rfl (Ev.is rfl)
  unfold lw48_RulesNarrow.f;refine Ev.bind (large_ev _ _ _ _ _ hF) (Ev.both (fun h=>jt) (fun h=>Ev.both (fun h1=>jt) (fun h1=>Ev.both (fun h2=>jt) (fun h2=>Ev.both (fun h3=>jt) (fun h3=>?_)))));have hs:=largeS_small h;by_cases h0:cs.length=0
  · rw [h0];exact jt
  rw [show ((cs.length:Int) == 0)=false by rw [beq_eq_false_iff_ne];omega];refine Ev.step (fun k=>by rw [lw48_RulesNarrow.j0]) ?_;have hl:=hs.lc;have hln:=hs.ln
  have sc2:ShortC (cs++[(⟨cf,co,cz,cn⟩:S27)]):=fun x hx=>by
    rcases List.mem_append.mp hx with hx|hx
    · exact hs.sc x hx
    · rw [List.mem_singleton.mp hx];show cz.size≤1000000;omega
  have hliv:Ev (fun _:Nat=>(lw48_lives.f).bind fun t=>some t) true:=Ev.livR;refine Ev.no (by decide) ?_;simp only [Option.bind_some,List.nil_append]
  refine Ev.yes (by rw [List.length_nil];omega) (Ev.yes (by rw [List.length_singleton];omega) ?_);refine Ev.bind (holdsN_ev (by omega) sc2 hs.st d a rf tx (by omega) (by omega)) (Ev.both (fun hm=>?_) (fun hm=>hliv));refine Ev.bind (holdsN_ev (by omega) hs.sc hs.st d a rf tx (by omega) (by omega)) ?_;rw [holds_narrow h0 hm];exact Ev.yes rfl hliv
end Pure
namespace rulesNarrow
open Go.ChangeShapes Go.WideShapes Go.ChangeAt Go.RowKit
open Go.ChangeMaps (open_string shut_string)
set_option linter.unusedVariables false
theorem own:ownKnob Tryd.prog.godebug=none:=by kernel_rfl
theorem laidOut:laidOutB Tryd.prog=true:=by kernel_rfl
abbrev laidL : List (String × DataW Unit) := [("accounting/days.lengths", Rows.laid_accounting_days_lengths), ("unicode.White_Space", Rows.laid_unicode_White_Space), ("strings.asciiSpace", Rows.laid_strings_asciiSpace)]
set_option maxRecDepth 100000 in
theorem door_met (os:Os) (args:Array Value):laidMetH Tryd.prog laidL ((World.doorLaid Tryd.prog 400 os).forCall (fun _ _=>0) ⟨#[],args,[]⟩).memory :=
  laidMetH_of_parts3 (fuel:=8) (laidMet_of_run' 8 (by kernel_rfl) (by kernel_rfl)) (by kernel_rfl) (by kernel_rfl)
set_option maxRecDepth 100000 in
theorem gl_of_laid {W:World} (h:laidMetH Tryd.prog laidL W) (hm:∃ m,W.cell? ⟨1,0,none⟩=some (.int .i64 m)):B.Gl W:=B.gl_of_laid (by rw [MakeChecks.laidMetH_plain _ _ _ (by kernel_rfl)] at h;exact h) hm
set_option maxRecDepth 100000 in
theorem lifted (os:Os) (started:os.Started) (H:Type) (enc:TypeId×Value→H) :
    ReturnsInHanded {} Tryd.checked os 3 .any (fun w args=>(Rows.rulesNarrowSpec.pre enc Tryd.prog Tryd.f3 [] false w args∧laidMetH Tryd.prog laidL w)∧sizedMet enc Tryd.prog Tryd.f3 (OpenSpec.ofChange Rows.rulesNarrowSpec) false w args) (Rows.rulesNarrowSpec.post enc Tryd.prog Tryd.f3 false true false false):=by
  refine B.handed_open (C:=Tryd.checked) (X:=fun w _=>laidMetH Tryd.prog laidL w) (fun _ _ _ hh h=>h.of_heap hh) own started (by kernel_rfl) Tryd.func3
    (ChangeSpec.witness_shaped (enc:=enc) (C:=Tryd.checked) (os:=os) (X:=fun w _=>laidMetH Tryd.prog laidL w) false (World.doorLaid Tryd.prog 400 os) #[.agg #[.string ⟨#[]⟩,.slice none 0 0,.string ⟨#[]⟩,.string ⟨#[]⟩,.slice none 0 0],.agg #[.int .i64 0,.int .i64 0,.string ⟨#[]⟩,.int .i64 0],.agg #[.int .i64 0,.int .i64 0,.string ⟨#[]⟩,.string ⟨#[]⟩]] 8 rfl (World.shaped_of_RefB (by kernel_rfl) (by kernel_rfl)) (by kernel_rfl) (by kernel_rfl) (by kernel_rfl) (door_met os _)) ?_
  intro W base args ds gs before hO hL hval0 hW hsz0;have hG:=gl_of_laid hL (B.maxLen_some hO);have hsz:(DataW.weightsEach Tryd.prog (Tryd.f3.params.toList++Rows.rulesNarrowSpec.plain.varTypes Tryd.prog) (ds++gs)).all (·≤reachBytes)=true:=hsz0;have hval:∀ (j:Nat) t v,Tryd.f3.params[j]?=some t→args[j]?=some v→Value.okWide Tryd.prog W .any base t v:=hval0;have hW':=hW;obtain ⟨p,q,hA0,hV,rfl,hfz,hnd⟩:=hW;have hA:DataW.TrodAll enc Tryd.prog W 0 (fun _=>true) true Tryd.f3.params.toList args.toList ds p:=hA0;rw [Tryd.params3] at hA hval hsz;obtain ⟨v0,vs0,d0,ds0,p0,q0,hargs,rfl,rfl,h0,r0⟩:=trodAll_cons hA;obtain ⟨v1,vs1,d1,ds1,p1,q1,rfl,rfl,rfl,h1,r1⟩:=trodAll_cons r0;obtain ⟨v2,vs2,d2,ds2,p2,q2,rfl,rfl,rfl,h2,r2⟩:=trodAll_cons r1;obtain ⟨rfl,rfl,rfl⟩:=trodAll_nil r2;obtain rfl:args=#[v0,v1,v2]:=by cases args;simp_all
  obtain ⟨rfl,rfl⟩:=trodVars_none hV;have k0:=h0;have lt0:∀ x∈p0,x.block < W.heap.size:=by obtain ⟨m,hm⟩:=k0;exact DataW.trod_lt m _ _ _ hm
  obtain ⟨nm0,acc0,par0,A0,c0,cs0,B0,d0,tg0,rfl,⟨hl0,hC0,hm0,hD0⟩,hF0,hI0⟩:=A.open_rule (hval 0 25 v0 rfl rfl) h0 (B.arg_weights hsz (j:=0) (t:=25) rfl rfl);have k1:=h1;have lt1:∀ x∈p1,x.block < W.heap.size:=by obtain ⟨m,hm⟩:=k1;exact DataW.trod_lt m _ _ _ hm
  obtain ⟨cf1,co1,cz1,cn1,rfl,hw1,hr1⟩:=A.open_cond (hval 1 27 v1 rfl rfl) h1 (B.arg_weights hsz (j:=1) (t:=27) rfl rfl);have k2:=h2;have lt2:∀ x∈p2,x.block < W.heap.size:=by obtain ⟨m,hm⟩:=k2;exact DataW.trod_lt m _ _ _ hm
  obtain ⟨dy2,am2,rf2,tx2,rfl,hw2,hr2,ht2⟩:=A.open_line (hval 2 29 v2 rfl rfl) h2 (B.arg_weights hsz (j:=2) (t:=29) rfl rfl);clear hA0 hval0 hsz0 hsz;obtain ⟨k,hk⟩:=Pure.RulesNarrow nm0 cs0 acc0 par0 tg0 cf1 co1 cz1 cn1 dy2 am2 rf2 tx2 hF0 hI0 hw1 hr1 hw2 hr2 ht2;refine (A.lw48_RulesNarrow.calls k nm0 A0 c0 cs0 acc0 par0 B0 d0 tg0 cf1 co1 cz1 cn1 dy2 am2 rf2 tx2 true W hC0 hl0 hD0 hm0 hk hG).mono fun e W' ⟨he,bel0⟩=>?_
  have bel:Below W.heap.size W W':=bel0;subst he;exact ⟨_,rfl,_,_,_,[],_,[],hW',trodAll_mk1 (shut_bool Tryd.underlying4 _),(trodAll_cons_mk (Below.trod laidOut (by kernel_rfl) (of_decide_eq_true (by kernel_rfl)) k0 bel lt0) (trodAll_cons_mk (Below.trod laidOut (by kernel_rfl) (of_decide_eq_true (by kernel_rfl)) k1 bel lt1) (trodAll_cons_mk (Below.trod laidOut (by kernel_rfl) (of_decide_eq_true (by kernel_rfl)) k2 bel lt2) trodAll_mk0))),rfl,bel.frame _,fun h=>by cases h⟩
theorem over:Rows.rulesNarrowRow.holds Tryd.pinned (OpenSpec.ofChange Rows.rulesNarrowSpec) :=
  OpenClaim.holds_of_wide 3 Tryd.f3 rfl rfl rfl rfl rfl rfl rfl ⟨rfl,rfl,rfl,rfl,rfl⟩ rfl rfl rfl rfl rfl (by kernel_rfl) Tryd.func3 (by kernel_rfl)
    (of_decide_eq_true (by kernel_rfl)) (by unfold Func.isWrapper;first|(rw [if_pos (by decide +kernel)];kernel_rfl)|(rw [if_neg (by decide +kernel)];exact ⟨rfl,rfl⟩))
    (fun os started H enc _=>lifted os started H enc)
theorem proved:Rows.RulesNarrowSaid:=over
end rulesNarrow
end Go.Proofs.YtlblkojjpagbkaaDoor
namespace Go.Proofs.YtlblkojjpagbkaaDoor
theorem rulesNarrow_holds:Rows.RulesNarrowCardSaid :=
  Claim7.holds_tied_plain_at .later [] [.data, .listed, .data] true (true, "8553fd83f3fd24aa77411a629af69680389155f1edd48a7c75756f98f3edd803") false
    rulesNarrow.proved (fun _ h=>by cases h) (by kernel_rfl) (fun _ h=>by cases h) rulesNarrow_row_tie rfl ⟨rfl,rfl⟩ (by kernel_rfl) rfl
    (fun f fn hf hfn=>by
      obtain rfl : f = 3 := Option.some.inj ((show Tryd.prog.funcNamed "accounting/accountinglaw48.RulesNarrow" = some 3 by kernel_rfl).symm.trans hf) |>.symm
      obtain rfl:fn=Tryd.f3:=(Option.some.inj (Tryd.func3.symm.trans hfn)).symm
      exact ⟨by kernel_rfl,fun j t ht=>by
        rw [Tryd.params3] at ht;have hm:t∈[25,27,29]:=by simpa using Array.mem_of_getElem? ht
        have hall:([25,27,29].all fun u=>!Tryd.prog.wantsStandIn u)=true:=by kernel_rfl
        exact (show Tryd.prog.wantsStandIn t=false by simpa using List.all_eq_true.1 hall t hm)⟩)
    (by kernel_rfl)
end Go.Proofs.YtlblkojjpagbkaaDoor
