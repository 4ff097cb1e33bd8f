/- Proved: the Go function accountinglaw48.RulesFirst returns true at every input and leaves its arguments as_ they were; the package variables are tied to the program's text. This text: the plain law over the functions that the walks have shown. By an AI agent. -/
import Derived.Test.YtkbgkekegjfkfaaGreatDoorRows
import Derived.ProofKit
import Derived.ShutString
import Derived.ChangeOld
import Derived.LaidMore
import Derived.Stop.Joined
import Derived.SevenTiedAt
import Derived.Test.YtkbgkekegjfkfaaGreatDoorCards
import Derived.Test.YtkbgkekegjfkfaaGreatDoorTie
import Derived.Test.YtkbgkekegjfkfaaGreatDoorX26
namespace Go.Proofs.YtkbgkekegjfkfaaGreatDoor.Pure
open Go.RowKit A B WW WL WM
set_option linter.unusedVariables false
def FitL (l:List S25):Prop:=∀ x∈l,FitR x.f0 x.f1 x.f2 x.f3 x.f4
def SmallL (l:List S25):Prop:=∀ x∈l,SmallR x.f0 x.f1 x.f2 x.f3 x.f4
def holdsR (d a:Int) (rf tx:ByteArray) (x:S25):Bool:=holdsS x.f0 x.f1 x.f2 x.f3 x.f4 d a rf tx
def firstL (p:S25→Bool):List S25→Nat→Int
  | [],_=>-1
  | x :: r,i=>if p x=true then (i:Int) else firstL p r (i+1)
theorem rd25_at {l:List S25} {i:Nat} {x:S25} {r:List S25} (h:l.drop i=x :: r):i < l.length∧rd_T25 l (i:Int)=x∧l.drop (i+1)=r:=by
  have hlt:i < l.length:=by
    rcases Nat.lt_or_ge i l.length with h1 | h1
    · exact h1
    · rw [List.drop_eq_nil_of_le h1] at h;cases h
  rw [List.drop_eq_getElem_cons hlt] at h;obtain ⟨h1,h2⟩:=List.cons.inj h;refine ⟨hlt,?_,h2⟩;unfold rd_T25;rw [Int.toNat_natCast,List.getD_eq_getElem?_getD,List.getElem?_eq_getElem hlt,← h1];rfl
theorem firstL_spec (p:S25→Bool) (R:List S25):∀ i:Nat,(firstL p R i=-1∧∀ x∈R,p x=false)∨∃ j:Nat,firstL p R i=((i+j:Nat):Int)∧j < R.length∧(∀ m x,R[m]?=some x→m < j→p x=false)∧∀ x,R[j]?=some x→p x=true:=by
  induction R with
  | nil=>intro i;exact Or.inl ⟨rfl,fun x hx=>by cases hx⟩
  | cons y r ih =>
    intro i;rw [firstL];by_cases h:p y=true
    · rw [if_pos h]
      refine Or.inr ⟨0,by rw [Nat.add_zero],by rw [List.length_cons];omega,fun m x _ hm=>absurd hm (Nat.not_lt_zero m),fun x hx=>?_⟩;obtain rfl:=Option.some.inj hx;exact h
    · rw [if_neg h]
      have hf:p y=false:=Bool.eq_false_iff.mpr h;rcases ih (i+1) with ⟨h1,h2⟩ | ⟨j,h1,h2,h3,h4⟩
      · refine Or.inl ⟨h1,fun x hx=>?_⟩
        rcases List.mem_cons.mp hx with rfl | hx
        · exact hf
        · exact h2 x hx
      · refine Or.inr ⟨j+1,by rw [h1];congr 1;omega,by rw [List.length_cons];omega,fun m x hx hm=>?_,fun x hx=>h4 x hx⟩
        cases m with
        | zero=>obtain rfl:=Option.some.inj hx;exact hf
        | succ m=>exact h3 m x hx (by omega)
theorem rules_First_l0 (l:List S25) (hs:SmallL l) (hl:l.length≤1000) (d a:Int) (rf tx:ByteArray) (h1:rf.size≤400) (h2:tx.size≤400) (R:List S25):∀ i:Nat,l.drop i=R→Ev (fun k=>rules_First.l0 k l (l.length:Int) (i:Int) d a rf tx) (firstL (holdsR d a rf tx) R i):=by
  induction R with
  | nil =>
    intro i h;have:=List.drop_eq_nil_iff.mp h;refine Ev.step (fun k=>by rw [rules_First.l0]) ?_;exact Ev.no (by omega) (Ev.is rfl)
  | cons x r ih =>
    intro i h;obtain ⟨hi,hx,hr⟩:=rd25_at h;have hm:=hs x (List.mem_of_mem_drop (i:=i) (by rw [h];exact List.mem_cons_self));refine Ev.step (fun k=>by rw [rules_First.l0]) (Ev.yes (by omega) (Ev.yes (by omega) (Ev.yes (by omega) ?_)));rw [hx,w_next i (by omega),firstL];exact Ev.bind (rules_Holds_ev hm d a rf tx h1 h2) (Ev.both (fun e=>Ev.is (if_pos (show holdsR d a rf tx x=true from e)).symm) (fun e=>by rw [if_neg (show ¬ holdsR d a rf tx x=true from e)];exact ih (i+1) hr))
theorem r48_First_l0 (l:List S25) (hs:SmallL l) (hl:l.length≤1000) (d a:Int) (rf tx:ByteArray) (h1:rf.size≤400) (h2:tx.size≤400) (R:List S25):∀ i:Nat,l.drop i=R→Ev (fun k=>rf48_First.l0 k l (i:Int) d a rf tx) (firstL (holdsR d a rf tx) R i):=by
  induction R with
  | nil =>
    intro i h;have:=List.drop_eq_nil_iff.mp h;refine Ev.step (fun k=>by rw [rf48_First.l0]) ?_;exact Ev.no (by omega) (Ev.is rfl)
  | cons x r ih =>
    intro i h;obtain ⟨hi,hx,hr⟩:=rd25_at h;have hm:=hs x (List.mem_of_mem_drop (i:=i) (by rw [h];exact List.mem_cons_self));refine Ev.step (fun k=>by rw [rf48_First.l0]) (Ev.yes (by omega) (Ev.yes (by omega) ?_));rw [hx,w_next i (by omega),firstL];exact Ev.bind (r48_Holds_ev hm d a rf tx h1 h2) (Ev.both (fun e=>Ev.is (if_pos (show holdsR d a rf tx x=true from e)).symm) (fun e=>by rw [if_neg (show ¬ holdsR d a rf tx x=true from e)];exact ih (i+1) hr))
theorem first_l1 (l:List S25) (hs:SmallL l) (hl:l.length≤1000) (n:Int) (d a:Int) (rf tx:ByteArray) (h1:rf.size≤400) (h2:tx.size≤400)
    (hn:∀ (i:Nat) x,l[i]?=some x→holdsR d a rf tx x=((i:Int) == n)∨¬ (i:Int)≤n∧¬ n < 0) (R:List S25):∀ i:Nat,l.drop i=R→Ev (fun k=>lw48_RulesFirst.l1 k l n (i:Int) d a rf tx) true:=by
  induction R with
  | nil =>
    intro i h;have:=List.drop_eq_nil_iff.mp h;refine Ev.step (fun k=>by rw [lw48_RulesFirst.l1]) ?_;exact Ev.no (by omega) Ev.livR
  | cons x r ih =>
    intro i h;obtain ⟨hi,hx,hr⟩:=rd25_at h;have hm:=hs x (List.mem_of_mem_drop (i:=i) (by rw [h];exact List.mem_cons_self))
    have hg:l[i]?=some x:=by
      have:(l.drop i)[0]?=some x:=by rw [h];rfl
      rw [List.getElem?_drop] at this;exact this
    refine Ev.step (fun k=>by rw [lw48_RulesFirst.l1]) (Ev.yes (by omega) (Ev.yes (by omega) ?_));rw [hx,w_next i (by omega)];refine Ev.bind (rules_Holds_ev hm d a rf tx h1 h2) (Ev.both (fun e=>?_) (fun e=>ih (i+1) hr));rcases hn i x hg with q | ⟨q1,q2⟩
    · rw [bne_iff_ne] at e
      exact absurd q e
    · exact Ev.no q1 (Ev.no q2 (ih (i+1) hr))
theorem first_l0 (l:List S25) (hf:FitL l) (hl:l.length≤20) (d a:Int) (rf tx:ByteArray) (h1:rf.size≤400) (h2:tx.size≤400) (R:List S25):∀ i:Nat,l.drop i=R→(∀ x∈l.take i,SmallR x.f0 x.f1 x.f2 x.f3 x.f4)→Ev (fun k=>lw48_RulesFirst.l0 k l (i:Int) d a rf tx) true:=by
  induction R with
  | nil =>
    intro i h hsm;have hle:=List.drop_eq_nil_iff.mp h;rw [List.take_of_length_le hle] at hsm;refine Ev.step (fun k=>by rw [lw48_RulesFirst.l0]) (Ev.no (by omega) ?_)
    have e1:Ev (fun k=>rules_First.f k l d a rf tx) (firstL (holdsR d a rf tx) l 0):=by
      unfold rules_First.f;exact rules_First_l0 l hsm (by omega) d a rf tx h1 h2 l 0 rfl
    have e2:Ev (fun k=>rf48_First.f k l d a rf tx) (firstL (holdsR d a rf tx) l 0):=by
      unfold rf48_First.f;exact r48_First_l0 l hsm (by omega) d a rf tx h1 h2 l 0 rfl
    have sp:=firstL_spec (holdsR d a rf tx) l 0
    have hb:-1≤firstL (holdsR d a rf tx) l 0∧firstL (holdsR d a rf tx) l 0 < (l.length:Int):=by
      rcases sp with ⟨q,_⟩ | ⟨j,q,hj,_⟩ <;> rw [q] <;> omega
    refine Ev.bind e1 (Ev.no (by omega) (Ev.no (by omega) (Ev.bind e2 ?_)));rw [show (firstL (holdsR d a rf tx) l 0 != firstL (holdsR d a rf tx) l 0)=false by rw [bne_eq_false_iff_eq]];refine Ev.step (fun k=>by rw [lw48_RulesFirst.j2]) (Ev.no (by decide) ?_);refine first_l1 l hsm (by omega) _ d a rf tx h1 h2 (fun i x hx=>?_) l 0 rfl;rcases sp with ⟨q,hall⟩ | ⟨j,q,hj,hlo,hat⟩
    · refine Or.inl ?_
      rw [q,hall x (List.mem_of_getElem? hx)];exact (beq_eq_false_iff_ne.mpr (by omega)).symm
    · rw [q]
      rcases Nat.lt_trichotomy i j with hij | hij | hij
      · refine Or.inl ?_
        rw [hlo i x hx hij];exact (beq_eq_false_iff_ne.mpr (by omega)).symm
      · subst hij
        refine Or.inl ?_;rw [hat x hx];exact (beq_iff_eq.mpr (by omega)).symm
      · exact Or.inr ⟨by omega,by omega⟩
  | cons x r ih =>
    intro i h hsm;obtain ⟨hi,hx,hr⟩:=rd25_at h;have hm:x∈l:=List.mem_of_mem_drop (i:=i) (by rw [h];exact List.mem_cons_self);refine Ev.step (fun k=>by rw [lw48_RulesFirst.l0]) (Ev.yes (by omega) (Ev.yes (by omega) ?_));rw [hx,w_next i (by omega)];refine Ev.bind (large_ev _ _ _ _ _ (hf x hm)) (Ev.both (fun e=>Ev.is rfl) (fun e=>ih (i+1) hr (fun y hy=>?_)))
    have ht:l.take (i+1)=l.take i++[x]:=by
      have:l[i]?=some x:=by
        have:(l.drop i)[0]?=some x:=by rw [h];rfl
        rw [List.getElem?_drop] at this;exact this
      rw [List.take_add_one,this];rfl
    rw [ht,List.mem_append,List.mem_singleton] at hy;rcases hy with hy | rfl
    · exact hsm y hy
    · exact largeS_small e
theorem RulesFirst:∀ (l0:List S25) (d1 m1:Int) (rf1 tx1:ByteArray),FitL l0→(I64 d1∧I64 m1)→rf1.size≤140737488351232→tx1.size≤140737488351232→∃ k,lw48_RulesFirst.f k l0 d1 m1 rf1 tx1=some true:=by
  intro l d a rf tx hF _ _ _;refine Ev.ex (f:=fun k=>lw48_RulesFirst.f k l d a rf tx) ?_
  have jt:Ev (fun k=>lw48_RulesFirst.j0 k l true d a rf tx) true:=by
    refine Ev.step (fun k=>by rw [lw48_RulesFirst.j0]) ?_;exact Ev.yes rfl (Ev.is rfl)
  unfold lw48_RulesFirst.f;refine Ev.both (fun h=>jt) (fun h=>Ev.both (fun h1=>jt) (fun h1=>?_));by_cases h2:(tx.size:Int) > 400
  · rw [decide_eq_true h2];exact jt
  rw [decide_eq_false h2];refine Ev.step (fun k=>by rw [lw48_RulesFirst.j0]) (Ev.no (by decide) ?_);exact first_l0 l hF (by omega) d a rf tx (by omega) (by omega) l 0 rfl (fun x hx=>by rw [List.take_zero] at hx;cases hx)
end Go.Proofs.YtkbgkekegjfkfaaGreatDoor.Pure
namespace Go.Proofs.YtkbgkekegjfkfaaGreatDoor.rulesFirst
open Go.ChangeShapes Go.WideShapes Go.ChangeAt Go.RowKit
open Go.ChangeMaps (open_string shut_string)
set_option linter.unusedVariables false
theorem own:ownKnob Tryz.prog.godebug=none:=by kernel_rfl
theorem laidOut:laidOutB Tryz.prog=true:=by kernel_rfl
abbrev laidL : List (String × DataW Unit) := [("accounting/days.lengths", Rows.laid_accounting_days_lengths), ("unicode.White_Space", Rows.laid_unicode_White_Space), ("strings.asciiSpace", Rows.laid_strings_asciiSpace)]
set_option maxRecDepth 100000 in
theorem door_met (os:Os) (args:Array Value):laidMetH Tryz.prog laidL ((World.doorLaid Tryz.prog 400 os).forCall (fun _ _=>0) ⟨#[],args,[]⟩).memory :=
  laidMetH_of_parts3 (fuel:=8) (laidMet_of_run' 8 (by kernel_rfl) (by kernel_rfl)) (by kernel_rfl) (by kernel_rfl)
set_option maxRecDepth 100000 in
theorem gl_of_laid {W:World} (h:laidMetH Tryz.prog laidL W) (hm:∃ m,W.cell? ⟨2,0,none⟩=some (.int .i64 m)):B.Gl W:=B.gl_of_laid (by rw [MakeChecks.laidMetH_plain _ _ _ (by kernel_rfl)] at h;exact h) hm
set_option maxRecDepth 100000 in
theorem lifted (os:Os) (started:os.Started) (H:Type) (enc:TypeId×Value→H) :
    ReturnsInHanded {} Tryz.checked os 5 .any (fun w args=>(Rows.rulesFirstSpec.pre enc Tryz.prog Tryz.f5 [] false w args∧laidMetH Tryz.prog laidL w)∧sizedMet enc Tryz.prog Tryz.f5 (OpenSpec.ofChange Rows.rulesFirstSpec) false w args) (Rows.rulesFirstSpec.post enc Tryz.prog Tryz.f5 false true false false):=by
  refine B.handed_open (C:=Tryz.checked) (X:=fun w _=>laidMetH Tryz.prog laidL w) (fun _ _ _ hh h=>h.of_heap hh) own started (by kernel_rfl) Tryz.func5
    (ChangeSpec.witness_shaped (enc:=enc) (C:=Tryz.checked) (os:=os) (X:=fun w _=>laidMetH Tryz.prog laidL w) false (World.doorLaid Tryz.prog 400 os) #[.slice none 0 0,.agg #[.int .i64 0,.int .i64 0,.string ⟨#[]⟩,.string ⟨#[]⟩]] 8 rfl (World.shaped_of_RefB (by kernel_rfl) (by kernel_rfl)) (by kernel_rfl) (by kernel_rfl) (by kernel_rfl) (door_met os _)) ?_
  intro W base args ds gs before hO hL hval0 hW hsz0;have hG:=gl_of_laid hL (B.maxLen_some hO);have hsz:(DataW.weightsEach Tryz.prog (Tryz.f5.params.toList++Rows.rulesFirstSpec.plain.varTypes Tryz.prog) (ds++gs)).all (·≤reachBytes)=true:=hsz0;have hval:∀ (j:Nat) t v,Tryz.f5.params[j]?=some t→args[j]?=some v→Value.okWide Tryz.prog W .any base t v:=hval0;have hW':=hW;obtain ⟨p,q,hA0,hV,rfl,hfz,hnd⟩:=hW;have hA:DataW.TrodAll enc Tryz.prog W 0 (fun _=>true) true Tryz.f5.params.toList args.toList ds p:=hA0;rw [Tryz.params5] at hA hval hsz;obtain ⟨v0,vs0,d0,ds0,p0,q0,hargs,rfl,rfl,h0,r0⟩:=trodAll_cons hA;obtain ⟨v1,vs1,d1,ds1,p1,q1,rfl,rfl,rfl,h1,r1⟩:=trodAll_cons r0;obtain ⟨rfl,rfl,rfl⟩:=trodAll_nil r1;obtain rfl:args=#[v0,v1]:=by cases args;simp_all
  obtain ⟨rfl,rfl⟩:=trodVars_none hV;have k0:=h0;have lt0:∀ x∈p0,x.block < W.heap.size:=by obtain ⟨m,hm⟩:=k0;exact DataW.trod_lt m _ _ _ hm
  obtain ⟨A0,c0,a0,rfl,hl0,hC0,hF0⟩:=A.open_rules (hval 0 34 v0 rfl rfl) h0 (B.arg_weights hsz (j:=0) (t:=34) rfl rfl);have k1:=h1;have lt1:∀ x∈p1,x.block < W.heap.size:=by obtain ⟨m,hm⟩:=k1;exact DataW.trod_lt m _ _ _ hm
  obtain ⟨dy1,am1,rf1,tx1,rfl,hw1,hr1,ht1⟩:=A.open_line (hval 1 32 v1 rfl rfl) h1 (B.arg_weights hsz (j:=1) (t:=32) rfl rfl);clear hA0 hval0 hsz0 hsz;obtain ⟨k,hk⟩:=Pure.RulesFirst a0 dy1 am1 rf1 tx1 hF0 hw1 hr1 ht1;refine (A.lw48_RulesFirst.calls k A0 c0 a0 dy1 am1 rf1 tx1 true W hC0 hl0 hk hG).mono fun e W' ⟨he,bel0⟩=>?_
  have bel:Below W.heap.size W W':=bel0;subst he;exact ⟨_,rfl,_,_,_,[],_,[],hW',trodAll_mk1 (shut_bool Tryz.underlying4 _),(trodAll_cons_mk (Below.trod laidOut (by kernel_rfl) (of_decide_eq_true (by kernel_rfl)) k0 bel lt0) (trodAll_cons_mk (Below.trod laidOut (by kernel_rfl) (of_decide_eq_true (by kernel_rfl)) k1 bel lt1) trodAll_mk0)),rfl,bel.frame _,fun h=>by cases h⟩
theorem over:Rows.rulesFirstRow.holds Tryz.pinned (OpenSpec.ofChange Rows.rulesFirstSpec) :=
  OpenClaim.holds_of_wide 5 Tryz.f5 rfl rfl rfl rfl rfl rfl rfl ⟨rfl,rfl,rfl,rfl,rfl⟩ rfl rfl rfl rfl rfl (by kernel_rfl) Tryz.func5 (by kernel_rfl)
    (of_decide_eq_true (by kernel_rfl)) (by unfold Func.isWrapper;first | (rw [if_pos (by decide +kernel)];kernel_rfl) | (rw [if_neg (by decide +kernel)];exact ⟨rfl,rfl⟩))
    (fun os started H enc _=>lifted os started H enc)
theorem proved:Rows.RulesFirstSaid:=over
end Go.Proofs.YtkbgkekegjfkfaaGreatDoor.rulesFirst
namespace Go.Proofs.YtkbgkekegjfkfaaGreatDoor
theorem rulesFirst_holds:Rows.RulesFirstCardSaid :=
  Claim7.holds_tied_plain_at .later [] [.data, .listed, .data] true (true, "891669ef6671e58eb7a3e4e90bb8fffe22bf62e27f203fa964449a1d32959f4b") false
    rulesFirst.proved (fun _ h=>by cases h) (by kernel_rfl) (fun _ h=>by cases h) rulesFirst_row_tie rfl ⟨rfl,rfl⟩ (by kernel_rfl) rfl
    (fun f fn hf hfn=>by
      obtain rfl : f = 5 := Option.some.inj ((show Tryz.prog.funcNamed "accounting/accountinglaw48.RulesFirst" = some 5 by kernel_rfl).symm.trans hf) |>.symm
      obtain rfl:fn=Tryz.f5:=(Option.some.inj (Tryz.func5.symm.trans hfn)).symm
      exact ⟨by kernel_rfl,fun j t ht=>by
        rw [Tryz.params5] at ht;have hm:t∈[34,32]:=by simpa using Array.mem_of_getElem? ht
        have hall:([34,32].all fun u=>!Tryz.prog.wantsStandIn u)=true:=by kernel_rfl
        exact (show Tryz.prog.wantsStandIn t=false by simpa using List.all_eq_true.1 hall t hm)⟩)
    (by kernel_rfl)
end Go.Proofs.YtkbgkekegjfkfaaGreatDoor
