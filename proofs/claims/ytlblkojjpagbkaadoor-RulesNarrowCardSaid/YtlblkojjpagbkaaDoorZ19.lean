-- By pack.py, a program of this session's.
import Derived.Handed
import Derived.Shelf.Vars
import Derived.Test.YtlblkojjpagbkaaDoorZ6
import Derived.Test.YtlblkojjpagbkaaDoorZ7
import Derived.Test.YtlblkojjpagbkaaDoorZ8
set_option linter.unusedVariables false
set_option linter.unusedSimpArgs false
namespace Go.Proofs.YtlblkojjpagbkaaDoor
namespace A
open Go.RowKit B WW WL WM
def pre (x:S66) (q:List S66×Nat×Nat):List S66×Nat×Nat:=if q.2.2=0 then (x :: q.1,q.2.1,0) else ([],q.2.1,q.2.2)
def rangB (c:S27):Bool:=decide ((c.f0=1→-1000000000000≤c.f3∧c.f3≤1000000000000)∧(c.f0=4→0≤c.f3∧c.f3≤109572)∧(¬ (c.f0=1∨c.f0=4)→c.f3=0))
def formB (c:S27):Bool:=if c.f0=1∨c.f0=4 then c.f2.toList == [] else plainW c.f2.data.toList
def condR (c:S27):Int:=if rangB c=true then (if formB c=true then 0 else 5) else 3
def condS (c:S27):Int:=if suitB c.f0 c.f1=true then condR c else 10
theorem suits_at (f o:Int):Ev (fun k=>rules_suits.f k f o) (suitB f o):=by
  have j:∀ b:Bool,(b=true ↔ ¬ (1≤f∧f≤4))→Ev (fun k=>rules_suits.j0 k f o b) (suitB f o):=fun b hb=>by
    refine Ev.step (fun k=>by rw [rules_suits.j0]) ?_;unfold suitB;refine Ev.both (fun h=>Ev.is ?_) (fun h=>Ev.both (fun a=>Ev.is ?_) (fun a=>?_))
    · have:=hb.mp h;exact (decide_eq_false (by omega)).symm
    · have:1≤f∧f≤4:=Decidable.byContradiction fun x=>h (hb.mpr x)
      exact (decide_eq_true (by omega)).symm
    have h4:1≤f∧f≤4:=Decidable.byContradiction fun x=>h (hb.mpr x)
    rw [rules_counts_eq];simp only [Option.bind_some]
    unfold numB;refine Ev.both (fun c=>?_) (fun c=>?_)
    · rw [decide_eq_true_iff] at c
      refine Ev.both (fun d=>Ev.is ?_) (fun d=>Ev.is ?_)
      · exact (decide_eq_true (by omega)).symm
      · rw [Bool.eq_iff_iff,beq_iff_eq,decide_eq_true_iff];omega
    · rw [decide_eq_true_iff] at c
      refine Ev.both (fun d=>Ev.is ?_) (fun d=>Ev.is ?_)
      · exact (decide_eq_true (by omega)).symm
      · rw [Bool.eq_iff_iff,beq_iff_eq,decide_eq_true_iff];omega
  unfold rules_suits.f;refine Ev.both (fun a=>j _ ⟨fun _=>by omega,fun _=>rfl⟩) (fun a=>j _ ?_);rw [decide_eq_true_iff];omega
theorem rules_cond_ev (c:S27) (hz:c.f2.size≤1000000):Ev (fun k=>rules_cond.f k c.f0 c.f1 c.f2 c.f3) (condS c):=by
  unfold rules_cond.f;refine Ev.bind (suits_at _ _) (Ev.both (fun e=>?_) (fun e=>Ev.is (by unfold condS;rw [if_neg e])))
  have j:∀ a b:Bool,a=rangB c→b=formB c→Ev (fun k=>rules_cond.j0 k a b) (condS c):=fun a b ha hb=>by
    refine Ev.step (fun k=>by rw [rules_cond.j0]) ?_;unfold condS condR;rw [if_pos e,← ha,← hb];exact Ev.both (fun x=>Ev.both (fun y=>Ev.is (by rw [if_pos x,if_pos y])) (fun y=>Ev.is (by rw [if_pos x,if_neg y]))) (fun x=>Ev.is (by rw [if_neg x]))
  unfold suitB at e;rw [decide_eq_true_iff] at e;refine Ev.both (fun h1=>Ev.both (fun h2=>j _ _ ?_ ?_) (fun h2=>j _ _ ?_ ?_)) (fun h1=>Ev.both (fun h4=>Ev.both (fun h2=>j _ _ ?_ ?_) (fun h2=>j _ _ ?_ ?_)) (fun h4=>Ev.both (fun h2=>?_) (fun h2=>Ev.both (fun h3=>?_) (fun h3=>absurd h3 (by omega)))))
  · unfold rangB;rw [Bool.eq_iff_iff,decide_eq_true_iff,decide_eq_true_iff];omega
  · unfold formB;rw [if_pos (Or.inl h1)]
  · unfold rangB;exact (decide_eq_false (by omega)).symm
  · unfold formB;rw [if_pos (Or.inl h1)]
  · unfold rangB;rw [Bool.eq_iff_iff,decide_eq_true_iff,decide_eq_true_iff];omega
  · unfold formB;rw [if_pos (Or.inr h4)]
  · unfold rangB;exact (decide_eq_false (by omega)).symm
  · unfold formB;rw [if_pos (Or.inr h4)]
  · rw [words_Plain_at _ hz]
    simp only [Option.bind_some]
    refine j _ _ ?_ ?_
    · unfold rangB;rw [Bool.eq_iff_iff,beq_iff_eq,decide_eq_true_iff];omega
    · unfold formB;rw [if_neg (by omega)]
  · rw [words_Plain_at _ hz]
    simp only [Option.bind_some]
    refine j _ _ ?_ ?_
    · unfold rangB;rw [Bool.eq_iff_iff,beq_iff_eq,decide_eq_true_iff];omega
    · unfold formB;rw [if_neg (by omega)]
def ShortC (cs:List S27):Prop:=∀ x∈cs,x.f2.size≤1000000
theorem rd48_at {l:List S27} {i:Nat} {x:S27} {r:List S27} (h:l.drop i=x :: r):i < l.length∧rd_T27 l (i:Int)=x∧l.drop (i+1)=r:=by
  have hlt:i < l.length:=by
    rcases Nat.lt_or_ge i l.length with h1|h1
    · exact h1
    · rw [List.drop_eq_nil_of_le h1] at h;cases h
  rw [List.drop_eq_getElem_cons hlt] at h;obtain ⟨h1,h2⟩:=List.cons.inj h;refine ⟨hlt,?_,h2⟩;unfold rd_T27;rw [Int.toNat_natCast,List.getD_eq_getElem?_getD,List.getElem?_eq_getElem hlt,← h1];rfl
theorem dims_codes_eq (a b:ByteArray) (ha:a.size≤1000000) (hb:b.size≤1000000):dims_codes.f a b=some (codeW a.data.toList && codeW b.data.toList):=by
  unfold dims_codes.f;rw [words_Code_at a ha,words_Code_at b hb];simp only [Option.bind_some]
  cases codeW a.data.toList <;> simp
theorem dims_Right_l0 (tg:List S35) (hs:ShortT tg) (hl:tg.length≤1000) (R:List S35):∀ i:Nat,tg.drop i=R→Ev (fun k=>dims_Right.l0 k tg tg (tg.length:Int) (i:Int)) (tagL (prevT tg i) R):=by
  induction R with
 |nil =>
    intro i h;have:=List.drop_eq_nil_iff.mp h;refine Ev.step (fun k=>by rw [dims_Right.l0]) ?_;exact Ev.no (by omega) (Ev.is (tagL_nil _).symm)
 |cons x r ih =>
    intro i h;obtain ⟨hi,hx,hr⟩:=rd50_at h;have hm:=hs x (List.mem_of_mem_drop (i:=i) (by rw [h];exact List.mem_cons_self));refine Ev.step (fun k=>by rw [dims_Right.l0]) (Ev.yes (by omega) (Ev.yes (by omega) (Ev.yes (by omega) ?_)));rw [hx,w_next i (by omega),dims_codes_eq _ _ hm.1 hm.2,tagL_cons];simp only [Option.bind_some]
    have hp:prevT tg (i+1)=some x.f0:=by unfold prevT;rw [if_neg (by omega),show i+1 - 1=i by omega,hx]
    have ih':=ih (i+1) hr;rw [hp] at ih';refine Ev.both (fun e=>?_) (fun e=>Ev.is (by rw [Bool.eq_false_iff.mpr e];simp));rw [e];by_cases h0:i=0
    · subst h0
      refine Ev.no (by omega) ?_;simpa [prevT] using ih'
    · refine Ev.yes (by omega) ?_
      rw [w_in (x:=(i:Int) - 1) (by omega)];refine Ev.yes (by omega) (Ev.yes (by omega) ?_);have e1:(i:Int) - 1=((i - 1:Nat):Int):=by omega
      rw [e1];unfold prevT;rw [if_neg h0];refine Ev.both (fun b=>?_) (fun b=>Ev.is ?_)
      · simpa [b] using ih'
      · simp [Bool.eq_false_iff.mpr b]
theorem dims_Right_ev (tg:List S35) (hs:ShortT tg):Ev (fun k=>dims_Right.f k tg) (tagsOk tg):=by
  unfold dims_Right.f tagsOk;refine Ev.both (fun h=>Ev.is ?_) (fun h=>?_)
  · rw [decide_eq_false (by omega),Bool.false_and]
  · rw [decide_eq_true (by omega),Bool.true_and]
    exact dims_Right_l0 tg hs (by omega) tg 0 rfl
def checkC:List S27→Int
 |[]=>0
 |c :: r=>if condS c=0 then checkC r else condS c
def checkS (nm:ByteArray) (cs:List S27) (acc par:ByteArray) (tg:List S35):Int :=
  if nameB nm acc par=true then (if tagsOk tg=true then (if cs.length=0 then 2 else if 8 < cs.length then 9 else checkC cs) else 14) else 7
theorem rules_Check_l0 (cs:List S27) (hs:ShortC cs) (hl:cs.length≤1000) (R:List S27):∀ i:Nat,cs.drop i=R→Ev (fun k=>rules_Check.l0 k cs (cs.length:Int) (i:Int)) (checkC R):=by
  induction R with
 |nil =>
    intro i h;have:=List.drop_eq_nil_iff.mp h;refine Ev.step (fun k=>by rw [rules_Check.l0]) ?_;exact Ev.no (by omega) (Ev.is rfl)
 |cons x r ih =>
    intro i h;obtain ⟨hi,hx,hr⟩:=rd48_at h;have hm:=hs x (List.mem_of_mem_drop (i:=i) (by rw [h];exact List.mem_cons_self));refine Ev.step (fun k=>by rw [rules_Check.l0]) (Ev.yes (by omega) (Ev.yes (by omega) (Ev.yes (by omega) ?_)));rw [hx,w_next i (by omega),checkC];exact Ev.bind (rules_cond_ev x hm) (Ev.both (fun e=>by rw [if_pos e];exact ih (i+1) hr) (fun e=>Ev.is (by rw [if_neg e])))
theorem rules_Check_ev (nm:ByteArray) (cs:List S27) (acc par:ByteArray) (tg:List S35) (h1:nm.size≤1000000) (h2:acc.size≤1000000) (h3:par.size≤1000000) (hc:ShortC cs) (ht:ShortT tg) :
    Ev (fun k=>rules_Check.f k nm cs acc par tg) (checkS nm cs acc par tg):=by
  have j:∀ b:Bool,b=!(nameB nm acc par)→Ev (fun k=>rules_Check.j0 k b nm cs acc par tg) (checkS nm cs acc par tg):=fun b hb=>by
    refine Ev.step (fun k=>by rw [rules_Check.j0]) ?_;unfold checkS
    cases n:nameB nm acc par with
   |false=>rw [hb,n,if_neg (by decide)];exact Ev.yes rfl (Ev.is rfl)
   |true =>
      rw [hb,n,if_pos rfl];refine Ev.no (by decide) (Ev.bind (dims_Right_ev tg ht) (Ev.both (fun e=>?_) (fun e=>Ev.is (by rw [if_neg e]))));rw [if_pos e];refine Ev.both (fun a=>Ev.is (by rw [if_pos (by omega)])) (fun a=>Ev.both (fun b=>Ev.is (by rw [if_neg (by omega),if_pos (by omega)])) (fun b=>?_));rw [if_neg (by omega),if_neg (by omega)];exact rules_Check_l0 cs hc (by omega) cs 0 rfl
  unfold rules_Check.f;rw [words_Code_at _ h1,words_Code_at _ h2,words_Code_at _ h3];simp only [Option.bind_some]
  unfold nameB at j;refine Ev.both (fun a=>Ev.both (fun b=>Ev.both (fun c=>j _ ?_) (fun c=>j _ ?_)) (fun b=>j _ ?_)) (fun a=>j _ ?_)
  · rw [a,b,decide_eq_true c];rfl
  · rw [a,b,decide_eq_false c];simp
  · rw [a,Bool.eq_false_iff.mpr b];rfl
  · rw [Bool.eq_false_iff.mpr a];rfl
def FitR (nm:ByteArray) (cs:List S27) (acc par:ByteArray) (tg:List S35):Prop :=
  (nm.size≤140737488351232∧acc.size≤140737488351232∧par.size≤140737488351232)∧(∀ x∈cs,x.f2.size≤140737488351232)∧∀ x∈tg,x.f0.size≤140737488351232∧x.f1.size≤140737488351232
def bigC:List S27→Bool
 |[]=>false
 |c :: r=>if (c.f2.size:Int) > 400 then true else bigC r
def largeS (nm:ByteArray) (cs:List S27) (acc par:ByteArray) (tg:List S35):Bool :=
  if (20 < cs.length∨20 < tg.length∨400 < nm.size+acc.size+par.size) then true else if bigC cs=true then true else bigT tg
theorem bigC_all {cs:List S27} (h:¬ bigC cs=true):∀ x∈cs,x.f2.size≤400:=by
  induction cs with
 |nil=>intro x hx;cases hx
 |cons y r ih =>
    rw [bigC] at h;split at h
    · exact absurd rfl h
    intro x hx;rcases List.mem_cons.mp hx with rfl|hx
    · omega
    · exact ih h x hx
structure SmallR (nm:ByteArray) (cs:List S27) (acc par:ByteArray) (tg:List S35):Prop where
  lc:cs.length≤20
  lt:tg.length≤20
  ln:nm.size+acc.size+par.size≤400
  c:∀ x∈cs,x.f2.size≤400
  t:∀ x∈tg,x.f0.size+x.f1.size≤400
theorem largeS_small {nm:ByteArray} {cs:List S27} {acc par:ByteArray} {tg:List S35} (h:¬ largeS nm cs acc par tg=true):SmallR nm cs acc par tg:=by
  unfold largeS at h;split at h
  · exact absurd rfl h
  split at h
  · exact absurd rfl h
  rename_i a b
  exact ⟨by omega,by omega,by omega,bigC_all b,bigT_all h⟩
def holdsS (nm:ByteArray) (cs:List S27) (acc par:ByteArray) (tg:List S35) (d a:Int) (rf tx:ByteArray):Bool:=decide (checkS nm cs acc par tg=0) && cs.all fun c=>testF c d a rf tx
theorem checkC_all {cs:List S27} (h:checkC cs=0):∀ c∈cs,condS c=0:=by
  induction cs with
 |nil=>intro c hc;cases hc
 |cons x r ih =>
    rw [checkC] at h;split at h
    · intro c hc
      rcases List.mem_cons.mp hc with rfl|hc
      · assumption
      · exact ih h c hc
    · contradiction
theorem checkS_conds {nm:ByteArray} {cs:List S27} {acc par:ByteArray} {tg:List S35} (h:checkS nm cs acc par tg=0):nameB nm acc par=true∧tagsOk tg=true∧0 < cs.length∧cs.length≤8∧∀ c∈cs,condS c=0:=by
  unfold checkS at h;split at h
  · split at h
    · split at h
      · exact absurd h (by decide)
      split at h
      · exact absurd h (by decide)
      · exact ⟨by assumption,by assumption,by omega,by omega,checkC_all h⟩
    · exact absurd h (by decide)
  · exact absurd h (by decide)
theorem Ev.livR:Ev (fun _:Nat=>(lw48_lives.f).bind fun t=>some t) true:=show Ev (fun _:Nat=>some true) true from Ev.is rfl
end A
namespace A
open Go.RowKit B WW WL WM
section
variable {nm:ByteArray} {cs:List S27} {acc par:ByteArray} {tg:List S35}
theorem SmallR.sc (h:SmallR nm cs acc par tg):ShortC cs:=fun x hx=>by have:=h.c x hx;omega
theorem SmallR.st (h:SmallR nm cs acc par tg):ShortT tg:=fun x hx=>by have:=h.t x hx;omega
end
end A
namespace B
open Go.Deep Go.ChangeShapes Go.WideShapes Go.ChangeAt Go.Joins WW
structure OpensF {α:Type} (P:Program) (fs:List Field) (o:Nat) (d:Kd α) (G:α→Prop):Prop where
  get:∀ {H:Type} {enc:TypeId×Value→H} {W:World} {base:Nat} {spare:Nat→Bool} {held:Bool} {n:Nat} {cs:List Value},o+d.sz≤cs.length→(∀ f∈fs,∃ y,DataW.trod enc P W base spare held n f.type ((cs.drop f.offset).take (P.cellsOf f.type))=some y∧∀ x∈y.1.weights P f.type,x≤reachBytes) →
    ∃ a,d.K W a ((cs.drop o).take d.sz)∧G a
end B
namespace B
open Go.ChangeShapes
theorem handed_open {H:Type} {enc:TypeId×Value→H} {a:Assume} {C:Checked} {os:Os} {f:FuncId} {fn:Func} {s:ChangeSpec} {conds:List PathCond} {apart fresh handsOn again:Bool} {X:World→Array Value→Prop}
    (hX:∀ (w w':World) (args:Array Value),w.heap=w'.heap→X w args→X w' args)
    (own:ownKnob C.prog.godebug=none) (started:os.Started) (noInit:C.prog.inits.idxOf? f=none) (hfn:C.prog.funcs[f]?=some fn)
    (wit:∃ (w:World) (tape:Tape) (i:Input),w.os=os∧(w.forCall tape i).Shaped C.prog∧i.vars=[]∧Input.okWide C.prog (w.forCall tape i) .any w.heap.size f i ∧
      ((s.pre enc C.prog fn conds apart (w.forCall tape i).memory i.args∧X (w.forCall tape i).memory i.args)∧sizedMet enc C.prog fn (OpenSpec.ofChange s) apart (w.forCall tape i).memory i.args)∧a.holds C.prog (lone (Frame.enter C.prog f i.args .normal) [] (w.forCall tape i)))
    (walk:∀ (W:World) (base:Nat) (args:Array Value) (ds gs:List (DataW H)) (before:List MemPlace),W.ShapedOpen C.prog→X W args →
      (∀ (j:Nat) t v,fn.params[j]?=some t→args[j]?=some v→Value.okWide C.prog W .any base t v)→DataW.Whole enc C.prog fn.params.toList s.vars apart W args.toList ds gs before →
      (DataW.weightsEach C.prog (fn.params.toList++s.plain.varTypes C.prog) (ds++gs)).all (·≤reachBytes)=true →
      Calls C.prog f args W fun e W'=>∃ v,e=.returned v∧s.post enc C.prog fn apart fresh handsOn again W args v W') :
    ReturnsInHanded a C os f .any (fun w args=>(s.pre enc C.prog fn conds apart w args∧X w args)∧sizedMet enc C.prog fn (OpenSpec.ofChange s) apart w args) (s.post enc C.prog fn apart fresh handsOn again):=by
  refine returnsInHanded_of_calls own started noInit wit ?_;rintro w tape i _ hO _ ⟨_,_,_,fn',hf',_,_,_,_,hv⟩ ⟨⟨⟨ds,gs,before,hw,_⟩,hx⟩,hz⟩ _;obtain rfl:fn'=fn:=Option.some.inj (hf'.symm.trans hfn);refine (walk (w.forCall tape i) w.heap.size i.args ds gs before hO (hX _ _ _ (by rfl) hx) hv (DataW.Whole.of_heap (w':=w.forCall tape i) (by rfl) hw) (hz.weights hw)).mono ?_;rintro e W' ⟨v,rfl,hp⟩;exact ChangeSpec.post_blind hp
end B

end Go.Proofs.YtlblkojjpagbkaaDoor