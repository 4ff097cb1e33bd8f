-- By pack.py, a program of this session's.
import Derived.Handed
import Derived.Shelf.Vars
import Derived.Test.YtkbgkekegjfkfaaGreatDoorX8
import Derived.Test.YtkbgkekegjfkfaaGreatDoorX16
set_option linter.unusedVariables false
set_option linter.unusedSimpArgs false
namespace Go.Proofs.YtkbgkekegjfkfaaGreatDoor.A
open Go.RowKit B WW WL WM
theorem r6Code_l0 (L:List UInt8) (hL:L.length≤1000000) (R:List UInt8):∀ P:List UInt8,P++R=L→P.all isWdB=true→Ev (fun k=>rf06_Code.l0 k (oL L) (P.length:Int)) (codeW L):=by
  induction R with
  | nil =>
    intro P h hP;rw [List.append_nil] at h;subst h;refine Ev.step (fun k=>by rw [rf06_Code.l0]) (Ev.no (by rw [oL_size];omega) ?_);rw [oL_size];unfold codeW;rw [hP,Bool.and_true];refine Ev.both (fun e=>Ev.is ?_) (fun e=>Ev.is ?_)
    · have:P.isEmpty=false:=by cases P with
        | nil=>simp at e
        | cons c r=>rfl
      rw [this];show _=(decide (P.length≤12))
      rw [Bool.eq_iff_iff,decide_eq_true_iff,decide_eq_true_iff];omega
    · have:P=[]:=List.eq_nil_of_length_eq_zero (by omega)
      subst this;rfl
  | cons c r ih =>
    intro P h hP;have hl:P.length+(r.length+1)=L.length:=by rw [← h,List.length_append,List.length_cons]
    have hg:L.getD P.length 0=c:=by rw [← h,List.getD_eq_getElem?_getD,List.getElem?_append_right (Nat.le_refl _),Nat.sub_self];rfl
    refine Ev.step (fun k=>by rw [rf06_Code.l0]) (Ev.yes (by rw [oL_size];omega) (Ev.yes (by omega) ?_));rw [bt_oL,hg,r6letter_eq,r6digit_eq,w_next P.length (by omega)];simp only [Option.bind_some]
    have key:isWdB c=true→Ev (fun k=>rf06_Code.l0 k (oL L) ((P.length+1:Nat):Int)) (codeW L):=fun hc=>by
      have:=ih (P++[c]) (by rw [List.append_assoc];exact h) (by rw [List.all_append,hP,List.all_cons,hc];rfl);rw [List.length_append,List.length_singleton] at this;exact this
    refine Ev.both (fun a=>key (by rw [isWdB_eq,a];rfl)) (fun a=>Ev.both (fun b=>key (by rw [isWdB_eq,b,Bool.or_true])) (fun b=>Ev.is ?_));unfold codeW
    have:L.all isWdB=false:=by
      rw [← h,List.all_append,List.all_cons,isWdB_eq,Bool.eq_false_iff.mpr a,Bool.eq_false_iff.mpr b];simp
    rw [this,Bool.and_false,Bool.and_false]
theorem ref06_Code_ev (L:List UInt8) (hL:L.length≤1000000):Ev (fun k=>rf06_Code.f k (oL L)) (codeW L):=by
  unfold rf06_Code.f;exact r6Code_l0 L hL L [] rfl rfl
theorem r6Plain_l0 (L:List UInt8) (hL:L.length≤1000000) (R:List UInt8):∀ P:List UInt8,P++R=L→P.all isPrn=true→Ev (fun k=>rf06_Plain.l0 k (oL L) (P.length:Int)) (plainW L):=by
  induction R with
  | nil =>
    intro P h hP;rw [List.append_nil] at h;subst h;refine Ev.step (fun k=>by rw [rf06_Plain.l0]) (Ev.no (by rw [oL_size];omega) (Ev.is ?_));rw [oL_size];unfold plainW;rw [hP,Bool.and_true,Bool.eq_iff_iff,decide_eq_true_iff,decide_eq_true_iff];omega
  | cons c r ih =>
    intro P h hP;have hl:P.length+(r.length+1)=L.length:=by rw [← h,List.length_append,List.length_cons]
    have hg:L.getD P.length 0=c:=by rw [← h,List.getD_eq_getElem?_getD,List.getElem?_append_right (Nat.le_refl _),Nat.sub_self];rfl
    refine Ev.step (fun k=>by rw [rf06_Plain.l0]) (Ev.yes (by rw [oL_size];omega) (Ev.yes (by omega) ?_));rw [bt_oL,hg,w_next P.length (by omega)]
    have bad:¬ isPrn c=true→plainW L=false:=fun hc=>by
      unfold plainW;rw [← h,List.all_append,List.all_cons,Bool.eq_false_iff.mpr hc];simp
    refine Ev.both (fun a=>Ev.is (bad (by rw [isPrn_iff];omega)).symm) (fun a=>Ev.both (fun b=>Ev.is (bad (by rw [isPrn_iff];omega)).symm) (fun b=>?_));have:=ih (P++[c]) (by rw [List.append_assoc];exact h) (by rw [List.all_append,hP,List.all_cons,show isPrn c=true from (isPrn_iff c).mpr (by omega)];rfl);rw [List.length_append,List.length_singleton] at this;exact this
theorem ref06_Plain_ev (L:List UInt8) (hL:L.length≤1000000):Ev (fun k=>rf06_Plain.f k (oL L)) (plainW L):=by
  unfold rf06_Plain.f;exact r6Plain_l0 L hL L [] rfl rfl
theorem ref06_Code_at (s:ByteArray) (hs:s.size≤1000000):Ev (fun k=>rf06_Code.f k s) (codeW s.data.toList):=ref06_Code_ev s.data.toList (by rw [← size_eq'];exact hs)
theorem ref06_Plain_at (s:ByteArray) (hs:s.size≤1000000):Ev (fun k=>rf06_Plain.f k s) (plainW s.data.toList):=ref06_Plain_ev s.data.toList (by rw [← size_eq'];exact hs)
def rangB (c:S48):Bool:=decide ((c.f0=1→-1000000000000≤c.f3∧c.f3≤1000000000000)∧(c.f0=4→0≤c.f3∧c.f3≤109572)∧(¬ (c.f0=1∨c.f0=4)→c.f3=0))
def formB (c:S48):Bool:=if c.f0=1∨c.f0=4 then c.f2.toList == [] else plainW c.f2.data.toList
def condR (c:S48):Int:=if rangB c=true then (if formB c=true then 0 else 5) else 3
def condS (c:S48):Int:=if suitB c.f0 c.f1=true then condR c else 10
theorem r48_number_eq (f:Int):rf48_number.f f=some (numB f):=rules_counts_eq f
theorem suits_at (f o:Int):Ev (fun k=>rules_suits.f k f o) (suitB f o):=by
  have j:∀ b:Bool,(b=true ↔ ¬ (1≤f∧f≤4))→Ev (fun k=>rules_suits.j0 k f o b) (suitB f o):=fun b hb=>by
    refine Ev.step (fun k=>by rw [rules_suits.j0]) ?_;unfold suitB;refine Ev.both (fun h=>Ev.is ?_) (fun h=>Ev.both (fun a=>Ev.is ?_) (fun a=>?_))
    · have:=hb.mp h;exact (decide_eq_false (by omega)).symm
    · have:1≤f∧f≤4:=Decidable.byContradiction fun x=>h (hb.mpr x)
      exact (decide_eq_true (by omega)).symm
    have h4:1≤f∧f≤4:=Decidable.byContradiction fun x=>h (hb.mpr x)
    rw [rules_counts_eq];simp only [Option.bind_some]
    unfold numB;refine Ev.both (fun c=>?_) (fun c=>?_)
    · rw [decide_eq_true_iff] at c
      refine Ev.both (fun d=>Ev.is ?_) (fun d=>Ev.is ?_)
      · exact (decide_eq_true (by omega)).symm
      · rw [Bool.eq_iff_iff,beq_iff_eq,decide_eq_true_iff];omega
    · rw [decide_eq_true_iff] at c
      refine Ev.both (fun d=>Ev.is ?_) (fun d=>Ev.is ?_)
      · exact (decide_eq_true (by omega)).symm
      · rw [Bool.eq_iff_iff,beq_iff_eq,decide_eq_true_iff];omega
  unfold rules_suits.f;refine Ev.both (fun a=>j _ ⟨fun _=>by omega,fun _=>rfl⟩) (fun a=>j _ ?_);rw [decide_eq_true_iff];omega
theorem rules_cond_ev (c:S48) (hz:c.f2.size≤1000000):Ev (fun k=>rules_cond.f k c.f0 c.f1 c.f2 c.f3) (condS c):=by
  unfold rules_cond.f;refine Ev.bind (suits_at _ _) (Ev.both (fun e=>?_) (fun e=>Ev.is (by unfold condS;rw [if_neg e])))
  have j:∀ a b:Bool,a=rangB c→b=formB c→Ev (fun k=>rules_cond.j0 k a b) (condS c):=fun a b ha hb=>by
    refine Ev.step (fun k=>by rw [rules_cond.j0]) ?_;unfold condS condR;rw [if_pos e,← ha,← hb];exact Ev.both (fun x=>Ev.both (fun y=>Ev.is (by rw [if_pos x,if_pos y])) (fun y=>Ev.is (by rw [if_pos x,if_neg y]))) (fun x=>Ev.is (by rw [if_neg x]))
  unfold suitB at e;rw [decide_eq_true_iff] at e;refine Ev.both (fun h1=>Ev.both (fun h2=>j _ _ ?_ ?_) (fun h2=>j _ _ ?_ ?_)) (fun h1=>Ev.both (fun h4=>Ev.both (fun h2=>j _ _ ?_ ?_) (fun h2=>j _ _ ?_ ?_)) (fun h4=>Ev.both (fun h2=>?_) (fun h2=>Ev.both (fun h3=>?_) (fun h3=>absurd h3 (by omega)))))
  · unfold rangB;rw [Bool.eq_iff_iff,decide_eq_true_iff,decide_eq_true_iff];omega
  · unfold formB;rw [if_pos (Or.inl h1)]
  · unfold rangB;exact (decide_eq_false (by omega)).symm
  · unfold formB;rw [if_pos (Or.inl h1)]
  · unfold rangB;rw [Bool.eq_iff_iff,decide_eq_true_iff,decide_eq_true_iff];omega
  · unfold formB;rw [if_pos (Or.inr h4)]
  · unfold rangB;exact (decide_eq_false (by omega)).symm
  · unfold formB;rw [if_pos (Or.inr h4)]
  · rw [words_Plain_at _ hz]
    simp only [Option.bind_some]
    refine j _ _ ?_ ?_
    · unfold rangB;rw [Bool.eq_iff_iff,beq_iff_eq,decide_eq_true_iff];omega
    · unfold formB;rw [if_neg (by omega)]
  · rw [words_Plain_at _ hz]
    simp only [Option.bind_some]
    refine j _ _ ?_ ?_
    · unfold rangB;rw [Bool.eq_iff_iff,beq_iff_eq,decide_eq_true_iff];omega
    · unfold formB;rw [if_neg (by omega)]
theorem r04_Is_eq (n:Int):rf04_Is.f n=some (dayB n):=by
  unfold rf04_Is.f dayB;by_cases h:n ≥ 0
  · rw [if_pos h];congr 1;rw [Bool.eq_iff_iff,decide_eq_true_iff,decide_eq_true_iff];omega
  · rw [if_neg h,decide_eq_false (by omega)]
theorem r48_cond_ev (c:S48) (hz:c.f2.size≤1000000):Ev (fun k=>rf48_condition.f k c.f0 c.f1 c.f2 c.f3) (condS c):=by
  have j2:∀ b:Bool,b=!(rangB c)→Ev (fun k=>rf48_condition.j2 k b c.f0 c.f1 c.f2 c.f3) (condR c):=fun b hb=>by
    refine Ev.step (fun k=>by rw [rf48_condition.j2]) ?_;unfold condR
    cases r:rangB c with
    | false=>rw [hb,r,if_neg (by decide)];exact Ev.yes rfl (Ev.is rfl)
    | true =>
      rw [hb,r,if_pos rfl];refine Ev.no (by decide) ?_;rw [r48_number_eq];simp only [Option.bind_some]
      unfold formB numB;refine Ev.both (fun n=>?_) (fun n=>?_)
      · rw [decide_eq_true_iff] at n
        rw [if_pos n];refine Ev.both (fun l=>Ev.yes (decide_eq_true n) (Ev.is ?_)) (fun l=>Ev.is ?_)
        · rw [if_pos (beq_iff_eq.mpr l)]
        · rw [if_neg (by rw [beq_iff_eq];exact l)]
      · rw [decide_eq_true_iff] at n
        rw [if_neg n];refine Ev.no (by rw [decide_eq_true_iff];exact n) ?_;exact Ev.bind (ref06_Plain_at _ hz) (Ev.both (fun p=>Ev.is (by rw [if_pos p])) (fun p=>Ev.is (by rw [if_neg p])))
  have nn:∀ b:Bool,∀ A:Nat→Option Int,numB c.f0=b→∀ r,Ev A r→Ev A r:=fun _ _ _ _ h=>h
  have j1:∀ b:Bool,(b=false ↔ suitB c.f0 c.f1=true)→1≤c.f0∧c.f0≤4→Ev (fun k=>rf48_condition.j1 k b c.f0 c.f1 c.f2 c.f3) (condS c):=fun b hb hf=>by
    refine Ev.step (fun k=>by rw [rf48_condition.j1]) ?_;unfold condS;refine Ev.both (fun e=>Ev.is ?_) (fun e=>?_)
    · rw [if_neg (fun x=>by rw [hb.mpr x] at e;cases e)]
    rw [if_pos (hb.mp (Bool.eq_false_iff.mpr e)),r48_number_eq,r04_Is_eq];simp only [Option.bind_some]
    have z:∀ (n:numB c.f0=true) ,rangB c=true→Ev (fun k=>if numB c.f0=true then rf48_condition.j2 k false c.f0 c.f1 c.f2 c.f3 else rf48_condition.j2 k (c.f3 != 0) c.f0 c.f1 c.f2 c.f3) (condR c):=fun n r=>Ev.yes n (j2 _ (by rw [r];rfl))
    have z':∀ (n:¬ numB c.f0=true) ,(rangB c=true ↔ c.f3=0)→Ev (fun k=>if numB c.f0=true then rf48_condition.j2 k false c.f0 c.f1 c.f2 c.f3 else rf48_condition.j2 k (c.f3 != 0) c.f0 c.f1 c.f2 c.f3) (condR c):=fun n r=>Ev.no n (j2 _ (by
      by_cases h:c.f3=0
      · rw [r.mpr h,h];rfl
      · rw [Bool.eq_false_iff.mpr (fun x=>h (r.mp x)),bne_iff_ne.mpr h];rfl))
    have nt:(c.f0=1∨c.f0=4)→numB c.f0=true:=fun h=>decide_eq_true h
    have nf:¬ (c.f0=1∨c.f0=4)→¬ numB c.f0=true:=fun h x=>h (of_decide_eq_true x)
    refine Ev.both (fun h1=>Ev.both (fun a=>j2 _ ?_) (fun a=>Ev.both (fun b=>j2 _ ?_) (fun b=>Ev.both (fun h4=>absurd h4 (by omega)) (fun h4=>z (nt (Or.inl h1)) ?_)))) (fun h1=>Ev.both (fun h4=>Ev.both (fun d=>z (nt (Or.inr h4)) ?_) (fun d=>j2 _ ?_)) (fun h4=>z' (nf (by omega)) ?_))
    · unfold rangB;rw [decide_eq_false (by omega)];rfl
    · unfold rangB;rw [decide_eq_false (by omega)];rfl
    · unfold rangB;exact decide_eq_true (by omega)
    · unfold dayB at d;rw [decide_eq_true_iff] at d;unfold rangB;exact decide_eq_true (by omega)
    · unfold dayB at d;rw [decide_eq_true_iff] at d;unfold rangB;rw [decide_eq_false (by omega)];rfl
    · unfold rangB;rw [decide_eq_true_iff];omega
  have j0:∀ b:Bool,(b=false ↔ 1≤c.f0∧c.f0≤4)→Ev (fun k=>rf48_condition.j0 k b c.f0 c.f1 c.f2 c.f3) (condS c):=fun b hb=>by
    refine Ev.step (fun k=>by rw [rf48_condition.j0]) ?_;refine Ev.both (fun e=>Ev.is ?_) (fun e=>?_)
    · unfold condS suitB
      rw [if_neg];rw [decide_eq_true_iff];intro x;rw [hb.mpr ⟨x.1,x.2.1⟩] at e;cases e
    have hf:=hb.mp (Bool.eq_false_iff.mpr e);rw [r48_number_eq];simp only [Option.bind_some]
    have s1:suitB c.f0 c.f1=true ↔ 1≤c.f0∧c.f0≤4∧(c.f1=1∨(c.f0=1∨c.f0=4)∧(c.f1=2∨c.f1=3)∨¬ (c.f0=1∨c.f0=4)∧(c.f1=4∨c.f1=5)):=decide_eq_true_iff;have tt:∀ p:Prop,(true=false ↔ p) ↔ ¬ p:=fun p=>⟨fun h q=>(by cases h.mpr q),fun h=>⟨fun q=>(by cases q),fun q=>absurd q h⟩⟩
    have ff:∀ p:Prop,(false=false ↔ p) ↔ p:=fun p=>⟨fun h=>h.mp rfl,fun h=>⟨fun _=>h,fun _=>rfl⟩⟩
    refine Ev.both (fun n=>?_) (fun n=>?_)
    · have hn:c.f0=1∨c.f0=4:=of_decide_eq_true n
      refine Ev.both (fun a=>j1 _ ((tt _).mpr (by rw [s1];omega)) hf) (fun a=>Ev.both (fun b=>j1 _ ((tt _).mpr (by rw [s1];omega)) hf) (fun b=>Ev.yes n (j1 _ ((ff _).mpr (by rw [s1];omega)) hf)))
    · have hn:¬ (c.f0=1∨c.f0=4):=fun x=>n (decide_eq_true x)
      refine Ev.no n (Ev.both (fun a=>j1 _ ((ff _).mpr (by rw [s1];omega)) hf) (fun a=>Ev.both (fun b=>j1 _ ((ff _).mpr (by rw [s1];omega)) hf) (fun b=>j1 _ ?_ hf)));rw [s1,bne_eq_false_iff_eq];omega
  unfold rf48_condition.f;refine Ev.both (fun a=>j0 _ ⟨fun x=>(by cases x),fun x=>(by omega)⟩) (fun a=>j0 _ ?_);rw [decide_eq_false_iff_not];omega
def ShortC (cs:List S48):Prop:=∀ x∈cs,x.f2.size≤1000000
theorem rd48_at {l:List S48} {i:Nat} {x:S48} {r:List S48} (h:l.drop i=x :: r):i < l.length∧rd_T48 l (i:Int)=x∧l.drop (i+1)=r:=by
  have hlt:i < l.length:=by
    rcases Nat.lt_or_ge i l.length with h1 | h1
    · exact h1
    · rw [List.drop_eq_nil_of_le h1] at h;cases h
  rw [List.drop_eq_getElem_cons hlt] at h;obtain ⟨h1,h2⟩:=List.cons.inj h;refine ⟨hlt,?_,h2⟩;unfold rd_T48;rw [Int.toNat_natCast,List.getD_eq_getElem?_getD,List.getElem?_eq_getElem hlt,← h1];rfl
theorem dims_codes_eq (a b:ByteArray) (ha:a.size≤1000000) (hb:b.size≤1000000):dims_codes.f a b=some (codeW a.data.toList && codeW b.data.toList):=by
  unfold dims_codes.f;rw [words_Code_at a ha,words_Code_at b hb];simp only [Option.bind_some]
  cases codeW a.data.toList <;> simp
theorem r09_named_ev (a b:ByteArray) (ha:a.size≤1000000) (hb:b.size≤1000000):Ev (fun k=>rf09_named.f k a b) (codeW a.data.toList && codeW b.data.toList):=by
  unfold rf09_named.f;exact Ev.bind (ref06_Code_at a ha) (Ev.both (fun e=>Ev.bind (ref06_Code_at b hb) (Ev.is (by rw [e,Bool.true_and]))) (fun e=>Ev.is (by rw [Bool.eq_false_iff.mpr e,Bool.false_and])))
theorem dims_Right_l0 (tg:List S50) (hs:ShortT tg) (hl:tg.length≤1000) (R:List S50):∀ i:Nat,tg.drop i=R→Ev (fun k=>dims_Right.l0 k tg tg (tg.length:Int) (i:Int)) (tagL (prevT tg i) R):=by
  induction R with
  | nil =>
    intro i h;have:=List.drop_eq_nil_iff.mp h;refine Ev.step (fun k=>by rw [dims_Right.l0]) ?_;exact Ev.no (by omega) (Ev.is (tagL_nil _).symm)
  | cons x r ih =>
    intro i h;obtain ⟨hi,hx,hr⟩:=rd50_at h;have hm:=hs x (List.mem_of_mem_drop (i:=i) (by rw [h];exact List.mem_cons_self));refine Ev.step (fun k=>by rw [dims_Right.l0]) (Ev.yes (by omega) (Ev.yes (by omega) (Ev.yes (by omega) ?_)));rw [hx,w_next i (by omega),dims_codes_eq _ _ hm.1 hm.2,tagL_cons];simp only [Option.bind_some]
    have hp:prevT tg (i+1)=some x.f0:=by unfold prevT;rw [if_neg (by omega),show i+1 - 1=i by omega,hx]
    have ih':=ih (i+1) hr;rw [hp] at ih';refine Ev.both (fun e=>?_) (fun e=>Ev.is (by rw [Bool.eq_false_iff.mpr e];simp));rw [e];by_cases h0:i=0
    · subst h0
      refine Ev.no (by omega) ?_;simpa [prevT] using ih'
    · refine Ev.yes (by omega) ?_
      rw [w_in (x:=(i:Int) - 1) (by omega)];refine Ev.yes (by omega) (Ev.yes (by omega) ?_);have e1:(i:Int) - 1=((i - 1:Nat):Int):=by omega
      rw [e1];unfold prevT;rw [if_neg h0];refine Ev.both (fun b=>?_) (fun b=>Ev.is ?_)
      · simpa [b] using ih'
      · simp [Bool.eq_false_iff.mpr b]
theorem dims_Right_ev (tg:List S50) (hs:ShortT tg):Ev (fun k=>dims_Right.f k tg) (tagsOk tg):=by
  unfold dims_Right.f tagsOk;refine Ev.both (fun h=>Ev.is ?_) (fun h=>?_)
  · rw [decide_eq_false (by omega),Bool.false_and]
  · rw [decide_eq_true (by omega),Bool.true_and]
    exact dims_Right_l0 tg hs (by omega) tg 0 rfl
theorem r09_Right_l0 (tg:List S50) (hs:ShortT tg) (hl:tg.length≤1000) (R:List S50):∀ i:Nat,tg.drop i=R→Ev (fun k=>rf09_Right.l0 k tg (i:Int)) (tagL (prevT tg i) R && decide (tg.length≤6)):=by
  induction R with
  | nil =>
    intro i h;have:=List.drop_eq_nil_iff.mp h;refine Ev.step (fun k=>by rw [rf09_Right.l0]) (Ev.no (by omega) (Ev.is ?_));rw [tagL_nil,Bool.true_and,Bool.eq_iff_iff,decide_eq_true_iff,decide_eq_true_iff];omega
  | cons x r ih =>
    intro i h;obtain ⟨hi,hx,hr⟩:=rd50_at h;have hm:=hs x (List.mem_of_mem_drop (i:=i) (by rw [h];exact List.mem_cons_self));refine Ev.step (fun k=>by rw [rf09_Right.l0]) (Ev.yes (by omega) (Ev.yes (by omega) ?_));rw [hx,w_next i (by omega),tagL_cons];have hp:prevT tg (i+1)=some x.f0:=by unfold prevT;rw [if_neg (by omega),show i+1 - 1=i by omega,hx]
    have ih':=ih (i+1) hr;rw [hp] at ih';refine Ev.bind (r09_named_ev _ _ hm.1 hm.2) (Ev.both (fun e=>?_) (fun e=>Ev.is (by rw [Bool.eq_false_iff.mpr e];simp)));rw [e];by_cases h0:i=0
    · subst h0
      refine Ev.no (by omega) ?_;simpa [prevT] using ih'
    · refine Ev.yes (by omega) ?_
      rw [w_in (x:=(i:Int) - 1) (by omega)];refine Ev.yes (by omega) (Ev.yes (by omega) ?_);have e1:(i:Int) - 1=((i - 1:Nat):Int):=by omega
      rw [e1];unfold prevT;rw [if_neg h0];refine Ev.both (fun b=>?_) (fun b=>Ev.is ?_)
      · simpa [b] using ih'
      · simp [Bool.eq_false_iff.mpr b]
theorem r09_Right_ev (tg:List S50) (hs:ShortT tg) (hl:tg.length≤1000):Ev (fun k=>rf09_Right.f k tg) (tagsOk tg):=by
  unfold rf09_Right.f;have:=r09_Right_l0 tg hs hl tg 0 rfl;rw [Bool.and_comm] at this;exact this
def checkC:List S48→Int
  | []=>0
  | c :: r=>if condS c=0 then checkC r else condS c
def checkS (nm:ByteArray) (cs:List S48) (acc par:ByteArray) (tg:List S50):Int :=
  if nameB nm acc par=true then (if tagsOk tg=true then (if cs.length=0 then 2 else if 8 < cs.length then 9 else checkC cs) else 14) else 7
theorem rules_Check_l0 (cs:List S48) (hs:ShortC cs) (hl:cs.length≤1000) (R:List S48):∀ i:Nat,cs.drop i=R→Ev (fun k=>rules_Check.l0 k cs (cs.length:Int) (i:Int)) (checkC R):=by
  induction R with
  | nil =>
    intro i h;have:=List.drop_eq_nil_iff.mp h;refine Ev.step (fun k=>by rw [rules_Check.l0]) ?_;exact Ev.no (by omega) (Ev.is rfl)
  | cons x r ih =>
    intro i h;obtain ⟨hi,hx,hr⟩:=rd48_at h;have hm:=hs x (List.mem_of_mem_drop (i:=i) (by rw [h];exact List.mem_cons_self));refine Ev.step (fun k=>by rw [rules_Check.l0]) (Ev.yes (by omega) (Ev.yes (by omega) (Ev.yes (by omega) ?_)));rw [hx,w_next i (by omega),checkC];exact Ev.bind (rules_cond_ev x hm) (Ev.both (fun e=>by rw [if_pos e];exact ih (i+1) hr) (fun e=>Ev.is (by rw [if_neg e])))
theorem r48_Check_l0 (nm acc par:ByteArray) (tg:List S50) (cs:List S48) (hs:ShortC cs) (hl:cs.length≤1000) (R:List S48):∀ i:Nat,cs.drop i=R→Ev (fun k=>rf48_Check.l0 k (i:Int) nm cs acc par tg) (checkC R):=by
  induction R with
  | nil =>
    intro i h;have:=List.drop_eq_nil_iff.mp h;refine Ev.step (fun k=>by rw [rf48_Check.l0]) ?_;exact Ev.no (by omega) (Ev.is rfl)
  | cons x r ih =>
    intro i h;obtain ⟨hi,hx,hr⟩:=rd48_at h;have hm:=hs x (List.mem_of_mem_drop (i:=i) (by rw [h];exact List.mem_cons_self));refine Ev.step (fun k=>by rw [rf48_Check.l0]) (Ev.yes (by omega) (Ev.yes (by omega) ?_));rw [hx,w_next i (by omega),checkC];exact Ev.bind (r48_cond_ev x hm) (Ev.both (fun e=>by rw [if_pos e];exact ih (i+1) hr) (fun e=>Ev.is (by rw [if_neg e])))
end Go.Proofs.YtkbgkekegjfkfaaGreatDoor.A
namespace Go.Proofs.YtkbgkekegjfkfaaGreatDoor.B
open Go.Deep Go.ChangeShapes Go.WideShapes Go.ChangeAt Go.Joins WW
theorem weights_mem_all {H:Type} {P:Program} {e:TypeId} {l:List (DataW H)} {d:DataW H} (h:d∈l) {x:Nat} (hx:x∈d.weights P e):x∈DataW.weightsAll P e l:=by
  induction l with
  | nil=>cases h
  | cons a l ih =>
    rw [DataW.weightsAll];rcases List.mem_cons.mp h with rfl | h
    · exact List.mem_append_left _ hx
    · exact List.mem_append_right _ (ih h)
structure Opens {α:Type} (P:Program) (t:TypeId) (d:Kd α) (G:α→Prop):Prop where
  size:P.cellsOf t=d.sz
  get:∀ {H:Type} {enc:TypeId×Value→H} {W:World} {base:Nat} {spare:Nat→Bool} {held:Bool} {n:Nat} {cs:List Value} {y:DataW H×List MemPlace},DataW.trod enc P W base spare held n t cs=some y→(∀ x∈y.1.weights P t,x≤reachBytes)→∃ a,d.K W a cs∧G a
theorem Opens.int {P:Program} {t:TypeId} {k:IntKind} (ht:P.underlying t=some (.int k)) (hc:P.cellsOf t=1):Opens P t (Kd.int k) (fun x=>(Lit.int k x).wf=true) where
  size:=hc
  get h _:=by
    obtain ⟨x,rfl,_,hw⟩:=DataW.trod_int ht h;exact ⟨x,rfl,hw⟩
theorem Opens.string {P:Program} {t:TypeId} (ht:P.underlying t=some .string) (hc:P.cellsOf t=1):Opens P t Kd.string (fun s=>s.size≤140737488351232) where
  size:=hc
  get h hw:=by
    obtain ⟨x,rfl,rfl,_⟩:=DataW.trod_string ht h;refine ⟨x,rfl,?_⟩;have:=hw x.data.toList.length (by simp [DataW.weights]);rw [data_length] at this;exact this
theorem Opens.iso {α β:Type} {P:Program} {t:TypeId} {d:Kd α} {G:α→Prop} {G':β→Prop} (h:Opens P t d G) (f:β→α) (g:α→β) (hfg:∀ a,f (g a)=a) (hG:∀ a,G a→G' (g a)):Opens P t (Kd.iso d f) G' where
  size:=h.size
  get hh hw:=by
    obtain ⟨a,ha,hg⟩:=h.get hh hw;refine ⟨g a,?_,hG a hg⟩;show d.K _ (f (g a)) _
    rw [hfg];exact ha
structure OpensF {α:Type} (P:Program) (fs:List Field) (o:Nat) (d:Kd α) (G:α→Prop):Prop where
  get:∀ {H:Type} {enc:TypeId×Value→H} {W:World} {base:Nat} {spare:Nat→Bool} {held:Bool} {n:Nat} {cs:List Value},o+d.sz≤cs.length→(∀ f∈fs,∃ y,DataW.trod enc P W base spare held n f.type ((cs.drop f.offset).take (P.cellsOf f.type))=some y∧∀ x∈y.1.weights P f.type,x≤reachBytes) →
    ∃ a,d.K W a ((cs.drop o).take d.sz)∧G a
theorem OpensF.one {α:Type} {P:Program} {f:Field} {o:Nat} {d:Kd α} {G:α→Prop} (h:Opens P f.type d G) (ho:f.offset=o):OpensF P [f] o d G where
  get _ hf:=by
    obtain ⟨y,hy,hw⟩:=hf f (List.mem_singleton.mpr rfl);rw [ho,h.size] at hy;exact h.get hy hw
theorem OpensF.cons {α β:Type} {P:Program} {f:Field} {fs:List Field} {o o':Nat} {d:Kd α} {e:Kd β} {G:α→Prop} {G':β→Prop} (h:Opens P f.type d G) (ho:f.offset=o) (h':OpensF P fs o' e G') (ho':o'=o+d.sz) :
    OpensF P (f :: fs) o (Kd.pair d e) (fun x=>G x.1∧G' x.2) where
  get:=by
    intro H enc W base spare held n cs hl hf;have hsz:(Kd.pair d e).sz=d.sz+e.sz:=rfl;rw [hsz] at hl ⊢;obtain ⟨y,hy,hw⟩:=hf f (List.mem_cons_self ..);rw [ho,h.size] at hy;obtain ⟨a,ha,hg⟩:=h.get hy hw;obtain ⟨b,hb,hg'⟩:=h'.get (by omega) (fun f' hf'=>hf f' (List.mem_cons_of_mem _ hf'));refine ⟨(a,b),⟨_,_,?_,ha,hb⟩,hg,hg'⟩;rw [ho',← List.drop_drop,List.take_add]
theorem Opens.struct {α:Type} {P:Program} {t:TypeId} {fs:Array Field} {d:Kd α} {G:α→Prop} (ht:P.underlying t=some (.struct fs)) (hc:P.cellsOf t=d.sz) (h:OpensF P fs.toList 0 d G):Opens P t d G where
  size:=hc
  get:=by
    intro H enc W base spare held n cs y hh hw;obtain ⟨xs,n,_,rfl,hl,hlen,hf⟩:=DataW.trod_struct ht hh;rw [hc] at hl
    have hw':∀ x∈DataW.weightsEach P (fs.toList.map (·.type)) (xs.map (·.1)),x≤reachBytes:=by
      intro x hx;refine hw x ?_;show x∈DataW.weights P t (.agg (xs.map (·.1)))
      rw [DataW.weights,ht];exact hx
    obtain ⟨a,ha,hg⟩:=h.get (cs:=cs) (by omega) (fun f hm=>by
      obtain ⟨i,hi,rfl⟩:=List.getElem_of_mem hm;have hi':i < fs.size:=by simpa using hi
      have:=hf i fs[i] (Array.getElem?_eq_getElem hi');rw [Array.getElem_toList];have hx9:xs[i]?=some xs[i]:=List.getElem?_eq_getElem (by omega);refine ⟨_,this.trans hx9,fun x hx=>hw' x (DataW.weights_mem_each (j:=i) (t:=fs[i].type) (d:=xs[i].1) ?_ ?_ x hx)⟩
      · rw [List.getElem?_map,List.getElem?_eq_getElem hi,Array.getElem_toList];rfl
      · rw [List.getElem?_map,hx9];rfl)
    rw [List.drop_zero,← hl,List.take_length] at ha;exact ⟨a,ha,hg⟩
theorem Opens.slice {α:Type} {P:Program} {t e:TypeId} {d:Kd α} {G:α→Prop} (ht:P.underlying t=some (.slice e)) (hc:P.cellsOf t=1) (h:Opens P e d G):Opens P t (Kd.slice e d) (fun xs=>(∀ x∈xs,G x)∧xs.length≤maxLen∧xs.length * P.bytesOf e≤140737488351232) where
  size:=hc
  get:=by
    intro H enc W base spare held n cs y hh hw;rcases open_slice ht hh with ⟨rfl,_⟩ | ⟨a,len,cap,m,n',D,Pl,rfl,_,hlc,hcm,hm,rfl,hel⟩
    · exact ⟨[],⟨none,0,rfl,Nat.le_refl _,rfl,Nat.zero_le _,fun h=>absurd h (Nat.lt_irrefl _)⟩,⟨fun x hx=>(by cases hx),Nat.zero_le _,by simp⟩⟩
    · have hml:len≤m:=by rw [hm];split <;> omega
      have hw1:∀ i,i < len→∀ x∈(D i).weights P e,x≤reachBytes:=by
        intro i hi x hx;refine hw x ?_;show x∈DataW.weights P t (.slice ((List.range len).map D) _)
        rw [DataW.weights,ht];refine List.mem_cons_of_mem _ (List.mem_append_left _ ?_);exact weights_mem_all (List.mem_map.mpr ⟨i,List.mem_range.mpr hi,rfl⟩) hx
      have hw2:len * P.bytesOf e≤140737488351232:=by
        have:=hw ((((List.range len).map D).length+((List.range (m - len)).map fun j=>D (len+j)).length) * P.bytesOf e) (by
          show _∈DataW.weights P t (.slice ((List.range len).map D) _)
          rw [DataW.weights,ht];exact List.mem_cons_self ..)
        rw [List.length_map,List.length_range] at this;exact Nat.le_trans (Nat.mul_le_mul_right _ (Nat.le_add_right _ _)) this
      have key:∀ i,i < len→∃ x:α,∃ cs',W.cells? base (a.add (i * d.sz)) d.sz=some cs'∧d.K W x cs'∧G x:=by
        intro i hi;obtain ⟨cs',h1,h2⟩:=hel i (by omega);obtain ⟨x,hx,hg⟩:=h.get h2 (hw1 i hi);rw [h.size] at h1;exact ⟨x,cs',h1,hx,hg⟩
      have build:∀ k,k≤len→∃ xs:List α,xs.length=k∧∀ j x,xs[j]?=some x→∃ cs',W.cells? base (a.add (j * d.sz)) d.sz=some cs'∧d.K W x cs'∧G x:=by
        intro k;induction k with
        | zero=>intro _;exact ⟨[],rfl,fun j x hj=>by simp at hj⟩
        | succ k ih =>
          intro hk;obtain ⟨xs,hxs,hget⟩:=ih (by omega);obtain ⟨x,hx⟩:=key k (by omega);refine ⟨xs++[x],by rw [List.length_append,hxs];rfl,fun j z hj=>?_⟩;by_cases hjk:j < k
          · rw [List.getElem?_append_left (by omega)] at hj;exact hget j z hj
          · rw [List.getElem?_append_right (by omega)] at hj
            obtain rfl:j=k:=by
              have:=(List.getElem?_eq_some_iff.mp hj).1;rw [List.length_singleton] at this;omega
            rw [hxs,Nat.sub_self] at hj;obtain rfl:x=z:=Option.some.inj hj;exact hx
      obtain ⟨xs,hxs,hget⟩:=build len (Nat.le_refl _);unfold maxLen at hcm;refine ⟨xs,⟨some a,cap,by rw [hxs],by omega,rfl,by omega,fun _=>⟨a,rfl,fun j x hj=>?_⟩⟩,⟨fun x hx=>?_,by unfold maxLen;omega,by rw [hxs];exact hw2⟩⟩
      · obtain ⟨cs',h1,h2,_⟩:=hget j x hj
        refine ⟨cs',d.K_len h2,h2,fun i u hu=>?_⟩;obtain ⟨_,h4,h3⟩:=World.cells?_some h1;have hi:=(List.getElem?_eq_some_iff.mp hu).1;have h5:=h3 i (by omega);rw [← hu,← h5,Deep.add_add]
      · obtain ⟨j,hj⟩:=List.getElem?_of_mem hx
        obtain ⟨_,_,_,hg⟩:=hget j x hj;exact hg
theorem Opens.agg {α:Type} {P:Program} {t:TypeId} {fs:Array Field} {d:Kd α} {G:α→Prop} (h:Opens P t d G) (ht:P.underlying t=some (.struct fs)) {H:Type} {enc:TypeId×Value→H} {W:World} {base b0:Nat} {spare:Nat→Bool} {held:Bool} {r:Reach} {v:Value} {y:DataW H} {p:List MemPlace}
    (hv:Value.okWide P W r b0 t v) (hh:DataW.Trod enc P W base spare held t v y p) (hw:∀ x∈y.weights P t,x≤reachBytes):∃ (cs:Array Value) (a:α),v=.agg cs∧d.K W a cs.toList∧G a:=by
  obtain ⟨cs,rfl,_⟩:=okWide_struct ht hv;obtain ⟨n,hn⟩:=hh;obtain ⟨a,ha,hg⟩:=h.get hn hw;exact ⟨cs,a,rfl,ha,hg⟩
end Go.Proofs.YtkbgkekegjfkfaaGreatDoor.B
namespace Go.Proofs.YtkbgkekegjfkfaaGreatDoor.A
open Go.ChangeShapes Go.WideShapes Go.ChangeAt Go.Joins Go.RowKit B WW
set_option maxRecDepth 100000 in
theorem opens_cond:Opens Tryz.prog 48 k48 (fun x=>(Lit.int .i64 x.f0).wf=true∧(Lit.int .i64 x.f1).wf=true∧x.f2.size≤140737488351232∧(Lit.int .i64 x.f3).wf=true) :=
  Opens.iso (Opens.struct (fs := #[⟨"Field", 3, 0, false, "", "", 0⟩, ⟨"Op", 3, 1, false, "", "", 8⟩, ⟨"S", 9, 2, false, "", "", 16⟩, ⟨"N", 3, 3, false, "", "", 32⟩]) (by kernel_rfl) (by kernel_rfl)
    (OpensF.cons (Opens.int Tryz.underlying3 (by kernel_rfl)) rfl (OpensF.cons (Opens.int Tryz.underlying3 (by kernel_rfl)) rfl (OpensF.cons (Opens.string Tryz.underlying9 (by kernel_rfl)) rfl (OpensF.one (Opens.int Tryz.underlying3 (by kernel_rfl)) rfl) rfl) rfl) rfl))
    (fun x:S48=>(x.f0,x.f1,x.f2,x.f3)) (fun p=>⟨p.1,p.2.1,p.2.2.1,p.2.2.2⟩) (fun _=>rfl) (fun _ h=>h)
set_option maxRecDepth 100000 in
theorem opens_tag:Opens Tryz.prog 50 k50 (fun x=>x.f0.size≤140737488351232∧x.f1.size≤140737488351232) :=
  Opens.iso (Opens.struct (fs := #[⟨"Name", 9, 0, false, "", "", 0⟩, ⟨"Value", 9, 1, false, "", "", 16⟩]) (by kernel_rfl) (by kernel_rfl)
    (OpensF.cons (Opens.string Tryz.underlying9 (by kernel_rfl)) rfl (OpensF.one (Opens.string Tryz.underlying9 (by kernel_rfl)) rfl) rfl))
    (fun x:S50=>(x.f0,x.f1)) (fun p=>⟨p.1,p.2⟩) (fun _=>rfl) (fun _ h=>h)
abbrev KRule:=Kd.pair Kd.string (Kd.pair (Kd.slice 48 k48) (Kd.pair Kd.string (Kd.pair Kd.string (Kd.slice 50 k50))))
abbrev GRule (x:ByteArray×List S48×ByteArray×ByteArray×List S50):Prop :=
  x.1.size≤140737488351232∧((∀ c∈x.2.1,(Lit.int .i64 c.f0).wf=true∧(Lit.int .i64 c.f1).wf=true∧c.f2.size≤140737488351232∧(Lit.int .i64 c.f3).wf=true)∧x.2.1.length≤maxLen∧x.2.1.length * Tryz.prog.bytesOf 48≤140737488351232)∧x.2.2.1.size≤140737488351232∧x.2.2.2.1.size≤140737488351232∧(∀ t∈x.2.2.2.2,t.f0.size≤140737488351232∧t.f1.size≤140737488351232)∧x.2.2.2.2.length≤maxLen∧x.2.2.2.2.length * Tryz.prog.bytesOf 50≤140737488351232
set_option maxRecDepth 100000 in
theorem opens_rule:Opens Tryz.prog 25 KRule GRule :=
  Opens.struct (fs := #[⟨"Name", 9, 0, false, "", "", 0⟩, ⟨"Conds", 22, 1, false, "", "", 16⟩, ⟨"Account", 9, 2, false, "", "", 40⟩, ⟨"Party", 9, 3, false, "", "", 56⟩, ⟨"Tags", 23, 4, false, "", "", 72⟩]) (by kernel_rfl) (by kernel_rfl)
    (OpensF.cons (Opens.string Tryz.underlying9 (by kernel_rfl)) rfl (OpensF.cons (Opens.slice (by kernel_rfl) (by kernel_rfl) opens_cond) rfl (OpensF.cons (Opens.string Tryz.underlying9 (by kernel_rfl)) rfl (OpensF.cons (Opens.string Tryz.underlying9 (by kernel_rfl)) rfl (OpensF.one (Opens.slice (by kernel_rfl) (by kernel_rfl) opens_tag) rfl) rfl) rfl) rfl) rfl)
end Go.Proofs.YtkbgkekegjfkfaaGreatDoor.A
namespace Go.Proofs.YtkbgkekegjfkfaaGreatDoor.A
open Go.RowKit B WW WL WM
attribute [local go_sem] max2_int min2_int max_two min_two max_three min_three max_four min_four
set_option maxHeartbeats 8000000
set_option maxRecDepth 100000
def lw48_example.f :Option (ByteArray×(List (S48))×ByteArray×ByteArray×(List (S50))):=some ((⟨#[114,101,110,116]⟩:ByteArray),(([(⟨1,3,(⟨#[]⟩:ByteArray),(-100)⟩:S48),(⟨3,4,(⟨#[114,101,110,116]⟩:ByteArray),0⟩:S48)]:List (S48))),(⟨#[53,49]⟩:ByteArray),(⟨#[112]⟩:ByteArray),(([(⟨(⟨#[100,101,112,116]⟩:ByteArray),(⟨#[120]⟩:ByteArray)⟩:S50)]:List (S50))))
theorem lw48_example.calls  (r1:ByteArray) (r2:List (S48)) (r3:ByteArray) (r4:ByteArray) (r5:List (S50)) (w:World) (h:lw48_example.f =some (r1,r2,r3,r4,r5)) :
  Calls Tryz.prog 27 #[] w fun e w'=>∃ v1_ v4_:Value,e=.returned (.agg #[.string r1,v1_,.string r3,.string r4,v4_])∧Kd.R k48 48 w' w.heap.size (fun _=>True) v1_ r2∧Kd.R k50 50 w' w.heap.size (fun _=>True) v4_ r5∧Below w.heap.size w w':=by
 have hu25:=Tryz.underlying25;have hu48:=Tryz.underlying48;have hu50:=Tryz.underlying50;have HB:=sd (Below.refl w.heap.size w);have H:=h;clear h;unfold lw48_example.f at H;obtain ⟨y251,hy251⟩:∃ y_:List (S48),y_=(([(⟨1,3,(⟨#[]⟩:ByteArray),(-100)⟩:S48),(⟨3,4,(⟨#[114,101,110,116]⟩:ByteArray),0⟩:S48)]:List (S48))):=⟨_,rfl⟩
 replace H:(some ((⟨#[114,101,110,116]⟩:ByteArray),y251,(⟨#[53,49]⟩:ByteArray),(⟨#[112]⟩:ByteArray),(([(⟨(⟨#[100,101,112,116]⟩:ByteArray),(⟨#[120]⟩:ByteArray)⟩:S50)]:List (S50)))))=some (r1,r2,r3,r4,r5):=by first | (rw [hy251];with_reducible exact H) | (have H2_:=(Option.bind_some _ _).symm.trans H;rw [hy251];with_reducible exact H2_) | (have H2_:=(Option.bind_some _ _).symm.trans H;with_reducible exact H2_) | with_reducible exact H | (rw [hy251];exact H) | exact H
 have Ny251:=sd hy251;clear hy251;obtain ⟨y254,hy254⟩:∃ y_:List (S50),y_=(([(⟨(⟨#[100,101,112,116]⟩:ByteArray),(⟨#[120]⟩:ByteArray)⟩:S50)]:List (S50))):=⟨_,rfl⟩
 replace H:(some ((⟨#[114,101,110,116]⟩:ByteArray),y251,(⟨#[53,49]⟩:ByteArray),(⟨#[112]⟩:ByteArray),y254))=some (r1,r2,r3,r4,r5):=by first | (rw [hy254];with_reducible exact H) | (have H2_:=(Option.bind_some _ _).symm.trans H;rw [hy254];with_reducible exact H2_) | (have H2_:=(Option.bind_some _ _).symm.trans H;with_reducible exact H2_) | with_reducible exact H | (rw [hy254];exact H) | exact H
 have Ny254:=sd hy254;clear hy254;simp only [Option.some.injEq,Prod.mk.injEq] at H
 obtain ⟨rfl,rfl,rfl,rfl,rfl⟩:=H;go_enter Tryz.func27,Tryz.ntmps27
 go_wp2_with (first | ((with_reducible refine gate_dst (N:=0) rfl ?_);refine bxA 0 #[.string (⟨#[]⟩:ByteArray),.slice none 0 0,.string (⟨#[]⟩:ByteArray),.string (⟨#[]⟩:ByteArray),.slice none 0 0] 25 ?_;intro gb250 hg w1 hbox hb;have BK250:=sd (hbox);have GW250:=gem hg HB;have GE250:=GW250;replace HB:=hbm HB hb;clear hb hbox hg) | ((with_reducible refine gate_dst (N:=3) rfl ?_);refine Kd.R_lit k48 _ 48 ?hg (N:=3) ?hd (xs:=([(⟨1,3,(⟨#[]⟩:ByteArray),(-100)⟩:S48),(⟨3,4,(⟨#[114,101,110,116]⟩:ByteArray),0⟩:S48)]:List (S48))) (inner:=[.int .i64 1,.int .i64 3,.string (⟨#[]⟩:ByteArray),.int .i64 (-100),.int .i64 3,.int .i64 4,.string (⟨#[114,101,110,116]⟩:ByteArray),.int .i64 0]) (ok:=fun _=>True) (okp:=fun _=>True) ?hr ?hp (fun _ hk=>hk) trivial (Below.refl _ _) (Nat.le_refl _) (by simp) ?_;(case hd=>rfl);(case hg=>rfl);(case hr=>first | (go_simp;done) | (go_simp;rfl));(case hp=>exact (Reps.c4 (show Kd.M k48 _ _ _ (⟨1,3,(⟨#[]⟩:ByteArray),(-100)⟩:S48) [.int .i64 1,.int .i64 3,.string (⟨#[]⟩:ByteArray),.int .i64 (-100)] from (k48_mkM _ _ _ (⟨1,3,(⟨#[]⟩:ByteArray),(-100)⟩:S48) )) (Reps.c4 (show Kd.M k48 _ _ _ (⟨3,4,(⟨#[114,101,110,116]⟩:ByteArray),0⟩:S48) [.int .i64 3,.int .i64 4,.string (⟨#[114,101,110,116]⟩:ByteArray),.int .i64 0] from (k48_mkM _ _ _ (⟨3,4,(⟨#[114,101,110,116]⟩:ByteArray),0⟩:S48) )) (Reps.none _ _))));intro v252 w2 ho3 hb hg_ hnew_;clear hg_ hnew_;(first | rw [← Ny251.out] at ho3 | (simp only [Int.reduceToNat] at ho3;rw [← Ny251.out] at ho3));have HO253:=sd (Kd.R_lower ho3 (below_size zq29));replace BK250:=bkm BK250 hb;replace HB:=hbm HB hb;clear hb ho3) | ((with_reducible refine gate_dst (N:=5) rfl ?_);refine Kd.R_lit k50 _ 50 ?hg (N:=5) ?hd (xs:=([(⟨(⟨#[100,101,112,116]⟩:ByteArray),(⟨#[120]⟩:ByteArray)⟩:S50)]:List (S50))) (inner:=[.string (⟨#[100,101,112,116]⟩:ByteArray),.string (⟨#[120]⟩:ByteArray)]) (ok:=fun _=>True) (okp:=fun _=>True) ?hr ?hp (fun _ hk=>hk) trivial (Below.refl _ _) (Nat.le_refl _) (by simp) ?_;(case hd=>rfl);(case hg=>rfl);(case hr=>first | (go_simp;done) | (go_simp;rfl));(case hp=>exact (Reps.c2 (show Kd.M k50 _ _ _ (⟨(⟨#[100,101,112,116]⟩:ByteArray),(⟨#[120]⟩:ByteArray)⟩:S50) [.string (⟨#[100,101,112,116]⟩:ByteArray),.string (⟨#[120]⟩:ByteArray)] from (k50_mkM _ _ _ (⟨(⟨#[100,101,112,116]⟩:ByteArray),(⟨#[120]⟩:ByteArray)⟩:S50) )) (Reps.none _ _)));intro v255 w4 ho5 hb hg_ hnew_;clear hg_ hnew_;(first | rw [← Ny254.out] at ho5 | (simp only [Int.reduceToNat] at ho5;rw [← Ny254.out] at ho5));have HO256:=sd (Kd.R_lower ho5 (below_size zq29));replace HO253:=rbm HO253 hb;replace BK250:=bkm BK250 hb;replace HB:=hbm HB hb;clear hb ho5;obtain ⟨Ao6,co6,eo6⟩:=Kd.R_slice HO256.out;subst eo6;obtain ⟨Ao7,co7,eo7⟩:=Kd.R_slice HO253.out;subst eo7;obtain ⟨_,_,_,_,_,_,_,_,_,_⟩:=bk5 BK250))
 refine bodyPost_ret (results_cell_row rfl _ _ gb250 25 #[.string (⟨#[114,101,110,116]⟩:ByteArray),.slice Ao7 y251.length co7,.string (⟨#[53,49]⟩:ByteArray),.string (⟨#[112]⟩:ByteArray),.slice Ao6 y254.length co6] (0,0) _ rfl (by (with_reducible repeat (first | refine blk_drewN ?_ _ | refine blk_drew ?_ | refine blk_alloc ?_ _));refine blk_put (cs:=#[.string (⟨#[114,101,110,116]⟩:ByteArray),.slice Ao7 y251.length co7,.string (⟨#[53,49]⟩:ByteArray),.string (⟨#[112]⟩:ByteArray),.slice none 0 0]) ?_ 4 _ rfl;(with_reducible repeat (first | refine blk_drewN ?_ _ | refine blk_drew ?_ | refine blk_alloc ?_ _));refine blk_put (cs:=#[.string (⟨#[114,101,110,116]⟩:ByteArray),.slice Ao7 y251.length co7,.string (⟨#[53,49]⟩:ByteArray),.string (⟨#[]⟩:ByteArray),.slice none 0 0]) ?_ 3 _ rfl;(with_reducible repeat (first | refine blk_drewN ?_ _ | refine blk_drew ?_ | refine blk_alloc ?_ _));refine blk_put (cs:=#[.string (⟨#[114,101,110,116]⟩:ByteArray),.slice Ao7 y251.length co7,.string (⟨#[]⟩:ByteArray),.string (⟨#[]⟩:ByteArray),.slice none 0 0]) ?_ 2 _ rfl;(with_reducible repeat (first | refine blk_drewN ?_ _ | refine blk_drew ?_ | refine blk_alloc ?_ _));refine blk_put (cs:=#[.string (⟨#[114,101,110,116]⟩:ByteArray),.slice none 0 0,.string (⟨#[]⟩:ByteArray),.string (⟨#[]⟩:ByteArray),.slice none 0 0]) ?_ 1 _ rfl;(with_reducible repeat (first | refine blk_drewN ?_ _ | refine blk_drew ?_ | refine blk_alloc ?_ _));refine blk_put (cs:=#[.string (⟨#[]⟩:ByteArray),.slice none 0 0,.string (⟨#[]⟩:ByteArray),.string (⟨#[]⟩:ByteArray),.slice none 0 0]) ?_ 0 _ rfl;(with_reducible repeat (first | refine blk_drewN ?_ _ | refine blk_drew ?_ | refine blk_alloc ?_ _));exact BK250.out) Tryz.underlying25 rfl (by kernel_rfl)) rfl ?_;exact ⟨_,_,zq4,by (with_reducible repeat (first | apply Kd.R_alloc | apply Kd.R_drewN | apply Kd.R_drew));exact Kd.R_mono (Kd.R_far (p:=⟨gb250,4,none⟩) (Kd.R_far (p:=⟨gb250,3,none⟩) (Kd.R_far (p:=⟨gb250,2,none⟩) (Kd.R_far (p:=⟨gb250,1,none⟩) (Kd.R_far (p:=⟨gb250,0,none⟩) (Kd.R_types HO253.out BK250.out (by decide)) (fun _ hk=>hk.2) (.string (⟨#[114,101,110,116]⟩:ByteArray))) (fun _ hk=>hk.2) (.slice Ao7 y251.length co7)) (fun _ hk=>hk.2) (.string (⟨#[53,49]⟩:ByteArray))) (fun _ hk=>hk.2) (.string (⟨#[112]⟩:ByteArray))) (fun _ hk=>hk.2) (.slice Ao6 y254.length co6)) (fun _ hk=>trivial),by (with_reducible repeat (first | apply Kd.R_alloc | apply Kd.R_drewN | apply Kd.R_drew));exact Kd.R_mono (Kd.R_far (p:=⟨gb250,4,none⟩) (Kd.R_far (p:=⟨gb250,3,none⟩) (Kd.R_far (p:=⟨gb250,2,none⟩) (Kd.R_far (p:=⟨gb250,1,none⟩) (Kd.R_far (p:=⟨gb250,0,none⟩) (Kd.R_types HO256.out BK250.out (by decide)) (fun _ hk=>hk.2) (.string (⟨#[114,101,110,116]⟩:ByteArray))) (fun _ hk=>hk.2) (.slice Ao7 y251.length co7)) (fun _ hk=>hk.2) (.string (⟨#[53,49]⟩:ByteArray))) (fun _ hk=>hk.2) (.string (⟨#[112]⟩:ByteArray))) (fun _ hk=>hk.2) (.slice Ao6 y254.length co6)) (fun _ hk=>trivial),zq29⟩
def IsS82 (w0 W:World) (g:Nat) (f0:List (S73)) (f1:Int) (f2:Bool):Prop:=∃ A0 c0,W.heap[g]?=some (.cells #[.slice A0 f0.length c0,.int .i64 f1,.bool f2] 82 (0,0))∧w0.heap.size≤g∧Kd.C k73 w0 A0 f0.length f0
theorem IsS82.fresh {w0 W:World} {g:Nat} {f0:List (S73)} {f1:Int} {f2:Bool} (h:IsS82 w0 W g f0 f1 f2):∀ k,W.heap.size≤k→k≠g:=by
 obtain ⟨A0,c0,hb,hg,hr0⟩:=h;exact Kd.freshB hb
theorem IsS82.drewN {w0 W:World} {g:Nat} {f0:List (S73)} {f1:Int} {f2:Bool} (h:IsS82 w0 W g f0 f1 f2) (m:Nat):IsS82 w0 (W.drewN m) g f0 f1 f2:=h
theorem IsS82.drew {w0 W:World} {g:Nat} {f0:List (S73)} {f1:Int} {f2:Bool} (h:IsS82 w0 W g f0 f1 f2):IsS82 w0 W.drew g f0 f1 f2:=h
theorem IsS82.at_ {w0 W:World} {g:Nat} {f0:List (S73)} {f1:Int} {f2:Bool} {w':World} {m:Nat} (hq:W.drewN m=w') (h:IsS82 w0 W g f0 f1 f2):IsS82 w0 w' g f0 f1 f2:=by subst hq;exact IsS82.drewN h m
theorem IsS82.apart {w0 W:World} {g:Nat} {f0:List (S73)} {f1:Int} {f2:Bool} {α:Type} {d:Kd α} {e:Nat} {base:Nat} {ok:Nat→Prop} {v:Value} {xs:List α} (h:IsS82 w0 W g f0 f1 f2) (ho:d.R e W base ok v xs) (ht:∀ q,q∈e :: d.E→q≠82):d.R e W base (fun k=>ok k∧k≠g) v xs:=by
 obtain ⟨A0,c0,hb,hg,hr0⟩:=h;exact Kd.R_types ho hb ht
theorem IsS82.lt {w0 W:World} {g:Nat} {f0:List (S73)} {f1:Int} {f2:Bool} (h:IsS82 w0 W g f0 f1 f2):g < W.heap.size:=by
 obtain ⟨A0,c0,hb,hg,hr0⟩:=h;exact blk_lt hb
structure RL (ok:Nat→Prop) (w0 w wr:World) (g g2 g4:Nat) (L:List S73) (at_:Int) (fl:Bool) (nm:ByteArray) (cs:List S48) (acc par:ByteArray) (tg:List S50) (vs:List S87) (vC vT vV:Value):Prop where
  hI:IsS82 w0 wr g L at_ fl
  hB:Below w0.heap.size w0 wr
  hK:KeepBut w wr g none
  b4:wr.heap[g4]?=some (.cells #[.string nm,vC,.string acc,.string par,vT] 25 (0,0))
  b2:wr.heap[g2]?=some (.cells cells25Z 25 (0,0))
  rC:Kd.R k48 48 wr w.heap.size ok vC cs
  rT:Kd.R k50 50 wr w.heap.size ok vT tg
  rV:Kd.R k87 87 wr w.heap.size ok vV vs
  e2:w.heap.size≤g2
  e4:w.heap.size≤g4
  ne:g2≠g4
  hw0:w0.heap.size≤w.heap.size
end Go.Proofs.YtkbgkekegjfkfaaGreatDoor.A
namespace Go.Proofs.YtkbgkekegjfkfaaGreatDoor.A
open Go.RowKit B WW WL WM
attribute [local go_sem] max2_int min2_int max_two min_two max_three min_three max_four min_four
set_option maxHeartbeats 8000000
set_option maxRecDepth 100000
section
variable {ok:Nat→Prop} {w0 w wr w1:World} {g g2 g4:Nat} {L:List S73} {at_:Int} {fl:Bool} {nm:ByteArray} {cs:List S48} {acc par:ByteArray} {tg:List S50} {vs:List S87} {vC vT vV:Value}
theorem RL.mono (h:RL ok w0 w wr g g2 g4 L at_ fl nm cs acc par tg vs vC vT vV) {ok':Nat→Prop} (hm:∀ k,ok k→ok' k):RL ok' w0 w wr g g2 g4 L at_ fl nm cs acc par tg vs vC vT vV :=
  ⟨h.hI,h.hB,h.hK,h.b4,h.b2,Kd.R_mono h.rC hm,Kd.R_mono h.rT hm,Kd.R_mono h.rV hm,h.e2,h.e4,h.ne,h.hw0⟩
theorem RL.fresh (h:RL ok w0 w wr g g2 g4 L at_ fl nm cs acc par tg vs vC vT vV):RL (fun k=>k≠wr.heap.size) w0 w wr g g2 g4 L at_ fl nm cs acc par tg vs vC vT vV :=
  ⟨h.hI,h.hB,h.hK,h.b4,h.b2,Kd.R_mono (Kd.R_bound h.rC) (fun k hk=>Nat.ne_of_lt hk.2.2.1),Kd.R_mono (Kd.R_bound h.rT) (fun k hk=>Nat.ne_of_lt hk.2.2.1),Kd.R_mono (Kd.R_bound h.rV) (fun k hk=>Nat.ne_of_lt hk.2.2.1),h.e2,h.e4,h.ne,h.hw0⟩
end
end Go.Proofs.YtkbgkekegjfkfaaGreatDoor.A
namespace Go.Proofs.YtkbgkekegjfkfaaGreatDoor.B
open Go.ChangeShapes
set_option maxRecDepth 100000 in
theorem maxLen_some {W:World} (h:W.ShapedOpen Tryz.prog):∃ m,W.cell? ⟨2,0,none⟩=some (.int .i64 m) :=
  cell_of_shapedOpen_int (t:=3) (zero:=#[.int .i64 0]) h (of_decide_eq_true (by kernel_rfl)) (by kernel_rfl) rfl (by kernel_rfl) (by kernel_rfl) Tryz.underlying3
end Go.Proofs.YtkbgkekegjfkfaaGreatDoor.B
namespace Go.Proofs.YtkbgkekegjfkfaaGreatDoor.A
open Go.RowKit B WW WL WM
structure SmallR (nm:ByteArray) (cs:List S48) (acc par:ByteArray) (tg:List S50):Prop where
  lc:cs.length≤20
  lt:tg.length≤20
  ln:nm.size+acc.size+par.size≤400
  c:∀ x∈cs,x.f2.size≤400
  t:∀ x∈tg,x.f0.size+x.f1.size≤400
end Go.Proofs.YtkbgkekegjfkfaaGreatDoor.A
namespace Go.Proofs.YtkbgkekegjfkfaaGreatDoor.A
open Go.RowKit B WW WL WM
section
variable {nm:ByteArray} {cs:List S48} {acc par:ByteArray} {tg:List S50}
theorem SmallR.st (h:SmallR nm cs acc par tg):ShortT tg:=fun x hx=>by have:=h.t x hx;omega
end
end Go.Proofs.YtkbgkekegjfkfaaGreatDoor.A
