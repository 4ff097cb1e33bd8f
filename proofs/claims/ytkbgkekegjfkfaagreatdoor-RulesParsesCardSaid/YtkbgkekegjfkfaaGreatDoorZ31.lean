-- By pack.py, a program of this session's.
import Derived.Test.YtkbgkekegjfkfaaGreatDoorZ26
import Derived.Test.YtkbgkekegjfkfaaGreatDoorZ27
import Derived.Test.YtkbgkekegjfkfaaGreatDoorZ28
set_option linter.unusedVariables false
set_option linter.unusedSimpArgs false
namespace Go.Proofs.YtkbgkekegjfkfaaGreatDoor
namespace A
open Go.RowKit B WW WL WM
theorem days_Parse_ev (l:List UInt8) (hl:l.length≤140737488351232):Ev (fun k=>days_Parse.f k (oL l)) (dparse l):=by
  unfold days_Parse.f;rw [oL_size];have b4:=bt45 l 4;have b7:=bt45 l 7;have no:¬ DP l→Ev (fun _=>some ((0:Int),(5:Int))) (dparse l):=fun h=>Ev.is (dparse_no h)
  refine Ev.yes hl (Ev.both (fun h=>?_) (fun h=>no (fun x=>h x.1)));refine Ev.both (fun h4=>?_) (fun h4=>no (fun x=>h4 (b4.mpr x.2.1)));refine Ev.both (fun h7=>?_) (fun h7=>no (fun x=>h7 (b7.mpr x.2.2.1)));rw [show (fun k=>days_Parse.rem k (oL l) 3 0 0 0)=(fun k=>(days_number.f k ((oL l).extract 0 4)).bind fun c=>if c.2=true then days_Parse.rem k (oL l) 2 c.1 0 0 else some (0,5)) from funext fun k=>by rw [days_Parse.rem]];rw [oL_extract,List.drop_zero];refine Ev.bind (days_number_ev (l.take 4) (by rw [List.length_take];omega)) ?_;by_cases a1:(l.take 4).all isDig=true
  · rw [if_pos a1]
    refine Ev.yes rfl ?_;rw [show (fun k=>days_Parse.rem k (oL l) 2 (dval (l.take 4)) 0 0)=(fun k=>(days_number.f k ((oL l).extract 5 7)).bind fun c=>if c.2=true then days_Parse.rem k (oL l) 1 (dval (l.take 4)) c.1 0 else some (0,5)) from funext fun k=>by rw [days_Parse.rem]];rw [oL_extract];refine Ev.bind (days_number_ev ((l.take 7).drop 5) (by rw [List.length_drop,List.length_take];omega)) ?_;by_cases a2:((l.take 7).drop 5).all isDig=true
    · rw [if_pos a2]
      refine Ev.yes rfl ?_;rw [show (fun k=>days_Parse.rem k (oL l) 1 (dval (l.take 4)) (dval ((l.take 7).drop 5)) 0)=(fun k=>(days_number.f k ((oL l).extract 8 10)).bind fun c=>if c.2=true then days_Of.f k (dval (l.take 4)) (dval ((l.take 7).drop 5)) c.1 else some (0,5)) from funext fun k=>by rw [days_Parse.rem]];rw [oL_extract,show l.take 10=l by rw [← h,List.take_length]];refine Ev.bind (days_number_ev (l.drop 8) (by rw [List.length_drop];omega)) ?_;by_cases a3:(l.drop 8).all isDig=true
      · rw [if_pos a3,show dparse l=ofS (dval (l.take 4)) (dval ((l.take 7).drop 5)) (dval (l.drop 8)) from if_pos ⟨h,b4.mp h4,b7.mp h7,a1,a2,a3⟩]
        exact Ev.yes rfl (days_Of_any _ _ _)
      · rw [if_neg a3]
        exact Ev.no (by decide) (no (fun x=>a3 x.2.2.2.2.2))
    · rw [if_neg a2]
      exact Ev.no (by decide) (no (fun x=>a2 x.2.2.2.2.1))
  · rw [if_neg a1]
    exact Ev.no (by decide) (no (fun x=>a1 x.2.2.2.1))
theorem ref04_Parse_ev (l:List UInt8):Ev (fun k=>rf04_Parse.f k (oL l)) (dparse l):=by
  have bad:¬ DP l→Ev (fun k=>rf04_Parse.j0 k (oL l) true) (dparse l):=fun h=>by
    refine Ev.step (fun k=>by rw [rf04_Parse.j0]) ?_;exact Ev.yes rfl (Ev.is (dparse_no h))
  unfold rf04_Parse.f;have b4:=bt45 l 4;have b7:=bt45 l 7;by_cases h:l.length=10
  rotate_left
  · exact Ev.no (by rw [oL_size];omega) (bad (fun x=>h x.1))
  have ne4:l.take 4≠[]:=fun x=>by have:=congrArg List.length x;rw [List.length_take] at this;simp only [List.length_nil] at this;omega
  have ne7:(l.take 7).drop 5≠[]:=fun x=>by have:=congrArg List.length x;rw [List.length_drop,List.length_take] at this;simp only [List.length_nil] at this;omega
  have ne8:l.drop 8≠[]:=fun x=>by have:=congrArg List.length x;rw [List.length_drop] at this;simp only [List.length_nil] at this;omega
  refine Ev.yes (by rw [oL_size];omega) (Ev.yes (by omega) (Ev.yes (by rw [oL_size];omega) ?_));rw [oL_extract,oL_extract,oL_tail,List.drop_zero];refine Ev.bind (r1digits_part (l.take 4) (by rw [List.length_take];omega) ne4) (Ev.both (fun a1=>?_) (fun a1=>bad (fun x=>a1 x.2.2.2.1)));refine Ev.yes (by rw [oL_size];omega) (Ev.both (fun h4=>?_) (fun h4=>bad (fun x=>h4 (b4.mpr x.2.1))));refine Ev.yes (by omega) (Ev.yes (by rw [oL_size];omega) ?_);refine Ev.bind (r1digits_part ((l.take 7).drop 5) (by rw [List.length_drop,List.length_take];omega) ne7) (Ev.both (fun a2=>?_) (fun a2=>bad (fun x=>a2 x.2.2.2.2.1)));refine Ev.yes (by rw [oL_size];omega) (Ev.both (fun h7=>?_) (fun h7=>bad (fun x=>h7 (b7.mpr x.2.2.1))));refine Ev.yes (by rw [oL_size];omega) ?_;refine Ev.bind (r1digits_part (l.drop 8) (by rw [List.length_drop];omega) ne8) ?_;by_cases a3:(l.drop 8).all isDig=true
  rotate_left
  · rw [Bool.eq_false_iff.mpr a3]
    exact bad (fun x=>a3 x.2.2.2.2.2)
  rw [a3,show dparse l=ofS (dval (l.take 4)) (dval ((l.take 7).drop 5)) (dval (l.drop 8)) from if_pos ⟨h,b4.mp h4,b7.mp h7,a1,a2,a3⟩];refine Ev.step (fun k=>by rw [rf04_Parse.j0]) (Ev.no (by decide) (Ev.yes (by omega) (Ev.yes (by rw [oL_size];omega) ?_)));rw [oL_extract,oL_extract,oL_tail,List.drop_zero];refine Ev.bind (ref04_value_ev (l.take 4) (by rw [List.length_take];omega) a1) (Ev.yes (by omega) (Ev.yes (by rw [oL_size];omega) ?_));refine Ev.bind (ref04_value_ev ((l.take 7).drop 5) (by rw [List.length_drop,List.length_take];omega) a2) (Ev.yes (by rw [oL_size];omega) ?_);refine Ev.bind (ref04_value_ev (l.drop 8) (by rw [List.length_drop];omega) a3) ?_;exact Ev.bind (ref04_Of_any _ _ _) (Ev.is rfl)
theorem r6Code_l0 (L:List UInt8) (hL:L.length≤1000000) (R:List UInt8):∀ P:List UInt8,P++R=L→P.all isWdB=true→Ev (fun k=>rf06_Code.l0 k (oL L) (P.length:Int)) (codeW L):=by
  induction R with
 |nil =>
    intro P h hP;rw [List.append_nil] at h;subst h;refine Ev.step (fun k=>by rw [rf06_Code.l0]) (Ev.no (by rw [oL_size];omega) ?_);rw [oL_size];unfold codeW;rw [hP,Bool.and_true];refine Ev.both (fun e=>Ev.is ?_) (fun e=>Ev.is ?_)
    · have:P.isEmpty=false:=by cases P with
       |nil=>simp at e
       |cons c r=>rfl
      rw [this];show _=(decide (P.length≤12))
      rw [Bool.eq_iff_iff,decide_eq_true_iff,decide_eq_true_iff];omega
    · have:P=[]:=List.eq_nil_of_length_eq_zero (by omega)
      subst this;rfl
 |cons c r ih =>
    intro P h hP;have hl:P.length+(r.length+1)=L.length:=by rw [← h,List.length_append,List.length_cons]
    have hg:L.getD P.length 0=c:=by rw [← h,List.getD_eq_getElem?_getD,List.getElem?_append_right (Nat.le_refl _),Nat.sub_self];rfl
    refine Ev.step (fun k=>by rw [rf06_Code.l0]) (Ev.yes (by rw [oL_size];omega) (Ev.yes (by omega) ?_));rw [bt_oL,hg,r6letter_eq,r6digit_eq,w_next P.length (by omega)];simp only [Option.bind_some]
    have key:isWdB c=true→Ev (fun k=>rf06_Code.l0 k (oL L) ((P.length+1:Nat):Int)) (codeW L):=fun hc=>by
      have:=ih (P++[c]) (by rw [List.append_assoc];exact h) (by rw [List.all_append,hP,List.all_cons,hc];rfl);rw [List.length_append,List.length_singleton] at this;exact this
    refine Ev.both (fun a=>key (by rw [isWdB_eq,a];rfl)) (fun a=>Ev.both (fun b=>key (by rw [isWdB_eq,b,Bool.or_true])) (fun b=>Ev.is ?_));unfold codeW
    have:L.all isWdB=false:=by
      rw [← h,List.all_append,List.all_cons,isWdB_eq,Bool.eq_false_iff.mpr a,Bool.eq_false_iff.mpr b];simp
    rw [this,Bool.and_false,Bool.and_false]
theorem ref06_Code_ev (L:List UInt8) (hL:L.length≤1000000):Ev (fun k=>rf06_Code.f k (oL L)) (codeW L):=by
  unfold rf06_Code.f;exact r6Code_l0 L hL L [] rfl rfl
theorem ref06_Code_at (s:ByteArray) (hs:s.size≤1000000):Ev (fun k=>rf06_Code.f k s) (codeW s.data.toList):=ref06_Code_ev s.data.toList (by rw [← size_eq'];exact hs)
theorem r48_cond_ev (c:S48) (hz:c.f2.size≤1000000):Ev (fun k=>rf48_condition.f k c.f0 c.f1 c.f2 c.f3) (condS c):=by
  have j2:∀ b:Bool,b=!(rangB c)→Ev (fun k=>rf48_condition.j2 k b c.f0 c.f1 c.f2 c.f3) (condR c):=fun b hb=>by
    refine Ev.step (fun k=>by rw [rf48_condition.j2]) ?_;unfold condR
    cases r:rangB c with
   |false=>rw [hb,r,if_neg (by decide)];exact Ev.yes rfl (Ev.is rfl)
   |true =>
      rw [hb,r,if_pos rfl];refine Ev.no (by decide) ?_;rw [r48_number_eq];simp only [Option.bind_some]
      unfold formB numB;refine Ev.both (fun n=>?_) (fun n=>?_)
      · rw [decide_eq_true_iff] at n
        rw [if_pos n];refine Ev.both (fun l=>Ev.yes (decide_eq_true n) (Ev.is ?_)) (fun l=>Ev.is ?_)
        · rw [if_pos (beq_iff_eq.mpr l)]
        · rw [if_neg (by rw [beq_iff_eq];exact l)]
      · rw [decide_eq_true_iff] at n
        rw [if_neg n];refine Ev.no (by rw [decide_eq_true_iff];exact n) ?_;exact Ev.bind (ref06_Plain_at _ hz) (Ev.both (fun p=>Ev.is (by rw [if_pos p])) (fun p=>Ev.is (by rw [if_neg p])))
  have nn:∀ b:Bool,∀ A:Nat→Option Int,numB c.f0=b→∀ r,Ev A r→Ev A r:=fun _ _ _ _ h=>h
  have j1:∀ b:Bool,(b=false ↔ suitB c.f0 c.f1=true)→1≤c.f0∧c.f0≤4→Ev (fun k=>rf48_condition.j1 k b c.f0 c.f1 c.f2 c.f3) (condS c):=fun b hb hf=>by
    refine Ev.step (fun k=>by rw [rf48_condition.j1]) ?_;unfold condS;refine Ev.both (fun e=>Ev.is ?_) (fun e=>?_)
    · rw [if_neg (fun x=>by rw [hb.mpr x] at e;cases e)]
    rw [if_pos (hb.mp (Bool.eq_false_iff.mpr e)),r48_number_eq,r04_Is_eq];simp only [Option.bind_some]
    have z:∀ (n:numB c.f0=true) ,rangB c=true→Ev (fun k=>if numB c.f0=true then rf48_condition.j2 k false c.f0 c.f1 c.f2 c.f3 else rf48_condition.j2 k (c.f3 != 0) c.f0 c.f1 c.f2 c.f3) (condR c):=fun n r=>Ev.yes n (j2 _ (by rw [r];rfl))
    have z':∀ (n:¬ numB c.f0=true) ,(rangB c=true ↔ c.f3=0)→Ev (fun k=>if numB c.f0=true then rf48_condition.j2 k false c.f0 c.f1 c.f2 c.f3 else rf48_condition.j2 k (c.f3 != 0) c.f0 c.f1 c.f2 c.f3) (condR c):=fun n r=>Ev.no n (j2 _ (by
      by_cases h:c.f3=0
      · rw [r.mpr h,h];rfl
      · rw [Bool.eq_false_iff.mpr (fun x=>h (r.mp x)),bne_iff_ne.mpr h];rfl))
    have nt:(c.f0=1∨c.f0=4)→numB c.f0=true:=fun h=>decide_eq_true h
    have nf:¬ (c.f0=1∨c.f0=4)→¬ numB c.f0=true:=fun h x=>h (of_decide_eq_true x)
    refine Ev.both (fun h1=>Ev.both (fun a=>j2 _ ?_) (fun a=>Ev.both (fun b=>j2 _ ?_) (fun b=>Ev.both (fun h4=>absurd h4 (by omega)) (fun h4=>z (nt (Or.inl h1)) ?_)))) (fun h1=>Ev.both (fun h4=>Ev.both (fun d=>z (nt (Or.inr h4)) ?_) (fun d=>j2 _ ?_)) (fun h4=>z' (nf (by omega)) ?_))
    · unfold rangB;rw [decide_eq_false (by omega)];rfl
    · unfold rangB;rw [decide_eq_false (by omega)];rfl
    · unfold rangB;exact decide_eq_true (by omega)
    · unfold dayB at d;rw [decide_eq_true_iff] at d;unfold rangB;exact decide_eq_true (by omega)
    · unfold dayB at d;rw [decide_eq_true_iff] at d;unfold rangB;rw [decide_eq_false (by omega)];rfl
    · unfold rangB;rw [decide_eq_true_iff];omega
  have j0:∀ b:Bool,(b=false ↔ 1≤c.f0∧c.f0≤4)→Ev (fun k=>rf48_condition.j0 k b c.f0 c.f1 c.f2 c.f3) (condS c):=fun b hb=>by
    refine Ev.step (fun k=>by rw [rf48_condition.j0]) ?_;refine Ev.both (fun e=>Ev.is ?_) (fun e=>?_)
    · unfold condS suitB
      rw [if_neg];rw [decide_eq_true_iff];intro x;rw [hb.mpr ⟨x.1,x.2.1⟩] at e;cases e
    have hf:=hb.mp (Bool.eq_false_iff.mpr e);rw [r48_number_eq];simp only [Option.bind_some]
    have s1:suitB c.f0 c.f1=true ↔ 1≤c.f0∧c.f0≤4∧(c.f1=1∨(c.f0=1∨c.f0=4)∧(c.f1=2∨c.f1=3)∨¬ (c.f0=1∨c.f0=4)∧(c.f1=4∨c.f1=5)):=decide_eq_true_iff;have tt:∀ p:Prop,(true=false ↔ p) ↔ ¬ p:=fun p=>⟨fun h q=>(by cases h.mpr q),fun h=>⟨fun q=>(by cases q),fun q=>absurd q h⟩⟩
    have ff:∀ p:Prop,(false=false ↔ p) ↔ p:=fun p=>⟨fun h=>h.mp rfl,fun h=>⟨fun _=>h,fun _=>rfl⟩⟩
    refine Ev.both (fun n=>?_) (fun n=>?_)
    · have hn:c.f0=1∨c.f0=4:=of_decide_eq_true n
      refine Ev.both (fun a=>j1 _ ((tt _).mpr (by rw [s1];omega)) hf) (fun a=>Ev.both (fun b=>j1 _ ((tt _).mpr (by rw [s1];omega)) hf) (fun b=>Ev.yes n (j1 _ ((ff _).mpr (by rw [s1];omega)) hf)))
    · have hn:¬ (c.f0=1∨c.f0=4):=fun x=>n (decide_eq_true x)
      refine Ev.no n (Ev.both (fun a=>j1 _ ((ff _).mpr (by rw [s1];omega)) hf) (fun a=>Ev.both (fun b=>j1 _ ((ff _).mpr (by rw [s1];omega)) hf) (fun b=>j1 _ ?_ hf)));rw [s1,bne_eq_false_iff_eq];omega
  unfold rf48_condition.f;refine Ev.both (fun a=>j0 _ ⟨fun x=>(by cases x),fun x=>(by omega)⟩) (fun a=>j0 _ ?_);rw [decide_eq_false_iff_not];omega
theorem r09_named_ev (a b:ByteArray) (ha:a.size≤1000000) (hb:b.size≤1000000):Ev (fun k=>rf09_named.f k a b) (codeW a.data.toList && codeW b.data.toList):=by
  unfold rf09_named.f;exact Ev.bind (ref06_Code_at a ha) (Ev.both (fun e=>Ev.bind (ref06_Code_at b hb) (Ev.is (by rw [e,Bool.true_and]))) (fun e=>Ev.is (by rw [Bool.eq_false_iff.mpr e,Bool.false_and])))
theorem r09_Right_l0 (tg:List S50) (hs:ShortT tg) (hl:tg.length≤1000) (R:List S50):∀ i:Nat,tg.drop i=R→Ev (fun k=>rf09_Right.l0 k tg (i:Int)) (tagL (prevT tg i) R && decide (tg.length≤6)):=by
  induction R with
 |nil =>
    intro i h;have:=List.drop_eq_nil_iff.mp h;refine Ev.step (fun k=>by rw [rf09_Right.l0]) (Ev.no (by omega) (Ev.is ?_));rw [tagL_nil,Bool.true_and,Bool.eq_iff_iff,decide_eq_true_iff,decide_eq_true_iff];omega
 |cons x r ih =>
    intro i h;obtain ⟨hi,hx,hr⟩:=rd50_at h;have hm:=hs x (List.mem_of_mem_drop (i:=i) (by rw [h];exact List.mem_cons_self));refine Ev.step (fun k=>by rw [rf09_Right.l0]) (Ev.yes (by omega) (Ev.yes (by omega) ?_));rw [hx,w_next i (by omega),tagL_cons];have hp:prevT tg (i+1)=some x.f0:=by unfold prevT;rw [if_neg (by omega),show i+1 - 1=i by omega,hx]
    have ih':=ih (i+1) hr;rw [hp] at ih';refine Ev.bind (r09_named_ev _ _ hm.1 hm.2) (Ev.both (fun e=>?_) (fun e=>Ev.is (by rw [Bool.eq_false_iff.mpr e];simp)));rw [e];by_cases h0:i=0
    · subst h0
      refine Ev.no (by omega) ?_;simpa [prevT] using ih'
    · refine Ev.yes (by omega) ?_
      rw [w_in (x:=(i:Int) - 1) (by omega)];refine Ev.yes (by omega) (Ev.yes (by omega) ?_);have e1:(i:Int) - 1=((i - 1:Nat):Int):=by omega
      rw [e1];unfold prevT;rw [if_neg h0];refine Ev.both (fun b=>?_) (fun b=>Ev.is ?_)
      · simpa [b] using ih'
      · simp [Bool.eq_false_iff.mpr b]
theorem r09_Right_ev (tg:List S50) (hs:ShortT tg) (hl:tg.length≤1000):Ev (fun k=>rf09_Right.f k tg) (tagsOk tg):=by
  unfold rf09_Right.f;have:=r09_Right_l0 tg hs hl tg 0 rfl;rw [Bool.and_comm] at this;exact this
theorem r48_Check_l0 (nm acc par:ByteArray) (tg:List S50) (cs:List S48) (hs:ShortC cs) (hl:cs.length≤1000) (R:List S48):∀ i:Nat,cs.drop i=R→Ev (fun k=>rf48_Check.l0 k (i:Int) nm cs acc par tg) (checkC R):=by
  induction R with
 |nil =>
    intro i h;have:=List.drop_eq_nil_iff.mp h;refine Ev.step (fun k=>by rw [rf48_Check.l0]) ?_;exact Ev.no (by omega) (Ev.is rfl)
 |cons x r ih =>
    intro i h;obtain ⟨hi,hx,hr⟩:=rd48_at h;have hm:=hs x (List.mem_of_mem_drop (i:=i) (by rw [h];exact List.mem_cons_self));refine Ev.step (fun k=>by rw [rf48_Check.l0]) (Ev.yes (by omega) (Ev.yes (by omega) ?_));rw [hx,w_next i (by omega),checkC];exact Ev.bind (r48_cond_ev x hm) (Ev.both (fun e=>by rw [if_pos e];exact ih (i+1) hr) (fun e=>Ev.is (by rw [if_neg e])))
theorem r48_Check_ev (nm:ByteArray) (cs:List S48) (acc par:ByteArray) (tg:List S50) (h1:nm.size≤1000000) (h2:acc.size≤1000000) (h3:par.size≤1000000) (hc:ShortC cs) (ht:ShortT tg) (hl:tg.length≤1000) :
    Ev (fun k=>rf48_Check.f k nm cs acc par tg) (checkS nm cs acc par tg):=by
  have j:∀ b:Bool,b=!(nameB nm acc par)→Ev (fun k=>rf48_Check.j0 k b nm cs acc par tg) (checkS nm cs acc par tg):=fun b hb=>by
    refine Ev.step (fun k=>by rw [rf48_Check.j0]) ?_;unfold checkS
    cases n:nameB nm acc par with
   |false=>rw [hb,n,if_neg (by decide)];exact Ev.yes rfl (Ev.is rfl)
   |true =>
      rw [hb,n,if_pos rfl];refine Ev.no (by decide) (Ev.bind (r09_Right_ev tg ht hl) (Ev.both (fun e=>?_) (fun e=>Ev.is (by rw [if_neg e]))));rw [if_pos e];refine Ev.both (fun a=>Ev.is (by rw [if_pos (by omega)])) (fun a=>Ev.both (fun b=>Ev.is (by rw [if_neg (by omega),if_pos (by omega)])) (fun b=>?_));rw [if_neg (by omega),if_neg (by omega)];exact r48_Check_l0 nm acc par tg cs hc (by omega) cs 0 rfl
  unfold rf48_Check.f;unfold nameB at j;refine Ev.bind (ref06_Code_at _ h1) (Ev.both (fun a=>Ev.bind (ref06_Code_at _ h2) (Ev.both (fun b=>Ev.both (fun c=>j _ ?_) (fun c=>Ev.bind (ref06_Code_at _ h3) (j _ ?_))) (fun b=>j _ ?_))) (fun a=>j _ ?_))
  · rw [a,b,decide_eq_true c];rfl
  · rw [a,b,decide_eq_false c];simp
  · rw [a,Bool.eq_false_iff.mpr b];rfl
  · rw [Bool.eq_false_iff.mpr a];rfl
theorem tags_agree (s:ByteArray) (L:List S73) (hL:L.length≤400) (hS:∀ x∈L,x.f1.size≤1000) (nm:ByteArray) (C:List S48) (acc par:ByteArray) (X:List S73) (d:Nat):∀ (R:List S73) (i:Nat) (st:Int) (G:List S50),R.length≤d→L.drop i=R→i≤L.length→G.length≤i→ShortT G →
    (st=13∨st=8∧∀ x r,R=x :: r→¬ keyB x partyB=true) →
    ∃ t,Ev (fun k=>rule_tg L k (i:Int) false G) t ∧
      ((t.2.1=(L.length:Int)∧t.2.2=false∧t.1.length≤400∧ShortT t.1∧∀ v,(∀ st,(st=13∨st=8)→Ev (fun k=>finP k s (⟨nm,C,acc,par,t.1,st,X⟩,0,0)) v)→Ev (fun k=>runP k s R ⟨nm,C,acc,par,G,st,X⟩) v) ∨
       (∃ j:Nat,t.2.1=(j:Int)∧(t.2.2=true∨j < L.length)∧Ev (fun k=>runP k s R ⟨nm,C,acc,par,G,st,X⟩) (deadR s L j))):=by
  induction d with
 |zero =>
    intro R i st G hd h hi hG hsG hst;have hR:R=[]:=List.length_eq_zero_iff.mp (by omega);subst hR;have hle:=List.drop_eq_nil_iff.mp h;refine ⟨(G,(i:Int),false),?_,Or.inl ⟨by show (i:Int)=_;omega,rfl,by show G.length≤400;omega,hsG,fun v K=>runP_nil (K st (by omega))⟩⟩;refine Ev.step (fun k=>by rw [rule_tg,is_end h]) ?_;exact Ev.is rfl
 |succ d ih =>
    intro R i st G hd h hi hG hsG hst
    cases R with
   |nil =>
      have hle:=List.drop_eq_nil_iff.mp h;refine ⟨(G,(i:Int),false),?_,Or.inl ⟨by show (i:Int)=_;omega,rfl,by show G.length≤400;omega,hsG,fun v K=>runP_nil (K st (by omega))⟩⟩;refine Ev.step (fun k=>by rw [rule_tg,is_end h]) ?_;exact Ev.is rfl
   |cons x r =>
      obtain ⟨hi1,_,hr⟩:=rd73_at h;have his:=is_at h (by omega) tagB;by_cases e:keyB x tagB=true
      case neg =>
        rw [Bool.eq_false_iff.mpr e,if_neg (by decide)] at his;refine ⟨(G,(i:Int),false),?_,Or.inr ⟨i,rfl,Or.inr hi1,?_⟩⟩
        · refine Ev.step (fun k=>by rw [rule_tg,his]) ?_
          exact Ev.is rfl
        · have e':keyB x (oL [116,97,103])=false:=Bool.eq_false_iff.mpr e
          rcases hst with rfl|⟨rfl,hp⟩
          · exact runP_fail h (Ev.congr (fun k=>mv13 _ _ _ _ _ _ _ _ _) (Ev.is (by rw [e'];rfl)))
          · have hp':¬ keyB x (oL [112,97,114,116,121])=true:=hp x r rfl
            exact runP_fail h (Ev.congr (fun k=>mv8 _ _ _ _ _ _ _ _ _) (Ev.is (by rw [if_neg hp',e'];rfl)))
      rw [e,if_pos rfl] at his;have e':keyB x (oL [116,97,103])=true:=e
      have M:∀ v,Ev (fun k=>runP k s r ⟨nm,C,acc,par,G,10,X⟩) v→Ev (fun k=>runP k s (x :: r) ⟨nm,C,acc,par,G,st,X⟩) v:=fun v hv=>by
        rcases hst with rfl|⟨rfl,hp⟩
        · exact runP_step (p':=⟨nm,C,acc,par,G,13,X⟩) (st:=10) (Ev.congr (fun k=>mv13 _ _ _ _ _ _ _ _ _) (Ev.is (by rw [e'];rfl))) (by decide) hv
        · have hp':¬ keyB x (oL [112,97,114,116,121])=true:=hp x r rfl
          exact runP_step (p':=⟨nm,C,acc,par,G,8,X⟩) (st:=10) (Ev.congr (fun k=>mv8 _ _ _ _ _ _ _ _ _) (Ev.is (by rw [if_neg hp',e'];rfl))) (by decide) hv
      cases r with
     |nil =>
        exact ⟨_,tg_go his (code_end hr) (sign_dead _ _) (code_dead _ _) (by omega) (tg_dead _ _ _),Or.inr ⟨i+1,rfl,Or.inl rfl,M _ (runP_end hr (by show ¬ ((10:Int)=8∨(10:Int)=13);decide))⟩⟩
     |cons x2 r =>
      obtain ⟨hi2,_,hr2⟩:=rd73_at hr;by_cases e2:codeX x2=true
      case neg =>
        refine ⟨_,tg_go his (code_no hr (by omega) e2) (sign_dead _ _) (code_dead _ _) (by omega) (tg_dead _ _ _),Or.inr ⟨i+1,rfl,Or.inl rfl,M _ (runP_fail hr (Ev.congr (fun k=>mv10 _ _ _ _ _ _ _ _ _) (Ev.yes (by omega) (Ev.is (by rw [Bool.eq_false_iff.mpr e2];rfl)))))⟩⟩
      replace M:∀ v,Ev (fun k=>runP k s r ⟨nm,C,acc,par,G++[⟨x2.f1,⟨#[]⟩⟩],11,X⟩) v→Ev (fun k=>runP k s (x :: x2 :: r) ⟨nm,C,acc,par,G,st,X⟩) v:=fun v hv =>
        M v (runP_step (p':=⟨nm,C,acc,par,G++[⟨x2.f1,⟨#[]⟩⟩],10,X⟩) (st:=11) (Ev.congr (fun k=>mv10 _ _ _ _ _ _ _ _ _) (Ev.yes (by omega) (Ev.is (by rw [e2];rfl)))) (by decide) hv)
      have hcode:=code_yes hr (by omega) e2
      cases r with
     |nil =>
        exact ⟨_,tg_go his hcode (sign_end hr2) (code_dead _ _) (by omega) (tg_dead _ _ _),Or.inr ⟨i+1+1,rfl,Or.inl rfl,M _ (runP_end hr2 (by show ¬ ((11:Int)=8∨(11:Int)=13);decide))⟩⟩
     |cons x3 r =>
      obtain ⟨hi3,_,hr3⟩:=rd73_at hr2;by_cases e3:eqX x3=true
      case neg =>
        refine ⟨_,tg_go his hcode (sign_no hr2 (by omega) e3) (code_dead _ _) (by omega) (tg_dead _ _ _),Or.inr ⟨i+1+1,rfl,Or.inl rfl,M _ (runP_fail hr2 (Ev.congr (fun k=>mv11 _ _ _ _ _ _ _ _ _) (Ev.is (by rw [show (decide (x3.f0=4) && (x3.f1.toList == ([61]:List UInt8)))=false from Bool.eq_false_iff.mpr e3];rfl))))⟩⟩
      replace M:∀ v,Ev (fun k=>runP k s r ⟨nm,C,acc,par,G++[⟨x2.f1,⟨#[]⟩⟩],12,X⟩) v→Ev (fun k=>runP k s (x :: x2 :: x3 :: r) ⟨nm,C,acc,par,G,st,X⟩) v:=fun v hv =>
        M v (runP_step (p':=⟨nm,C,acc,par,G++[⟨x2.f1,⟨#[]⟩⟩],11,X⟩) (st:=12) (Ev.congr (fun k=>mv11 _ _ _ _ _ _ _ _ _) (Ev.is (by rw [show (decide (x3.f0=4) && (x3.f1.toList == ([61]:List UInt8)))=true from e3];rfl))) (by decide) hv)
      have hsign:=sign_yes hr2 (by omega) e3
      cases r with
     |nil =>
        exact ⟨_,tg_go his hcode hsign (code_end hr3) (by omega) (tg_dead _ _ _),Or.inr ⟨i+1+1+1,rfl,Or.inl rfl,M _ (runP_end hr3 (by show ¬ ((12:Int)=8∨(12:Int)=13);decide))⟩⟩
     |cons x4 r =>
      obtain ⟨hi4,_,hr4⟩:=rd73_at hr3
      have mv12':∀ k,moveR k ⟨nm,C,acc,par,G++[⟨x2.f1,⟨#[]⟩⟩],12,X⟩ x4 (codeX x4)=some (⟨nm,C,acc,par,G++[⟨x2.f1,x4.f1⟩],12,X⟩,fol (codeX x4) 13):=fun k=>by
        rw [mv12,if_pos (by rw [List.length_append,List.length_singleton];omega),rd50_last,set_last]
      by_cases e4:codeX x4=true
      case neg =>
        refine ⟨_,tg_go his hcode hsign (code_no hr3 (by omega) e4) (by omega) (tg_dead _ _ _),Or.inr ⟨i+1+1+1,rfl,Or.inl rfl,M _ (runP_fail hr3 (Ev.congr mv12' (Ev.is (by rw [Bool.eq_false_iff.mpr e4];rfl))))⟩⟩
      replace M:∀ v,Ev (fun k=>runP k s r ⟨nm,C,acc,par,G++[⟨x2.f1,x4.f1⟩],13,X⟩) v→Ev (fun k=>runP k s (x :: x2 :: x3 :: x4 :: r) ⟨nm,C,acc,par,G,st,X⟩) v:=fun v hv =>
        M v (runP_step (p':=⟨nm,C,acc,par,G++[⟨x2.f1,x4.f1⟩],12,X⟩) (st:=13) (Ev.congr mv12' (Ev.is (by rw [e4];rfl))) (by decide) hv)
      have mem2:x2∈L:=List.mem_of_mem_drop (i:=i+1) (by rw [hr];exact List.mem_cons_self);have mem4:x4∈L:=List.mem_of_mem_drop (i:=i+1+1+1) (by rw [hr3];exact List.mem_cons_self)
      have hsG':ShortT (G++[⟨x2.f1,x4.f1⟩]):=fun y hy=>by
        rcases List.mem_append.mp hy with hy|hy
        · exact hsG y hy
        · rw [List.mem_singleton] at hy;subst hy
          have a:=hS x2 mem2;have b:=hS x4 mem4;exact ⟨by show x2.f1.size≤_;omega,by show x4.f1.size≤_;omega⟩
      simp only [List.length_cons] at hd
      obtain ⟨t,ht,hor⟩:=ih r (i+1+1+1+1) 13 (G++[⟨x2.f1,x4.f1⟩]) (by omega) hr4 (by omega) (by rw [List.length_append,List.length_singleton];omega) hsG' (Or.inl rfl);refine ⟨t,tg_go his hcode hsign (code_yes hr3 (by omega) e4) (by omega) ht,?_⟩;rcases hor with ⟨a,b,c,c',K⟩|⟨j,a,b,K⟩
      · exact Or.inl ⟨a,b,c,c',fun v hv=>M v (K v hv)⟩
      · exact Or.inr ⟨j,a,b,M _ K⟩
theorem cond_agree (s:ByteArray) (L:List S73) (hL:L.length≤400) (nm:ByteArray) (C:List S48) (X R:List S73) (i:Nat) (h:L.drop i=R) (hi:i≤L.length) (hC:C.length≤i) (hX:X.length≤i) :
    ∃ q:QC,Ev (fun k=>rf48_Reader_cond.f k L (i:Int) false) q ∧
      ((∃ x1 x2 x3 r f o,R=x1 :: x2 :: x3 :: r∧(1≤f∧f≤4)∧q=rQ f o x3 ((i+1+1+1:Nat):Int)∧∀ v,Ev (fun k=>runP k s r ⟨nm,C++[mC f o],⟨#[]⟩,⟨#[]⟩,[],6,X++[x3]⟩) v→Ev (fun k=>runP k s R ⟨nm,C,⟨#[]⟩,⟨#[]⟩,[],3,X⟩) v) ∨
       (∃ j:Nat,q.2.2.2.2.2.2.2=((j:Int),true)∧Ev (fun k=>runP k s R ⟨nm,C,⟨#[]⟩,⟨#[]⟩,[],3,X⟩) (deadR s L j))):=by
  cases R with
 |nil=>exact ⟨_,fields_end h,Or.inr ⟨i,rfl,runP_end h (by show ¬ ((3:Int)=8∨(3:Int)=13);decide)⟩⟩
 |cons x1 r =>
  obtain ⟨hi1,_,hr⟩:=rd73_at h;have hfn:=fldN_eq x1;have hfr:=numS_field x1.f1;by_cases e1:fldN x1=0
  · refine ⟨_,fields_ev h (by omega) (fun _=>rfl) (fun q=>absurd e1 q),Or.inr ⟨i,rfl,runP_fail h (p':=⟨nm,C++[⟨numS fieldL x1.f1 0,0,⟨#[]⟩,0⟩],⟨#[]⟩,⟨#[]⟩,[],3,X⟩) (Ev.congr (fun k=>mv3 _ _ _ _ _ _ _ _ _) (Ev.yes (by omega) (Ev.is ?_)))⟩⟩
    have:decide (x1.f0=1∧numS fieldL x1.f1 0 > 0)=false:=by
      rw [decide_eq_false_iff_not];rintro ⟨a,b⟩;rw [if_pos a] at hfn;omega
    rw [this];rfl
  have a1:x1.f0=1:=Decidable.byContradiction fun z=>e1 (by rw [hfn,if_neg z])
  rw [if_pos a1] at hfn;obtain ⟨f,hf⟩:∃ f,fldN x1=f:=⟨_,rfl⟩
  rw [hf] at e1 hfn;have hf14:1≤f∧f≤4:=by omega
  have cond:∀ q:QC,Ev (fun k=>rf48_Reader_cond.l1 k 1 L ((i+1:Nat):Int) false f 0 ⟨#[]⟩ 0 0 ⟨#[]⟩ 0) q→Ev (fun k=>rf48_Reader_cond.f k L (i:Int) false) q:=fun q hq =>
    fields_ev h (by omega) (fun z=>absurd (hf.symm.trans z) e1) (fun _=>by rw [hf];exact hq)
  have M:∀ v,Ev (fun k=>runP k s r ⟨nm,C++[⟨f,0,⟨#[]⟩,0⟩],⟨#[]⟩,⟨#[]⟩,[],4,X⟩) v→Ev (fun k=>runP k s (x1 :: r) ⟨nm,C,⟨#[]⟩,⟨#[]⟩,[],3,X⟩) v:=fun v hv =>
    runP_step (p':=⟨nm,C++[⟨f,0,⟨#[]⟩,0⟩],⟨#[]⟩,⟨#[]⟩,[],3,X⟩) (st:=4) (Ev.congr (fun k=>mv3 _ _ _ _ _ _ _ _ _) (Ev.yes (by omega) (Ev.is (by rw [← hfn,decide_eq_true ⟨a1,by omega⟩];rfl)))) (by decide) hv
  cases r with
 |nil=>exact ⟨_,cond _ (oper_end f hr),Or.inr ⟨i+1,rfl,M _ (runP_end hr (by show ¬ ((4:Int)=8∨(4:Int)=13);decide))⟩⟩
 |cons x2 r =>
  obtain ⟨hi2,_,hr2⟩:=rd73_at hr;have hon:=oprN_eq hf14 x2
  have mvo:∀ b,suitB f (numS opL x2.f1 0)=b→Ev (fun k=>moveR k ⟨nm,C++[⟨f,0,⟨#[]⟩,0⟩],⟨#[]⟩,⟨#[]⟩,[],4,X⟩ x2 (codeX x2)) (⟨nm,C++[mC f (numS opL x2.f1 0)],⟨#[]⟩,⟨#[]⟩,[],4,X⟩,fol (decide (x2.f0=1) && b) 5):=fun b hb=>by
    refine Ev.congr (fun k=>mv4 _ _ _ _ _ _ _ _ _) (Ev.yes (by rw [List.length_append,List.length_singleton];omega) ?_);rw [rd48_last,set_last];refine Ev.bind (suits_at _ _) (Ev.is ?_);rw [hb];rfl
  by_cases e2:oprN f x2=0
  · refine ⟨_,cond _ (oper_ev hr (by omega) (fun _=>rfl) (fun q=>absurd e2 q)),Or.inr ⟨i+1,rfl,M _ (runP_fail hr (p':=⟨nm,C++[mC f (numS opL x2.f1 0)],⟨#[]⟩,⟨#[]⟩,[],4,X⟩) ?_)⟩⟩
    have:=mvo _ rfl
    have z:(decide (x2.f0=1) && suitB f (numS opL x2.f1 0))=false:=by
      rw [Bool.eq_false_iff];intro q;rw [Bool.and_eq_true,decide_eq_true_iff] at q;rw [if_pos q] at hon;have:=suit_rng q.2;omega
    rw [z] at this;exact this
  have a2:x2.f0=1∧suitB f (numS opL x2.f1 0)=true:=Decidable.byContradiction fun z=>e2 (by rw [hon,if_neg z])
  rw [if_pos a2] at hon;obtain ⟨o,ho⟩:∃ o,oprN f x2=o:=⟨_,rfl⟩
  rw [ho] at e2 hon
  have cond2:∀ q:QC,tailQ L ((i+1+1:Nat):Int) f o=some q→Ev (fun k=>rf48_Reader_cond.f k L (i:Int) false) q:=fun q hq =>
    cond q (oper_ev hr (by omega) (fun z=>absurd (ho.symm.trans z) e2) (fun _=>by rw [ho];exact hq))
  replace M:∀ v,Ev (fun k=>runP k s r ⟨nm,C++[mC f o],⟨#[]⟩,⟨#[]⟩,[],5,X⟩) v→Ev (fun k=>runP k s (x1 :: x2 :: r) ⟨nm,C,⟨#[]⟩,⟨#[]⟩,[],3,X⟩) v:=fun v hv=>by
    refine M v (runP_step (p':=⟨nm,C++[mC f o],⟨#[]⟩,⟨#[]⟩,[],4,X⟩) (st:=5) ?_ (by decide) hv);have:=mvo true a2.2;rw [decide_eq_true a2.1,← hon] at this;exact this
  have mvv:∀ x:S73,Ev (fun k=>moveR k ⟨nm,C++[mC f o],⟨#[]⟩,⟨#[]⟩,[],5,X⟩ x (codeX x)) (⟨nm,C++[mC f o],⟨#[]⟩,⟨#[]⟩,[],5,X++[x]⟩,if f=1∨f=4 then fol (decide (x.f0=2)) 6 else fol (decide (x.f0=3)) 6):=fun x=>by
    refine Ev.congr (fun k=>mv5 _ _ _ _ _ _ _ _ _) (Ev.yes ⟨by omega,by rw [List.length_append,List.length_singleton];omega⟩ (Ev.is ?_));rw [rd48_last];rfl
  cases r with
 |nil =>
    refine ⟨(f,o,⟨#[]⟩,0,0,⟨#[]⟩,0,((i+1+1:Nat):Int),true),cond2 _ ?_,Or.inr ⟨i+1+1,rfl,M _ (runP_end hr2 (by show ¬ ((5:Int)=8∨(5:Int)=13);decide))⟩⟩;unfold tailQ;rw [r48_number_eq,Option.bind_some,next_end hr2,next_end hr2]
    cases numB f <;> rfl
 |cons x3 r =>
  obtain ⟨hi3,hx3,hr3⟩:=rd73_at hr2;by_cases n:f=1∨f=4
  · have nb:numB f=true:=decide_eq_true n
    by_cases e3:x3.f0=2
    · refine ⟨rQ f o x3 ((i+1+1+1:Nat):Int),cond2 _ ?_,Or.inl ⟨x1,x2,x3,r,f,o,rfl,hf14,rfl,fun v hv=>M v (runP_step (p':=⟨nm,C++[mC f o],⟨#[]⟩,⟨#[]⟩,[],5,X++[x3]⟩) (st:=6) ?_ (by decide) hv)⟩⟩
      · unfold tailQ rQ
        rw [r48_number_eq,Option.bind_some,nb,if_pos rfl,if_pos rfl,next_yes hr2 (by omega) (Or.inl e3),Option.bind_some,if_neg (fun z=>Bool.noConfusion z),if_pos (by omega),if_pos (by omega),hx3]
      · have:=mvv x3
        rw [if_pos n,decide_eq_true e3] at this;exact this
    · refine ⟨(f,o,⟨#[]⟩,0,0,⟨#[]⟩,0,((i+1+1:Nat):Int),true),cond2 _ ?_,Or.inr ⟨i+1+1,rfl,M _ (runP_fail hr2 (p':=⟨nm,C++[mC f o],⟨#[]⟩,⟨#[]⟩,[],5,X++[x3]⟩) ?_)⟩⟩
      · unfold tailQ
        rw [r48_number_eq,Option.bind_some,nb,if_pos rfl,next_no hr2 (by omega) (by omega),Option.bind_some,if_pos rfl]
      · have:=mvv x3
        rw [if_pos n,decide_eq_false e3] at this;exact this
  · have nb:numB f=false:=decide_eq_false n
    by_cases e3:x3.f0=3
    · refine ⟨rQ f o x3 ((i+1+1+1:Nat):Int),cond2 _ ?_,Or.inl ⟨x1,x2,x3,r,f,o,rfl,hf14,rfl,fun v hv=>M v (runP_step (p':=⟨nm,C++[mC f o],⟨#[]⟩,⟨#[]⟩,[],5,X++[x3]⟩) (st:=6) ?_ (by decide) hv)⟩⟩
      · unfold tailQ rQ
        rw [r48_number_eq,Option.bind_some,nb,if_neg (by decide),if_neg (by decide),next_yes hr2 (by omega) (Or.inl e3),Option.bind_some]
      · have:=mvv x3
        rw [if_neg n,decide_eq_true e3] at this;exact this
    · refine ⟨(f,o,⟨#[]⟩,0,0,⟨#[]⟩,0,((i+1+1:Nat):Int),true),cond2 _ ?_,Or.inr ⟨i+1+1,rfl,M _ (runP_fail hr2 (p':=⟨nm,C++[mC f o],⟨#[]⟩,⟨#[]⟩,[],5,X++[x3]⟩) ?_)⟩⟩
      · unfold tailQ
        rw [r48_number_eq,Option.bind_some,nb,if_neg (by decide),next_no hr2 (by omega) (by omega),Option.bind_some]
      · have:=mvv x3
        rw [if_neg n,decide_eq_false e3] at this;exact this
theorem conds_agree (s:ByteArray) (L:List S73) (hL:L.length≤400) (nm:ByteArray) (d:Nat):∀ (R:List S73) (i:Nat) (P:List PC),R.length≤d→L.drop i=R→i≤L.length→P.length≤i→OkP L P →
    ∃ c:CsR,Ev (fun k=>rule_cs L k (i:Int) false (P.map rP) (vsF 0 P)) c ∧
      ((∃ P' j r,c=(P'.map rP,vsF 0 P',((j:Nat):Int),false)∧L.drop j=r∧j≤L.length∧0 < P'.length∧P'.length≤400∧OkP L P'∧(∀ x t,r=x :: t→¬ keyB x (oL [97,110,100])=true) ∧
          ∀ v,Ev (fun k=>runP k s r ⟨nm,P'.map mP,⟨#[]⟩,⟨#[]⟩,[],6,P'.map (·.2.2)⟩) v→Ev (fun k=>runP k s R ⟨nm,P.map mP,⟨#[]⟩,⟨#[]⟩,[],3,P.map (·.2.2)⟩) v) ∨
       (∃ j:Nat,c.2.2=((j:Int),true)∧Ev (fun k=>runP k s R ⟨nm,P.map mP,⟨#[]⟩,⟨#[]⟩,[],3,P.map (·.2.2)⟩) (deadR s L j))):=by
  induction d with
 |zero =>
    intro R i P hd h hi hP hok;obtain ⟨q,hq,hor⟩:=cond_agree s L hL nm (P.map mP) (P.map (·.2.2)) R i h hi (by rw [List.length_map];exact hP) (by rw [List.length_map];exact hP);rcases hor with ⟨x1,x2,x3,r,f,o,hR,_⟩|⟨j,hj,K⟩
    · rw [hR] at hd;simp at hd
    · obtain ⟨ja,jb⟩:=Prod.mk.inj hj
      refine ⟨_,cs_go hq (by rw [List.length_map];omega) (by rw [hj];exact is_dead _ _ _) (fun t=>by cases t) (fun _=>rfl),Or.inr ⟨j,rfl,K⟩⟩
 |succ d ih =>
    intro R i P hd h hi hP hok;obtain ⟨q,hq,hor⟩:=cond_agree s L hL nm (P.map mP) (P.map (·.2.2)) R i h hi (by rw [List.length_map];exact hP) (by rw [List.length_map];exact hP);rcases hor with ⟨x1,x2,x3,r,f,o,hR,hf,hqq,K⟩|⟨j,hj,K⟩
    case inr =>
      refine ⟨_,cs_go hq (by rw [List.length_map];omega) (by rw [hj];exact is_dead _ _ _) (fun t=>by cases t) (fun _=>rfl),Or.inr ⟨j,rfl,K⟩⟩
    subst hR;obtain ⟨hi1,_,hr1⟩:=rd73_at h;obtain ⟨hi2,_,hr2⟩:=rd73_at hr1;obtain ⟨hi3,_,hr3⟩:=rd73_at hr2;have mem3:x3∈L:=List.mem_of_mem_drop (i:=i+1+1) (by rw [hr2];exact List.mem_cons_self);obtain ⟨p,hp⟩:∃ p:PC,p=(f,o,x3):=⟨_,rfl⟩
    have hqp:q=rQ p.1 p.2.1 p.2.2 ((i+1+1+1:Nat):Int):=by rw [hp];exact hqq
    have eC:P.map rP++[⟨q.1,q.2.1,q.2.2.1,q.2.2.2.1⟩]=(P++[p]).map rP:=by rw [hqp,rQ_c,List.map_append];rfl
    have eV:vsF 0 P++[⟨((P.map rP).length:Int),q.2.2.2.2.2.1,q.2.2.2.2.2.2.1⟩]=vsF 0 (P++[p]):=by rw [hqp,rQ_v,vsF_snoc,List.length_map,Nat.zero_add]
    have eM:P.map mP++[mC f o]=(P++[p]).map mP:=by rw [hp,List.map_append];rfl
    have eX:P.map (fun a:PC=>a.2.2)++[x3]=(P++[p]).map (fun a:PC=>a.2.2):=by rw [hp,List.map_append];rfl
    rw [eM,eX] at K
    have hok':OkP L (P++[p]):=fun y hy=>by
      rcases List.mem_append.mp hy with hy|hy
      · exact hok y hy
      · rw [List.mem_singleton] at hy;rw [hy,hp];exact ⟨hf,mem3⟩
    have hlen:(P++[p]).length=P.length+1:=by rw [List.length_append];rfl
    have hat:q.2.2.2.2.2.2.2=(((i+1+1+1:Nat):Int),false):=by rw [hqq,rQ_at]
    cases r with
   |nil =>
      refine ⟨((P++[p]).map rP,vsF 0 (P++[p]),((i+1+1+1:Nat):Int),false),cs_go hq (by rw [List.length_map];omega) (by rw [hat];exact is_end hr3 _) (fun t=>by cases t) (fun _=>by rw [eC,eV]),Or.inl ⟨P++[p],i+1+1+1,[],rfl,hr3,by omega,by omega,by omega,hok',fun x t e=>(by cases e),K⟩⟩
   |cons x r =>
    obtain ⟨hi4,_,hr4⟩:=rd73_at hr3;have his:=is_at hr3 (by omega) andB;by_cases e:keyB x (oL [97,110,100])=true
    · have e':keyB x andB=true:=e
      rw [e',if_pos rfl] at his;simp only [List.length_cons] at hd
      obtain ⟨c,hc,hor⟩:=ih r (i+1+1+1+1) (P++[p]) (by omega) hr4 (by omega) (by omega) hok'
      have M:∀ v,Ev (fun k=>runP k s r ⟨nm,(P++[p]).map mP,⟨#[]⟩,⟨#[]⟩,[],3,(P++[p]).map (·.2.2)⟩) v→Ev (fun k=>runP k s (x1 :: x2 :: x3 :: x :: r) ⟨nm,P.map mP,⟨#[]⟩,⟨#[]⟩,[],3,P.map (·.2.2)⟩) v:=fun v hv =>
        K v (runP_step (p':=⟨nm,(P++[p]).map mP,⟨#[]⟩,⟨#[]⟩,[],6,(P++[p]).map (·.2.2)⟩) (st:=3) (Ev.congr (fun k=>mv6 _ _ _ _ _ _ _ _ _) (Ev.is (by rw [if_pos e]))) (by decide) hv)
      refine ⟨c,cs_go hq (by rw [List.length_map];omega) (by rw [hat];exact his) (fun _=>by rw [eC,eV];exact hc) (fun t=>absurd rfl t),?_⟩;rcases hor with ⟨P',j,r',a1,a2,a3,a4,a5,a6,a7,a8⟩|⟨j,a,b⟩
      · exact Or.inl ⟨P',j,r',a1,a2,a3,a4,a5,a6,a7,fun v hv=>M v (a8 v hv)⟩
      · exact Or.inr ⟨j,a,M _ b⟩
    · have e':keyB x andB=false:=Bool.eq_false_iff.mpr e
      rw [e',if_neg (by decide)] at his;refine ⟨((P++[p]).map rP,vsF 0 (P++[p]),((i+1+1+1:Nat):Int),false),cs_go hq (by rw [List.length_map];omega) (by rw [hat];exact his) (fun t=>by cases t) (fun _=>by rw [eC,eV]),Or.inl ⟨P++[p],i+1+1+1,x :: r,rfl,hr3,by omega,by omega,by omega,hok',fun y t ey=>by obtain ⟨rfl,rfl⟩:=List.cons.inj ey;exact e,K⟩⟩
theorem vals_agree (L:List S73) (hS:∀ x∈L,x.f1.size≤1000) (Q:List PC):OkP L Q→∀ A:List S48,ShortC A→A.length+Q.length≤1000 →
    ∃ a b:VR,Ev (fun k=>valL k (Q.map (·.2.2)) A.length (A++Q.map mP)) a∧Ev (fun k=>r48_vals k (vsF A.length Q) (A++Q.map rP)) b ∧
      ((a.2.2=0∧b=a∧a.1.length≤1000∧ShortC a.1)∨(¬ a.2.2=0∧b.2=a.2)):=by
  induction Q with
 |nil =>
    intro _ A hA hl;refine ⟨(A,0,0),(A,0,0),Ev.is (by rw [List.map_nil,List.append_nil]),Ev.is (by rw [List.map_nil,List.append_nil]),Or.inl ⟨rfl,rfl,by show A.length≤1000;simp at hl;exact hl,hA⟩⟩
 |cons p r ih =>
    intro hok A hA hl;obtain ⟨hf,hm⟩:=hok p List.mem_cons_self;have hx:=hS _ hm;have hok':OkP L r:=fun y hy=>hok y (List.mem_cons_of_mem _ hy)
    obtain ⟨f,o,x⟩:=p;replace hx:x.f1.size≤1000:=hx;rw [List.length_cons] at hl
    have g1:∀ (y:S48) (B:List S48),rd_T48 (A++y :: B) (A.length:Int)=y:=fun y B=>by
      unfold rd_T48;rw [Int.toNat_natCast,List.getD_eq_getElem?_getD,List.getElem?_append_right (Nat.le_refl _),Nat.sub_self];rfl
    have g2:∀ (y z:S48) (B:List S48),(A++y :: B).set A.length z=(A++[z])++B:=fun y z B=>by
      rw [List.set_append_right _ _ (Nat.le_refl _),Nat.sub_self,List.append_assoc];rfl
    have hlen:∀ (y:S48) (B:List S48),A.length < (A++y :: B).length:=fun y B=>by rw [List.length_append,List.length_cons];omega
    have nx:∀ y:S48,y.f2.size≤1000000→∃ a b:VR,Ev (fun k=>valL k (r.map (·.2.2)) (A.length+1) ((A++[y])++r.map mP)) a∧Ev (fun k=>r48_vals k (vsF (A.length+1) r) ((A++[y])++r.map rP)) b ∧
      ((a.2.2=0∧b=a∧a.1.length≤1000∧ShortC a.1)∨(¬ a.2.2=0∧b.2=a.2)):=fun y hy=>by
      have:=ih hok' (A++[y]) (fun z hz=>by
        rcases List.mem_append.mp hz with hz|hz
        · exact hA z hz
        · rw [List.mem_singleton] at hz;rw [hz];exact hy) (by rw [List.length_append,List.length_singleton];omega)
      rw [List.length_append,List.length_singleton] at this;exact this
    by_cases n:f=1∨f=4
    · have nb:numB f=true:=decide_eq_true n
      have e1:rP (f,o,x)=mC f o:=by unfold rP rC;rw [show numB (f,o,x).1=true from nb,if_pos rfl];rfl
      have e2:vP A.length (f,o,x)=⟨(A.length:Int),x.f1,x.f2⟩:=by unfold vP;rw [show numB (f,o,x).1=true from nb,if_pos rfl]
      have hc:Ev (fun k=>valC k (mC f o) x) (⟨f,o,⟨#[]⟩,(valN f x).1⟩,(valN f x).2):=by
        unfold valC valN;show Ev (fun k=>if f=1 then _ else if f=4 then _ else _) _
        refine Ev.both (fun f1=>?_) (fun f1=>Ev.yes (n.resolve_left f1) ?_)
        · rw [num_Parse_at _ _ _ (by omega),if_neg (by omega)];exact Ev.is rfl
        · rw [if_pos (n.resolve_left f1)]
          have:=days_Parse_ev x.f1.data.toList (by have:=size_eq' x.f1;omega);rw [oL_data] at this;exact Ev.bind this (Ev.is rfl)
      have hr:Ev (fun k=>(rf01_Parse.f k x.f1 (-1000000000000) 1000000000000).bind fun q=>r48_n k f x.f1 q) (valN f x):=by
        refine Ev.bind (ref01_Parse _ _ _ (by omega)) ?_;unfold r48_n valN;refine Ev.both (fun f4=>?_) (fun f4=>Ev.is ?_)
        · have:=ref04_Parse_ev x.f1.data.toList
          rw [oL_data] at this;rw [if_pos f4];exact this
        · rw [if_neg f4]
      have mach:∀ a:VR,((valN f x).2=0→Ev (fun k=>valL k (r.map (·.2.2)) (A.length+1) ((A++[⟨f,o,⟨#[]⟩,(valN f x).1⟩])++r.map mP)) a)→(¬ (valN f x).2=0→((A++[⟨f,o,⟨#[]⟩,(valN f x).1⟩])++r.map mP,x.f2,(valN f x).2)=a)→Ev (fun k=>valL k (((f,o,x) :: r).map (·.2.2)) A.length (A++((f,o,x) :: r).map mP)) a:=fun a h1 h2=>by
        refine Ev.congr (fun k=>by rw [List.map_cons,List.map_cons,valL]) (Ev.yes (hlen _ _) ?_);rw [g1];refine Ev.bind hc ?_;rw [g2];exact Ev.both (fun z=>h1 z) (fun z=>Ev.is (h2 z))
      have refr:∀ b:VR,((valN f x).2=0→Ev (fun k=>r48_vals k (vsF (A.length+1) r) ((A++[⟨f,o,⟨#[]⟩,(valN f x).1⟩])++r.map rP)) b)→(¬ (valN f x).2=0→((A++((f,o,x) :: r).map rP),x.f2,(valN f x).2)=b)→Ev (fun k=>r48_vals k (vsF A.length ((f,o,x) :: r)) (A++((f,o,x) :: r).map rP)) b:=fun b h1 h2=>by
        rw [vsF,e2];refine Ev.congr (fun k=>by rw [r48_vals]) ?_;refine Ev.yes ⟨by show (0:Int)≤(A.length:Int);omega,by have:=hlen (rP (f,o,x)) (r.map rP);rw [List.map_cons];show (A.length:Int) < _;omega⟩ ?_;rw [List.map_cons,e1,g1,show (mC f o).f0=f from rfl,r48_number_eq];refine Ev.bind (Ev.now (numB f)) (Ev.yes nb ?_);have hb:∀ {α β γ:Type} (u:Option α) (g:α→Option β) (h:β→Option γ),(u.bind fun q=>(g q).bind h)=(u.bind g).bind h:=fun u g h=>by cases u <;> rfl
        refine Ev.congr (fun k=>hb _ _ _) (Ev.bind hr ?_);rw [Int.toNat_natCast,g2];refine Ev.both (fun z=>?_) (fun z=>Ev.is ?_)
        · exact h1 z
        · have:=h2 z
          rw [List.map_cons,e1] at this;exact this
      by_cases z:(valN f x).2=0
      · obtain ⟨a,b,ha,hb,hor⟩:=nx ⟨f,o,⟨#[]⟩,(valN f x).1⟩ (by show (0:Nat)≤_;omega)
        exact ⟨a,b,mach a (fun _=>ha) (fun q=>absurd z q),refr b (fun _=>hb) (fun q=>absurd z q),hor⟩
      · exact ⟨_,_,mach _ (fun q=>absurd q z) (fun _=>rfl),refr _ (fun q=>absurd q z) (fun _=>rfl),Or.inr ⟨z,rfl⟩⟩
    · have nb:numB f=false:=decide_eq_false n
      have e1:rP (f,o,x)=⟨f,o,x.f1,0⟩:=by unfold rP rC;rw [show numB (f,o,x).1=false from nb,if_neg (by decide)]
      have e2:vP A.length (f,o,x)=⟨(A.length:Int),⟨#[]⟩,0⟩:=by unfold vP;rw [show numB (f,o,x).1=false from nb,if_neg (by decide)]
      obtain ⟨a,b,ha,hb,hor⟩:=nx ⟨f,o,x.f1,0⟩ (by show x.f1.size≤_;omega);refine ⟨a,b,?_,?_,hor⟩
      · refine Ev.congr (fun k=>by rw [List.map_cons,List.map_cons,valL]) (Ev.yes (hlen _ _) ?_)
        rw [g1]
        have hc:Ev (fun k=>valC k (mC f o) x) (⟨f,o,x.f1,0⟩,0):=by
          unfold valC;show Ev (fun k=>if f=1 then _ else if f=4 then _ else _) _
          exact Ev.no (by omega) (Ev.no (by omega) (Ev.is rfl))
        refine Ev.bind hc (Ev.yes rfl ?_);rw [g2];exact ha
      · rw [vsF,e2]
        refine Ev.congr (fun k=>by rw [r48_vals]) ?_;refine Ev.yes ⟨by show (0:Int)≤(A.length:Int);omega,by have:=hlen (rP (f,o,x)) (r.map rP);rw [List.map_cons];show (A.length:Int) < _;omega⟩ ?_;rw [List.map_cons,e1,g1,show (⟨f,o,x.f1,0⟩:S48).f0=f from rfl,r48_number_eq];refine Ev.bind (Ev.now (numB f)) (Ev.no (by rw [nb];decide) ?_);rw [List.append_assoc] at hb;exact hb
end A
namespace A
open Go.RowKit B WW WL WM
attribute [local go_sem] max2_int min2_int max_two min_two max_three min_three max_four min_four
set_option maxHeartbeats 8000000
set_option maxRecDepth 100000
def rules_First.f (k:Nat) (l0:List (S25)) (a1_0:Int) (a1_1:Int) (a1_2:ByteArray) (a1_3:ByteArray):Option (Int):=rules_First.l0 k l0 (l0.length:Int) 0 a1_0 a1_1 a1_2 a1_3
end A

end Go.Proofs.YtkbgkekegjfkfaaGreatDoor