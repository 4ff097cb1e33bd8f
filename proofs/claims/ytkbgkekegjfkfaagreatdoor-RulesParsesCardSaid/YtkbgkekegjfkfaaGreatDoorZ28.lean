-- By pack.py, a program of this session's.
import Derived.Test.YtkbgkekegjfkfaaGreatDoorZ19
import Derived.Test.YtkbgkekegjfkfaaGreatDoorZ23
import Derived.Test.YtkbgkekegjfkfaaGreatDoorZ24
set_option linter.unusedVariables false
set_option linter.unusedSimpArgs false
namespace Go.Proofs.YtkbgkekegjfkfaaGreatDoor
namespace A
open Go.RowKit B WW WL WM
theorem oL_data (s:ByteArray):oL s.data.toList=s:=rfl
theorem r6letter_eq (c:UInt8):rf06_letter.f (c.toNat:Int)=some (isLet c):=by
  have h:∀ n:Nat,n < 256→rf06_letter.f (n:Int)=some ((decide (97≤n) && decide (n≤122)) || ((decide (65≤n) && decide (n≤90)) || decide (n=95))):=by decide +kernel
  exact h c.toNat c.toNat_lt
theorem r6digit_eq (c:UInt8):rf06_digit.f (c.toNat:Int)=some (isDig c):=by
  have h:∀ n:Nat,n < 256→rf06_digit.f (n:Int)=some (decide (48≤n∧n≤57)):=by decide +kernel
  rw [h c.toNat c.toNat_lt];congr 1
  rw [Bool.eq_iff_iff,decide_eq_true_iff,isDig_range]
theorem r6follows_eq (L:List UInt8) (i:Nat):rf06_follows.f (oL L) (i:Int)=some (headDig (L.drop i)):=by
  unfold rf06_follows.f;rw [oL_size]
  cases h:L.drop i with
 |nil=>rw [if_neg (by have:=drop_end h;omega)];rfl
 |cons c r =>
    obtain ⟨h1,h2,h3⟩:=drop_at h;rw [if_pos (by omega),if_pos (by omega),bt_oL,h2,r6digit_eq];rfl
theorem r6name_l0 (L:List UInt8) (hL:L.length≤1000000) (R:List UInt8):∀ i:Nat,L.drop i=R→i≤L.length→Ev (fun k=>rf06_name.l0 k (oL L) (i:Int)) ((i+nameN R:Nat):Int):=by
  induction R with
 |nil =>
    intro i h hi;have:=drop_end h;refine Ev.step (fun k=>by rw [rf06_name.l0]) ?_;exact Ev.no (by rw [oL_size];omega) (Ev.is rfl)
 |cons c r ih =>
    intro i h hi;obtain ⟨h1,h2,h3⟩:=drop_at h;refine Ev.step (fun k=>by rw [rf06_name.l0]) (Ev.yes (by rw [oL_size];omega) (Ev.yes (by omega) ?_));rw [bt_oL,h2,r6letter_eq,r6digit_eq,w_next i (by omega)];simp only [Option.bind_some]
    have:=ih (i+1) h3 (by omega);have e:isLet c=true∨isDig c=true→i+nameN (c :: r)=i+1+nameN r:=fun a=>by rw [nameN,if_pos a];omega
    refine Ev.both (fun a=>by rw [e (.inl a)];exact this) (fun a=>Ev.both (fun b=>by rw [e (.inr b)];exact this) (fun b=>Ev.is ?_));rw [nameN,if_neg (fun h=>h.elim a b)];rfl
theorem r6number_l0 (L:List UInt8) (hL:L.length≤1000000) (R:List UInt8):∀ i:Nat,L.drop i=R→i≤L.length→Ev (fun k=>rf06_number.l0 k (oL L) (i:Int)) ((i+numN R:Nat):Int):=by
  induction R with
 |nil =>
    intro i h hi;have:=drop_end h;refine Ev.step (fun k=>by rw [rf06_number.l0]) ?_;exact Ev.no (by rw [oL_size];omega) (Ev.is rfl)
 |cons c r ih =>
    intro i h hi;obtain ⟨h1,h2,h3⟩:=drop_at h;refine Ev.step (fun k=>by rw [rf06_number.l0]) (Ev.yes (by rw [oL_size];omega) (Ev.yes (by omega) ?_));rw [bt_oL,h2,r6letter_eq,r6digit_eq,w_next i (by omega),r6follows_eq,h3];simp only [Option.bind_some]
    have:=ih (i+1) h3 (by omega);have e:isLet c=true∨isDig c=true→i+numN (c :: r)=i+1+numN r:=fun a=>by rw [numN,if_neg (by rw [isLet_pt a];decide),if_pos a];omega
    have p1:isPt c=true→headDig r=true→i+numN (c :: r)=i+1+numN r:=fun a b=>by rw [numN,if_pos a,if_pos b];omega
    have p0:isPt c=true→¬ headDig r=true→(i:Int)=((i+numN (c :: r):Nat):Int):=fun a b=>by rw [numN,if_pos a,if_neg b];rfl
    refine Ev.both (fun a=>by rw [e (.inl a)];exact this) (fun a=>Ev.both (fun b=>by rw [e (.inr b)];exact this) (fun b=>?_));refine Ev.both (fun q=>?_) (fun q=>Ev.both (fun q2=>?_) (fun q2=>Ev.both (fun q3=>?_) (fun q3=>Ev.is ?_)))
    · have p:isPt c=true:=(isPt_iff c).mpr (by omega)
      exact Ev.both (fun x=>by rw [p1 p x];exact this) (fun x=>Ev.is (p0 p x))
    · have p:isPt c=true:=(isPt_iff c).mpr (by omega)
      exact Ev.both (fun x=>by rw [p1 p x];exact this) (fun x=>Ev.is (p0 p x))
    · have p:isPt c=true:=(isPt_iff c).mpr (by omega)
      exact Ev.both (fun x=>by rw [p1 p x];exact this) (fun x=>Ev.is (p0 p x))
    · rw [numN,if_neg (by rw [isPt_iff];omega),if_neg (fun h=>h.elim a b)];rfl
theorem r6number_ev (L:List UInt8) (hL:L.length≤1000000) (i:Nat) (c:UInt8) (r:List UInt8) (h:L.drop i=c :: r):Ev (fun k=>rf06_number.f k (oL L) (i:Int)) ((i+(numN r+1):Nat):Int):=by
  obtain ⟨h1,h2,h3⟩:=drop_at h;unfold rf06_number.f;have:=r6number_l0 L hL r (i+1) h3 (by omega);rw [show i+(numN r+1)=i+1+numN r by omega,w_next i (by omega)];exact this
def tR (a:Nat) (z:List UInt8×Nat×Nat×Nat):ByteArray×Int×Int×Int:=if z.2.2.2=0 then (if 60 < z.1.length then (⟨#[]⟩,0,(a:Int),9) else (oL z.1,(z.2.1:Int),0,0)) else (⟨#[]⟩,0,(z.2.2.1:Int),(z.2.2.2:Int))
theorem r6text_l0 (L:List UInt8) (hL:L.length≤1000000) (a:Nat) (n:Nat):∀ (R:List UInt8) (i:Nat) (acc:List UInt8),R.length≤n→L.drop i=R→i≤L.length→acc.length≤i →
    Ev (fun k=>rf06_text.l0 k (oL L) (a:Int) (toI acc) (i:Int)) (tR a (quoS a R i acc)):=by
  induction n with
 |zero =>
    intro R i acc hn h hi hacc;have hR:R=[]:=List.eq_nil_of_length_eq_zero (by omega);subst hR;have:=drop_end h;refine Ev.step (fun k=>by rw [rf06_text.l0]) ?_;exact Ev.no (by rw [oL_size];omega) (Ev.is rfl)
 |succ n ih =>
    intro R i acc hn h hi hacc
    cases R with
   |nil =>
      have:=drop_end h;refine Ev.step (fun k=>by rw [rf06_text.l0]) ?_;exact Ev.no (by rw [oL_size];omega) (Ev.is rfl)
   |cons c r =>
      obtain ⟨h1,h2,h3⟩:=drop_at h;rw [List.length_cons] at hn;refine Ev.step (fun k=>by rw [rf06_text.l0]) (Ev.yes (by rw [oL_size];omega) (Ev.yes (by omega) ?_));rw [w_next i (by omega),bt_oL L i,h2,toI_len]
      have bad:c.toNat≠34→c.toNat≠92→¬ isPrint c=true→Ev (fun k=>rf06_text.j1 k (oL L) (a:Int) (toI acc) (i:Int) (c.toNat:Int) true) (tR a (quoS a (c :: r) i acc)):=fun x y z=>by
        refine Ev.step (fun k=>by rw [rf06_text.j1]) (Ev.yes rfl (Ev.is ?_));rw [quoS.eq_def];dsimp only;rw [if_neg x,if_neg y,if_neg z];rfl
      refine Ev.both (fun q=>?_) (fun q=>Ev.both (fun b=>?_) (fun b=>?_))
      · have e:tR a (quoS a (c :: r) i acc)=(if 60 < acc.length then (⟨#[]⟩,0,(a:Int),9) else (oL acc,((i+1:Nat):Int),0,0)):=by
          rw [quoS.eq_def];dsimp only;rw [if_pos (by omega)];unfold tR;rw [if_pos rfl]
        rw [e];refine Ev.both (fun x=>Ev.is ?_) (fun x=>Ev.is ?_)
        · rw [if_pos (by omega)]
        · rw [if_neg (by omega),strOf_toI]
      · exact bad (by omega) (by omega) (by rw [isPrint_iff];omega)
      · by_cases b2:(c.toNat:Int) > 126
        · rw [decide_eq_true b2]
          exact bad (by omega) (by omega) (by rw [isPrint_iff];omega)
        · rw [decide_eq_false b2]
          refine Ev.step (fun k=>by rw [rf06_text.j1]) (Ev.no (by decide) ?_);rw [w_next i (by omega)];refine Ev.both (fun b=>?_) (fun b=>?_)
          · cases r with
           |nil =>
              have:=drop_end h3;refine Ev.yes (by rw [oL_size];omega) (Ev.is ?_);rw [quoS.eq_def];dsimp only;rw [if_neg (by omega),if_pos (by omega)];rfl
           |cons d r =>
              obtain ⟨g1,g2,g3⟩:=drop_at h3;rw [List.length_cons] at hn;refine Ev.no (by rw [oL_size];omega) (Ev.yes (by omega) (Ev.yes (by rw [oL_size];omega) ?_));rw [bt_oL L (i+1),g2,w_next (i+1) (by omega),toI_snoc,toI_len];have key:=ih r (i+1+1) (acc++[d]) (by omega) g3 (by omega) (by rw [List.length_append,List.length_singleton];omega)
              have e:d.toNat=34∨d.toNat=92→quoS a (c :: d :: r) i acc=quoS a r (i+1+1) (acc++[d]):=fun a=>by
                rw [quoS.eq_def];dsimp only;rw [if_neg (by omega),if_pos (by omega),if_pos a]
              refine Ev.both (fun x=>Ev.yes (by omega) ?_) (fun x=>Ev.both (fun y=>Ev.yes (by omega) ?_) (fun y=>Ev.is ?_))
              · rw [e (by omega)];exact key
              · rw [e (by omega)];exact key
              · rw [quoS.eq_def];dsimp only;rw [if_neg (by omega),if_pos (by omega),if_neg (by omega)];rfl
          · rw [toI_snoc,toI_len]
            refine Ev.yes (by omega) ?_;have key:=ih r (i+1) (acc++[c]) (by omega) h3 (by omega) (by rw [List.length_append,List.length_singleton];omega);rw [show quoS a (c :: r) i acc=quoS a r (i+1) (acc++[c]) by rw [quoS.eq_def];dsimp only;rw [if_neg (by omega),if_neg (by omega),if_pos (by rw [isPrint_iff];omega)]];exact key
theorem r6in_l0 (l:List ByteArray) (s:ByteArray) (hl:l.length≤1000) (d:Nat):∀ i:Nat,i+d=l.length→Ev (fun k=>rf06_in.l0 k l s (i:Int)) ((l.drop i).any (fun x=>x.toList == s.toList)):=by
  induction d with
 |zero =>
    intro i h;refine Ev.step (fun k=>by rw [rf06_in.l0]) (Ev.no (by omega) (Ev.is ?_));rw [List.drop_eq_nil_of_le (by omega)];rfl
 |succ d ih =>
    intro i h;refine Ev.step (fun k=>by rw [rf06_in.l0]) (Ev.yes (by omega) (Ev.yes (by omega) ?_));have hlt:i < l.length:=by omega
    rw [w_next i (by omega),List.drop_eq_getElem_cons hlt,List.any_cons];have e:rdOf ByteArray.empty l (i:Int)=l[i]:=by unfold rdOf;rw [Int.toNat_natCast,List.getD_eq_getElem?_getD,List.getElem?_eq_getElem hlt];rfl
    rw [e];refine Ev.both (fun q=>Ev.is ?_) (fun q=>?_)
    · rw [q,beq_self_eq_true,Bool.true_or]
    · rw [show (l[i].toList == s.toList)=false from beq_eq_false_iff_ne.mpr q,Bool.false_or]
      exact ih (i+1) (by omega)
theorem r6in_ev (l:List ByteArray) (s:ByteArray) (hl:l.length≤1000):Ev (fun k=>rf06_in.f k l s) (l.any (fun x=>x.toList == s.toList)):=by
  have:=r6in_l0 l s hl l.length 0 (by omega);exact this
theorem two_list (c d:UInt8):(([⟨#[60,61]⟩,⟨#[62,61]⟩,⟨#[33,61]⟩,⟨#[46,46]⟩]:List ByteArray).any fun x=>x.toList == [c,d])=twoSg c d:=by
  unfold twoSg;simp only [List.any_cons,List.any_nil,Bool.or_false,ByteArray.toList_eq]
  have e:∀ a b:UInt8,(([a,b]:List UInt8) == [c,d])=decide ([c,d]=[a,b]):=fun a b=>by
    rw [Bool.eq_iff_iff,beq_iff_eq,decide_eq_true_iff];exact eq_comm
  rw [← e,← e,← e,← e]
theorem days_number_l0 (L:List UInt8) (hL:L.length≤10) (R:List UInt8):∀ P:List UInt8,P++R=L→P.all isDig=true →
    Ev (fun k=>days_number.l0 k (oL L) (dval P:Int) (L.length:Int) (P.length:Int)) (if R.all isDig=true then ((dval L:Int),true) else (0,false)):=by
  induction R with
 |nil =>
    intro P h hP;rw [List.append_nil] at h;subst h;refine Ev.step (fun k=>by rw [days_number.l0]) ?_;exact Ev.no (by omega) (Ev.is rfl)
 |cons c r ih =>
    intro P h hP;have hl:P.length+(r.length+1)=L.length:=by rw [← h,List.length_append,List.length_cons]
    have hg:L.getD P.length 0=c:=by rw [← h,List.getD_eq_getElem?_getD,List.getElem?_append_right (Nat.le_refl _),Nat.sub_self];rfl
    refine Ev.step (fun k=>by rw [days_number.l0]) (Ev.yes (by omega) (Ev.yes (by omega) (Ev.yes (by rw [oL_size];omega) ?_)));rw [bt_oL,hg,w_next P.length (by omega),List.all_cons];by_cases d:isDig c=true
    · have dr:=(isDig_range c).mp d
      refine Ev.no (by omega) (Ev.no (by omega) ?_);rw [dig_byte d,d,Bool.true_and];have hb:=dval_bound P hP;have:=pow_ten_le (show P.length≤10 by omega)
      have e:wrap64 (wrap64 (10 * (dval P:Int))+((c.toNat - 48:Nat):Int))=(dval (P++[c]):Int):=by
        rw [dval_snoc,w_in (x:=10 * (dval P:Int)) (by omega),w_in (by omega)];omega
      rw [e];have key:=ih (P++[c]) (by rw [List.append_assoc];exact h) (by rw [List.all_append,hP,List.all_cons,d];rfl);rw [List.length_append,List.length_singleton] at key;exact key
    · have dr:=mt (isDig_range c).mpr d
      rw [Bool.eq_false_iff.mpr d,Bool.false_and,if_neg (by decide)];exact Ev.both (fun _=>Ev.is rfl) (fun h1=>Ev.yes (by omega) (Ev.is rfl))
theorem days_number_ev (L:List UInt8) (hL:L.length≤10):Ev (fun k=>days_number.f k (oL L)) (if L.all isDig=true then ((dval L:Int),true) else (0,false)):=by
  unfold days_number.f;rw [oL_size];exact days_number_l0 L hL L [] rfl rfl
theorem ref04_value_l0 (L:List UInt8) (hL:L.length≤10) (hd:L.all isDig=true) (R:List UInt8):∀ P:List UInt8,P++R=L →
    Ev (fun k=>rf04_value.l0 k (oL L) (dval P:Int) (P.length:Int)) (dval L:Int):=by
  induction R with
 |nil =>
    intro P h;rw [List.append_nil] at h;subst h;refine Ev.step (fun k=>by rw [rf04_value.l0]) ?_;exact Ev.no (by rw [oL_size];omega) (Ev.is rfl)
 |cons c r ih =>
    intro P h;have hl:P.length+(r.length+1)=L.length:=by rw [← h,List.length_append,List.length_cons]
    have hg:L.getD P.length 0=c:=by rw [← h,List.getD_eq_getElem?_getD,List.getElem?_append_right (Nat.le_refl _),Nat.sub_self];rfl
    have hall:=hd;rw [← h,List.all_append,List.all_cons,Bool.and_eq_true,Bool.and_eq_true] at hall;refine Ev.step (fun k=>by rw [rf04_value.l0]) (Ev.yes (by rw [oL_size];omega) (Ev.yes (by omega) ?_));rw [bt_oL,hg,w_next P.length (by omega),dig_byte hall.2.1];have dr:=(isDig_range c).mp hall.2.1;have hb:=dval_bound P hall.1;have:=pow_ten_le (show P.length≤10 by omega)
    have e:wrap64 (wrap64 ((dval P:Int) * 10)+((c.toNat - 48:Nat):Int))=(dval (P++[c]):Int):=by
      rw [dval_snoc,w_in (x:=(dval P:Int) * 10) (by omega),w_in (by omega)];omega
    rw [e];have key:=ih (P++[c]) (by rw [List.append_assoc];exact h);rw [List.length_append,List.length_singleton] at key;exact key
theorem ref04_value_ev (L:List UInt8) (hL:L.length≤10) (hd:L.all isDig=true):Ev (fun k=>rf04_value.f k (oL L)) (dval L:Int):=by
  unfold rf04_value.f;exact ref04_value_l0 L hL hd L [] rfl
theorem isPrn_iff (c:UInt8):isPrn c=true ↔ 32≤c.toNat∧c.toNat≤126:=by unfold isPrn;simp only [Bool.and_eq_true,decide_eq_true_iff]
theorem r6Plain_l0 (L:List UInt8) (hL:L.length≤1000000) (R:List UInt8):∀ P:List UInt8,P++R=L→P.all isPrn=true→Ev (fun k=>rf06_Plain.l0 k (oL L) (P.length:Int)) (plainW L):=by
  induction R with
 |nil =>
    intro P h hP;rw [List.append_nil] at h;subst h;refine Ev.step (fun k=>by rw [rf06_Plain.l0]) (Ev.no (by rw [oL_size];omega) (Ev.is ?_));rw [oL_size];unfold plainW;rw [hP,Bool.and_true,Bool.eq_iff_iff,decide_eq_true_iff,decide_eq_true_iff];omega
 |cons c r ih =>
    intro P h hP;have hl:P.length+(r.length+1)=L.length:=by rw [← h,List.length_append,List.length_cons]
    have hg:L.getD P.length 0=c:=by rw [← h,List.getD_eq_getElem?_getD,List.getElem?_append_right (Nat.le_refl _),Nat.sub_self];rfl
    refine Ev.step (fun k=>by rw [rf06_Plain.l0]) (Ev.yes (by rw [oL_size];omega) (Ev.yes (by omega) ?_));rw [bt_oL,hg,w_next P.length (by omega)]
    have bad:¬ isPrn c=true→plainW L=false:=fun hc=>by
      unfold plainW;rw [← h,List.all_append,List.all_cons,Bool.eq_false_iff.mpr hc];simp
    refine Ev.both (fun a=>Ev.is (bad (by rw [isPrn_iff];omega)).symm) (fun a=>Ev.both (fun b=>Ev.is (bad (by rw [isPrn_iff];omega)).symm) (fun b=>?_));have:=ih (P++[c]) (by rw [List.append_assoc];exact h) (by rw [List.all_append,hP,List.all_cons,show isPrn c=true from (isPrn_iff c).mpr (by omega)];rfl);rw [List.length_append,List.length_singleton] at this;exact this
theorem ref06_Plain_ev (L:List UInt8) (hL:L.length≤1000000):Ev (fun k=>rf06_Plain.f k (oL L)) (plainW L):=by
  unfold rf06_Plain.f;exact r6Plain_l0 L hL L [] rfl rfl
theorem ref06_Plain_at (s:ByteArray) (hs:s.size≤1000000):Ev (fun k=>rf06_Plain.f k s) (plainW s.data.toList):=ref06_Plain_ev s.data.toList (by rw [← size_eq'];exact hs)
theorem words_Code_at (s:ByteArray) (hs:s.size≤1000000):words_Code.f s=some (codeW s.data.toList):=by unfold words_Code.f;rw [if_pos (by omega)]
theorem words_Plain_at (s:ByteArray) (hs:s.size≤1000000):words_Plain.f s=some (plainW s.data.toList):=by unfold words_Plain.f;rw [if_pos (by omega)]
def formB (c:S48):Bool:=if c.f0=1∨c.f0=4 then c.f2.toList == [] else plainW c.f2.data.toList
def condR (c:S48):Int:=if rangB c=true then (if formB c=true then 0 else 5) else 3
def condS (c:S48):Int:=if suitB c.f0 c.f1=true then condR c else 10
theorem r04_Is_eq (n:Int):rf04_Is.f n=some (dayB n):=by
  unfold rf04_Is.f dayB;by_cases h:n ≥ 0
  · rw [if_pos h];congr 1;rw [Bool.eq_iff_iff,decide_eq_true_iff,decide_eq_true_iff];omega
  · rw [if_neg h,decide_eq_false (by omega)]
def tagL:Option ByteArray→List S50→Bool
 |_,[]=>true
 |p,t :: r=>codeW t.f0.data.toList && codeW t.f1.data.toList && (match p with|none=>true|some q=>Op.bytesLess q.toList t.f0.toList) && tagL (some t.f0) r
theorem tagL_nil (p:Option ByteArray):tagL p []=true:=by cases p <;> rfl
theorem tagL_cons (p:Option ByteArray) (t:S50) (r:List S50):tagL p (t :: r)=(codeW t.f0.data.toList && codeW t.f1.data.toList && (match p with|none=>true|some q=>Op.bytesLess q.toList t.f0.toList) && tagL (some t.f0) r):=by cases p <;> rfl
def tagsOk (tg:List S50):Bool:=decide (tg.length≤6) && tagL none tg
theorem rd50_at {l:List S50} {i:Nat} {x:S50} {r:List S50} (h:l.drop i=x :: r):i < l.length∧rd_T50 l (i:Int)=x∧l.drop (i+1)=r:=by
  have hlt:i < l.length:=by
    rcases Nat.lt_or_ge i l.length with h1|h1
    · exact h1
    · rw [List.drop_eq_nil_of_le h1] at h;cases h
  rw [List.drop_eq_getElem_cons hlt] at h;obtain ⟨h1,h2⟩:=List.cons.inj h;refine ⟨hlt,?_,h2⟩;unfold rd_T50;rw [Int.toNat_natCast,List.getD_eq_getElem?_getD,List.getElem?_eq_getElem hlt,← h1];rfl
theorem rd48_at {l:List S48} {i:Nat} {x:S48} {r:List S48} (h:l.drop i=x :: r):i < l.length∧rd_T48 l (i:Int)=x∧l.drop (i+1)=r:=by
  have hlt:i < l.length:=by
    rcases Nat.lt_or_ge i l.length with h1|h1
    · exact h1
    · rw [List.drop_eq_nil_of_le h1] at h;cases h
  rw [List.drop_eq_getElem_cons hlt] at h;obtain ⟨h1,h2⟩:=List.cons.inj h;refine ⟨hlt,?_,h2⟩;unfold rd_T48;rw [Int.toNat_natCast,List.getD_eq_getElem?_getD,List.getElem?_eq_getElem hlt,← h1];rfl
def prevT (l:List S50) (i:Nat):Option ByteArray:=if i=0 then none else some (rd_T50 l ((i - 1:Nat):Int)).f0
theorem dims_codes_eq (a b:ByteArray) (ha:a.size≤1000000) (hb:b.size≤1000000):dims_codes.f a b=some (codeW a.data.toList && codeW b.data.toList):=by
  unfold dims_codes.f;rw [words_Code_at a ha,words_Code_at b hb];simp only [Option.bind_some]
  cases codeW a.data.toList <;> simp
theorem dims_Right_l0 (tg:List S50) (hs:ShortT tg) (hl:tg.length≤1000) (R:List S50):∀ i:Nat,tg.drop i=R→Ev (fun k=>dims_Right.l0 k tg tg (tg.length:Int) (i:Int)) (tagL (prevT tg i) R):=by
  induction R with
 |nil =>
    intro i h;have:=List.drop_eq_nil_iff.mp h;refine Ev.step (fun k=>by rw [dims_Right.l0]) ?_;exact Ev.no (by omega) (Ev.is (tagL_nil _).symm)
 |cons x r ih =>
    intro i h;obtain ⟨hi,hx,hr⟩:=rd50_at h;have hm:=hs x (List.mem_of_mem_drop (i:=i) (by rw [h];exact List.mem_cons_self));refine Ev.step (fun k=>by rw [dims_Right.l0]) (Ev.yes (by omega) (Ev.yes (by omega) (Ev.yes (by omega) ?_)));rw [hx,w_next i (by omega),dims_codes_eq _ _ hm.1 hm.2,tagL_cons];simp only [Option.bind_some]
    have hp:prevT tg (i+1)=some x.f0:=by unfold prevT;rw [if_neg (by omega),show i+1 - 1=i by omega,hx]
    have ih':=ih (i+1) hr;rw [hp] at ih';refine Ev.both (fun e=>?_) (fun e=>Ev.is (by rw [Bool.eq_false_iff.mpr e];simp));rw [e];by_cases h0:i=0
    · subst h0
      refine Ev.no (by omega) ?_;simpa [prevT] using ih'
    · refine Ev.yes (by omega) ?_
      rw [w_in (x:=(i:Int) - 1) (by omega)];refine Ev.yes (by omega) (Ev.yes (by omega) ?_);have e1:(i:Int) - 1=((i - 1:Nat):Int):=by omega
      rw [e1];unfold prevT;rw [if_neg h0];refine Ev.both (fun b=>?_) (fun b=>Ev.is ?_)
      · simpa [b] using ih'
      · simp [Bool.eq_false_iff.mpr b]
theorem dims_Right_ev (tg:List S50) (hs:ShortT tg):Ev (fun k=>dims_Right.f k tg) (tagsOk tg):=by
  unfold dims_Right.f tagsOk;refine Ev.both (fun h=>Ev.is ?_) (fun h=>?_)
  · rw [decide_eq_false (by omega),Bool.false_and]
  · rw [decide_eq_true (by omega),Bool.true_and]
    exact dims_Right_l0 tg hs (by omega) tg 0 rfl
def checkC:List S48→Int
 |[]=>0
 |c :: r=>if condS c=0 then checkC r else condS c
def nameB (nm acc par:ByteArray):Bool:=codeW nm.data.toList && codeW acc.data.toList && (decide (par.toList=[]) || codeW par.data.toList)
def checkS (nm:ByteArray) (cs:List S48) (acc par:ByteArray) (tg:List S50):Int :=
  if nameB nm acc par=true then (if tagsOk tg=true then (if cs.length=0 then 2 else if 8 < cs.length then 9 else checkC cs) else 14) else 7
def finP (k:Nat) (s:ByteArray) (y:PR×Int×Int):Option RRes :=
    if y.2.2=0 then (if y.1.st=8∨y.1.st=13 then (if 0 < y.1.cs.length∧y.1.ws.length≤1000000 then (valL k y.1.ws 0 y.1.cs).bind fun v =>
      if v.2.2=0 then (rules_Check.f k y.1.nm v.1 y.1.acc y.1.par y.1.tg).bind fun e=>if e=0 then some (y.1.nm,v.1,y.1.acc,y.1.par,y.1.tg,0,0) else some (noR 0 e) else some (noR v.2.1 v.2.2) else none)
    else some (noR (s.size:Int) 27)) else some (noR y.2.1 y.2.2)
def runP (k:Nat) (s:ByteArray) (R:List S73) (p:PR):Option RRes:=(parL k R p).bind (finP k s)
theorem runP_cons (k:Nat) (s:ByteArray) (x:S73) (R:List S73) (p:PR):runP k s (x :: R) p=(moveR k p x (codeX x)).bind fun y=>if y.2=14 then some (noR x.f2 27) else runP k s R { y.1 with st:=y.2 }:=by
  unfold runP;rw [parL,Option.bind_assoc];congr 1
  funext y
  by_cases h:y.2=14
  · rw [if_pos h,if_pos h];rfl
  · rw [if_neg h,if_neg h]
theorem runP_step {s:ByteArray} {x:S73} {R:List S73} {p p':PR} {st:Int} {v:RRes} (hm:Ev (fun k=>moveR k p x (codeX x)) (p',st)) (h14:st≠14) (h:Ev (fun k=>runP k s R { p' with st:=st }) v):Ev (fun k=>runP k s (x :: R) p) v :=
  Ev.congr (fun k=>runP_cons k s x R p) (Ev.bind hm (Ev.no h14 h))
theorem runP_nil {s:ByteArray} {p:PR} {v:RRes} (h:Ev (fun k=>finP k s (p,0,0)) v):Ev (fun k=>runP k s [] p) v:=h
theorem rd48_last (C:List S48) (b:S48):rd_T48 (C++[b]) (((C++[b]).length - 1:Nat):Int)=b:=by
  unfold rd_T48;rw [Int.toNat_natCast,List.length_append,List.length_singleton,Nat.add_sub_cancel,List.getD_eq_getElem?_getD,List.getElem?_append_right (Nat.le_refl _),Nat.sub_self];rfl
theorem rd50_last (C:List S50) (b:S50):rd_T50 (C++[b]) (((C++[b]).length - 1:Nat):Int)=b:=by
  unfold rd_T50;rw [Int.toNat_natCast,List.length_append,List.length_singleton,Nat.add_sub_cancel,List.getD_eq_getElem?_getD,List.getElem?_append_right (Nat.le_refl _),Nat.sub_self];rfl
theorem set_last {α:Type} (C:List α) (b b':α):(C++[b]).set ((C++[b]).length - 1) b'=C++[b']:=by
  rw [List.length_append,List.length_singleton,Nat.add_sub_cancel,List.set_append_right _ _ (Nat.le_refl _),Nat.sub_self];rfl
theorem must_dead (L:List S73) (i:Int) (w:ByteArray):rf48_Reader_must.f L i true w=some (i,true):=by
  unfold rf48_Reader_must.f;rw [is_dead];rfl
theorem must_end {L:List S73} {i:Nat} (h:L.drop i=[]) (w:ByteArray):rf48_Reader_must.f L (i:Int) false w=some ((i:Int),true):=by
  unfold rf48_Reader_must.f;rw [is_end h];rfl
theorem must_yes {L:List S73} {i:Nat} {x:S73} {r:List S73} (h:L.drop i=x :: r) (hi:i≤100000) {w:ByteArray} (hk:keyB x w=true):rf48_Reader_must.f L (i:Int) false w=some (((i+1:Nat):Int),false):=by
  unfold rf48_Reader_must.f;rw [is_at h hi,hk];rfl
theorem must_no {L:List S73} {i:Nat} {x:S73} {r:List S73} (h:L.drop i=x :: r) (hi:i≤100000) {w:ByteArray} (hk:¬ keyB x w=true):rf48_Reader_must.f L (i:Int) false w=some ((i:Int),true):=by
  unfold rf48_Reader_must.f;rw [is_at h hi,Bool.eq_false_iff.mpr hk];rfl
theorem next_dead (L:List S73) (i a b:Int):rf48_Reader_next.f L i true a b=some (⟨#[]⟩,i,true):=by
  unfold rf48_Reader_next.f;rw [if_pos rfl]
theorem next_end {L:List S73} {i:Nat} (h:L.drop i=[]) (a b:Int):rf48_Reader_next.f L (i:Int) false a b=some (⟨#[]⟩,(i:Int),true):=by
  have:=List.drop_eq_nil_iff.mp h;unfold rf48_Reader_next.f;rw [if_neg (by decide),if_pos (by omega)]
theorem next_yes {L:List S73} {i:Nat} {x:S73} {r:List S73} (h:L.drop i=x :: r) (hi:i≤100000) {a b:Int} (hk:x.f0=a∨x.f0=b):rf48_Reader_next.f L (i:Int) false a b=some (x.f1,((i+1:Nat):Int),false):=by
  obtain ⟨h1,h2,_⟩:=rd73_at h;have e:wrap64 (((i+1:Nat):Int) - 1)=(i:Int):=by rw [w_in (by omega)];omega
  unfold rf48_Reader_next.f;rw [if_neg (by decide),if_neg (by omega),if_pos (by omega),if_pos (by omega),h2];by_cases q:x.f0=a
  · rw [if_pos q,w_next i (by omega),e,if_pos (by omega),if_pos (by omega),h2]
  · rw [if_neg q,if_pos (hk.resolve_left q),w_next i (by omega),e,if_pos (by omega),if_pos (by omega),h2]
theorem next_no {L:List S73} {i:Nat} {x:S73} {r:List S73} (h:L.drop i=x :: r) (hi:i≤100000) {a b:Int} (hk:¬ (x.f0=a∨x.f0=b)):rf48_Reader_next.f L (i:Int) false a b=some (⟨#[]⟩,(i:Int),true):=by
  obtain ⟨h1,h2,_⟩:=rd73_at h;unfold rf48_Reader_next.f;rw [if_neg (by decide),if_neg (by omega),if_pos (by omega),if_pos (by omega),h2,if_neg (fun q=>hk (Or.inl q)),if_neg (fun q=>hk (Or.inr q))]
theorem code_dead (L:List S73) (i:Int):rf48_Reader_code.f L i true=some (⟨#[]⟩,i,true):=by
  unfold rf48_Reader_code.f;rw [next_dead];rfl
theorem code_end {L:List S73} {i:Nat} (h:L.drop i=[]):rf48_Reader_code.f L (i:Int) false=some (⟨#[]⟩,(i:Int),true):=by
  unfold rf48_Reader_code.f;rw [next_end h];rfl
theorem code_yes {L:List S73} {i:Nat} {x:S73} {r:List S73} (h:L.drop i=x :: r) (hi:i≤100000) (hk:codeX x=true):rf48_Reader_code.f L (i:Int) false=some (x.f1,((i+1:Nat):Int),false):=by
  unfold codeX at hk;rw [decide_eq_true_iff] at hk;unfold rf48_Reader_code.f;rw [next_yes h hi hk];rfl
theorem code_no {L:List S73} {i:Nat} {x:S73} {r:List S73} (h:L.drop i=x :: r) (hi:i≤100000) (hk:¬ codeX x=true):rf48_Reader_code.f L (i:Int) false=some (⟨#[]⟩,(i:Int),true):=by
  unfold codeX at hk;rw [decide_eq_true_iff] at hk;unfold rf48_Reader_code.f;rw [next_no h hi hk];rfl
theorem nil_eq:¬ (⟨#[]⟩:ByteArray).toList=eqB.toList:=by rw [ByteArray.toList_eq,ByteArray.toList_eq];decide
theorem sign_dead (L:List S73) (i:Int):rf48_Reader_sign.f L i true eqB=some (i,true):=by
  unfold rf48_Reader_sign.f;rw [next_dead,Option.bind_some,if_neg nil_eq,if_pos rfl]
theorem sign_end {L:List S73} {i:Nat} (h:L.drop i=[]):rf48_Reader_sign.f L (i:Int) false eqB=some ((i:Int),true):=by
  unfold rf48_Reader_sign.f;rw [next_end h,Option.bind_some,if_neg nil_eq,if_pos rfl]
theorem sign_yes {L:List S73} {i:Nat} {x:S73} {r:List S73} (h:L.drop i=x :: r) (hi:i≤100000) (hk:eqX x=true):rf48_Reader_sign.f L (i:Int) false eqB=some (((i+1:Nat):Int),false):=by
  unfold eqX at hk;rw [Bool.and_eq_true,decide_eq_true_iff,beq_iff_eq] at hk;unfold rf48_Reader_sign.f;rw [next_yes h hi (Or.inl hk.1),Option.bind_some,if_pos (by rw [hk.2,ByteArray.toList_eq])]
theorem sign_no {L:List S73} {i:Nat} {x:S73} {r:List S73} (h:L.drop i=x :: r) (hi:i≤100000) (hk:¬ eqX x=true):rf48_Reader_sign.f L (i:Int) false eqB=some ((i:Int),true):=by
  unfold eqX at hk;rw [Bool.and_eq_true,decide_eq_true_iff,beq_iff_eq] at hk;unfold rf48_Reader_sign.f;by_cases a:x.f0=4
  · rw [next_yes h hi (Or.inl a),Option.bind_some,if_neg (fun q=>hk ⟨a,by rw [ByteArray.toList_eq] at q ⊢;rw [ByteArray.toList_eq] at q;exact q⟩)]
    show some (wrap64 (((i+1:Nat):Int) - 1),true)=_
    rw [w_in (by omega),show ((i+1:Nat):Int) - 1=(i:Int) by omega]
  · rw [next_no h hi (fun q=>a (by omega)),Option.bind_some,if_neg nil_eq,if_pos rfl]
theorem runP_fail {s:ByteArray} {L:List S73} {i:Nat} {x:S73} {R:List S73} {p p':PR} (h:L.drop i=x :: R) (hm:Ev (fun k=>moveR k p x (codeX x)) (p',14)):Ev (fun k=>runP k s (x :: R) p) (deadR s L i):=by
  obtain ⟨h1,h2,_⟩:=rd73_at h;refine Ev.congr (fun k=>runP_cons k s x R p) (Ev.bind hm (Ev.yes rfl (Ev.is ?_)));unfold deadR;rw [if_pos h1,h2]
theorem runP_end {s:ByteArray} {L:List S73} {i:Nat} {p:PR} (h:L.drop i=[]) (hs:¬ (p.st=8∨p.st=13)):Ev (fun k=>runP k s [] p) (deadR s L i):=by
  have:=List.drop_eq_nil_iff.mp h;refine runP_nil ?_;unfold finP;refine Ev.yes rfl (Ev.no hs (Ev.is ?_));unfold deadR;rw [if_neg (by omega)]
theorem tg_dead (L:List S73) (i:Int) (G:List S50):Ev (fun k=>rule_tg L k i true G) (G,i,true):=by
  refine Ev.step (fun k=>by rw [rule_tg,is_dead]) ?_;exact Ev.is rfl
theorem tg_go {L:List S73} {i j:Int} {G:List S50} {c d:ByteArray×Int×Bool} {g:Int×Bool} {t:List S50×Int×Bool} (h1:rf48_Reader_is.f L i false tagB=some (true,j,false)) (h2:rf48_Reader_code.f L j false=some c)
    (h3:rf48_Reader_sign.f L c.2.1 c.2.2 eqB=some g) (h4:rf48_Reader_code.f L g.1 g.2=some d) (hG:G.length≤1000000) (h:Ev (fun k=>rule_tg L k d.2.1 d.2.2 (G++[⟨c.1,d.1⟩])) t):Ev (fun k=>rule_tg L k i false G) t:=by
  refine Ev.step (f:=fun k=>rule_tg L k d.2.1 d.2.2 (G++[⟨c.1,d.1⟩])) (fun k=>?_) h;rw [rule_tg,h1,Option.bind_some,if_pos rfl];show (rf48_Reader_code.f L j false).bind _=_
  rw [h2,Option.bind_some,h3,Option.bind_some,h4,Option.bind_some,if_pos hG]
theorem numS_field (s:ByteArray):0≤numS fieldL s 0∧numS fieldL s 0≤4:=by
  unfold fieldL;simp only [numS]
  repeat' split
  all_goals omega
def rQ (f o:Int) (x:S73) (at_:Int):QC:=if numB f=true then (f,o,⟨#[]⟩,0,0,x.f1,x.f2,at_,false) else (f,o,x.f1,0,0,⟨#[]⟩,0,at_,false)
def vP (n:Nat) (p:PC):S87:=if numB p.1=true then ⟨(n:Int),p.2.2.f1,p.2.2.f2⟩ else ⟨(n:Int),⟨#[]⟩,0⟩
def vsF:Nat→List PC→List S87
 |_,[]=>[]
 |n,p :: r=>vP n p :: vsF (n+1) r
theorem vsF_len (P:List PC):∀ n,(vsF n P).length=P.length:=by
  induction P with
 |nil=>intro n;rfl
 |cons p r ih=>intro n;rw [vsF,List.length_cons,List.length_cons,ih]
theorem vsF_snoc (P:List PC) (p:PC):∀ n,vsF n (P++[p])=vsF n P++[vP (n+P.length) p]:=by
  induction P with
 |nil=>intro n;rfl
 |cons q r ih =>
    intro n;rw [List.cons_append,vsF,vsF,ih,List.length_cons,List.cons_append,show n+1+r.length=n+(r.length+1) by omega]
theorem rQ_c (p:PC) (a:Int):(⟨(rQ p.1 p.2.1 p.2.2 a).1,(rQ p.1 p.2.1 p.2.2 a).2.1,(rQ p.1 p.2.1 p.2.2 a).2.2.1,(rQ p.1 p.2.1 p.2.2 a).2.2.2.1⟩:S48)=rP p:=by
  unfold rQ rP rC;split <;> rfl
theorem rQ_v (p:PC) (a:Int) (n:Nat):(⟨(n:Int),(rQ p.1 p.2.1 p.2.2 a).2.2.2.2.2.1,(rQ p.1 p.2.1 p.2.2 a).2.2.2.2.2.2.1⟩:S87)=vP n p:=by
  unfold rQ vP;split <;> rfl
theorem rQ_at (f o:Int) (x:S73) (a:Int):(rQ f o x a).2.2.2.2.2.2.2=(a,false):=by
  unfold rQ;split <;> rfl
abbrev CsR:=List S48×List S87×Int×Bool
theorem cs_dead (L:List S73) (i:Int) (cs:List S48) (vs:List S87):Ev (fun k=>rule_cs L k i true cs vs) (cs,vs,i,true):=by
  refine Ev.step (fun k=>by rw [rule_cs]) ?_;exact Ev.yes rfl (Ev.is rfl)
theorem cs_go {L:List S73} {i:Int} {cs:List S48} {vs:List S87} {q:QC} {b:Bool×Int×Bool} {c:CsR} (h1:Ev (fun k=>rf48_Reader_cond.f k L i false) q) (hl:cs.length≤1000000)
    (h2:rf48_Reader_is.f L q.2.2.2.2.2.2.2.1 q.2.2.2.2.2.2.2.2 andB=some b)
    (ht:b.1=true→Ev (fun k=>rule_cs L k b.2.1 b.2.2 (cs++[⟨q.1,q.2.1,q.2.2.1,q.2.2.2.1⟩]) (vs++[⟨(cs.length:Int),q.2.2.2.2.2.1,q.2.2.2.2.2.2.1⟩])) c)
    (hf:¬ b.1=true→(cs++[⟨q.1,q.2.1,q.2.2.1,q.2.2.2.1⟩],vs++[⟨(cs.length:Int),q.2.2.2.2.2.1,q.2.2.2.2.2.2.1⟩],b.2.1,b.2.2)=c):Ev (fun k=>rule_cs L k i false cs vs) c:=by
  refine Ev.step (fun k=>by rw [rule_cs]) ?_;refine Ev.no (by decide) (Ev.bind h1 (Ev.yes hl ?_));rw [h2];exact Ev.bind (Ev.now b) (Ev.both (fun t=>ht t) (fun t=>Ev.is (hf t)))
abbrev RuR:=ByteArray×List S48×ByteArray×ByteArray×List S50×List S87×Int×Bool
def rend (k:Nat) (s:ByteArray) (L:List S73) (r:RuR):Option RRes:=if r.2.2.2.2.2.2.2=true then r48_fail s L r.2.2.2.2.2.2.1
  else if r.2.2.2.2.2.1.length≤1000000 then (r48_vals k r.2.2.2.2.2.1 r.2.1).bind fun v=>r48_end k r.1 r.2.2.1 r.2.2.2.1 r.2.2.2.2.1 v else none
theorem rule_go {L:List S73} {at_:Int} {fl:Bool} {a b d:Int×Bool} {n ac pa:ByteArray×Int×Bool} {p:Bool×Int×Bool} {c:CsR} {t:List S50×Int×Bool}
    (h1:rf48_Reader_must.f L at_ fl ruleB=some a) (h2:rf48_Reader_code.f L a.1 a.2=some n) (h3:rf48_Reader_must.f L n.2.1 n.2.2 ifB=some b)
    (h4:Ev (fun k=>rule_cs L k b.1 b.2 [] []) c) (h5:rf48_Reader_must.f L c.2.2.1 c.2.2.2 thenB=some d) (h6:rf48_Reader_code.f L d.1 d.2=some ac)
    (h7:rf48_Reader_is.f L ac.2.1 ac.2.2 partyB=some p) (h8:rule_pa L p=some pa) (h9:Ev (fun k=>rule_tg L k pa.2.1 pa.2.2 []) t) :
    Ev (fun k=>rf48_Reader_rule.f k L at_ fl) ((n.1,c.1,ac.1,pa.1,t.1,c.2.1,t.2.1,if t.2.1 < (L.length:Int) then true else t.2.2):RuR):=by
  unfold rf48_Reader_rule.f;rw [h1];refine Ev.bind (Ev.now a) ?_;rw [h2];refine Ev.bind (Ev.now n) ?_;rw [h3];refine Ev.bind (Ev.now b) (Ev.bind h4 ?_);rw [h5];refine Ev.bind (Ev.now d) ?_;rw [h6];refine Ev.bind (Ev.now ac) ?_;rw [h7];refine Ev.bind (Ev.now p) ?_;rw [h8];exact Ev.bind (Ev.now pa) (Ev.bind h9 (Ev.is rfl))
theorem pa_dead (L:List S73) (i:Int):rule_pa L (false,i,true)=some (⟨#[]⟩,i,true):=by
  unfold rule_pa;rw [if_neg (fun z=>Bool.noConfusion z)]
def Both (s:ByteArray) (L:List S73) (R:List S73) (p:PR):Prop :=
  ∃ r v,Ev (fun k=>rf48_Reader_rule.f k L 0 false) (r:RuR)∧Ev (fun k=>rend k s L r) v∧Ev (fun k=>runP k s R p) v∧v.2.1.length≤1000∧v.2.2.2.2.1.length≤1000
theorem rend_dead (s:ByteArray) (L:List S73) (j:Nat) (r:RuR) (h:r.2.2.2.2.2.2=((j:Int),true)):Ev (fun k=>rend k s L r) (deadR s L j):=by
  refine ⟨0,fun k _=>?_⟩;show rend k s L r=some _
  unfold rend;rw [h,if_pos rfl,fail_eq]
theorem Both.dead {s:ByteArray} {L R:List S73} {p:PR} {r:RuR} {j:Nat} (h:Ev (fun k=>rf48_Reader_rule.f k L 0 false) r) (hj:r.2.2.2.2.2.2=((j:Int),true)) (hm:Ev (fun k=>runP k s R p) (deadR s L j)):Both s L R p :=
  ⟨r,_,h,rend_dead s L j r hj,hm,(dead_len s L j).1,(dead_len s L j).2⟩
theorem r09_Same_l0 (tg:List S50) (hl:tg.length≤1000) (R:List S50):∀ i:Nat,tg.drop i=R→Ev (fun k=>rf09_Same.l0 k tg tg (i:Int)) true:=by
  induction R with
 |nil =>
    intro i h;have:=List.drop_eq_nil_iff.mp h;refine Ev.step (fun k=>by rw [rf09_Same.l0]) (Ev.no (by omega) (Ev.is rfl))
 |cons x r ih =>
    intro i h;obtain ⟨hi,hx,hr⟩:=rd50_at h;refine Ev.step (fun k=>by rw [rf09_Same.l0]) (Ev.yes (by omega) (Ev.yes (by omega) (Ev.yes (by omega) (Ev.no (by simp) ?_))));rw [w_next i (by omega)];exact ih (i+1) hr
theorem r48_Same_l0 (nm:ByteArray) (cs:List S48) (acc par:ByteArray) (tg:List S50) (hl:cs.length≤1000) (R:List S48):∀ i:Nat,cs.drop i=R→Ev (fun k=>rf48_Same.l0 k (i:Int) nm cs acc par tg nm cs acc par tg) true:=by
  induction R with
 |nil =>
    intro i h;have:=List.drop_eq_nil_iff.mp h;refine Ev.step (fun k=>by rw [rf48_Same.l0]) (Ev.no (by omega) (Ev.is rfl))
 |cons x r ih =>
    intro i h;obtain ⟨hi,hx,hr⟩:=rd48_at h;refine Ev.step (fun k=>by rw [rf48_Same.l0]) (Ev.yes (by omega) (Ev.yes (by omega) (Ev.yes (by omega) (Ev.no (by simp) ?_))));rw [w_next i (by omega)];exact ih (i+1) hr
theorem r48_Same_refl (nm:ByteArray) (cs:List S48) (acc par:ByteArray) (tg:List S50) (hl:cs.length≤1000) (ht:tg.length≤1000):Ev (fun k=>rf48_Same.f k nm cs acc par tg nm cs acc par tg) true:=by
  unfold rf48_Same.f;refine Ev.yes rfl (Ev.yes rfl (Ev.yes rfl (Ev.yes rfl (Ev.bind (a:=true) ?_ ?_))))
  · unfold rf09_Same.f
    exact Ev.yes rfl (r09_Same_l0 tg ht tg 0 rfl)
  · refine Ev.step (fun k=>by rw [rf48_Same.j0]) ?_
    exact Ev.no (by decide) (r48_Same_l0 nm cs acc par tg hl cs 0 rfl)
end A
namespace A
open Go.RowKit B WW WL WM
theorem ba_ext {s t:ByteArray} (h:s.data.toList=t.data.toList):s=t:=by
  cases s;cases t;simp only [ByteArray.mk.injEq];exact Array.toList_inj.mp h
theorem num_Parse_at (s:ByteArray) (lo hi:Int) (hs:s.size≤140737488351232):num_Parse.f s lo hi=some (parseL s.data.toList lo hi):=by
  unfold num_Parse.f;rw [if_pos hs]
end A
namespace A
open Go.RowKit B WW WL WM
theorem oL_extract (l:List UInt8) (a b:Nat):(oL l).extract a b=oL ((l.take b).drop a):=by
  apply ba_ext;simp [oL,ByteArray.data_extract,List.drop_take]
theorem oL_tail (l:List UInt8) (a:Nat):(oL l).extract a (oL l).size=oL (l.drop a):=by
  rw [oL_extract,oL_size,List.take_length]
theorem take_two {L:List UInt8} {i:Nat} {c d:UInt8} {r:List UInt8} (h:L.drop i=c :: d :: r):((oL L).extract i (i+2)).toList=[c,d]:=by
  rw [oL_extract,oL_toList,List.drop_take,h,show i+2 - i=2 by omega];rfl
theorem word_g (L:List UInt8) (i n kind most:Nat) (h:i+n≤L.length):words_word.g (oL L) (i:Int) (kind:Int) ((i+n:Nat):Int) (most:Int)=some (wordR (gS kind (L.drop i) i n most) i):=by
  unfold words_word.g wordR gS;rw [if_pos ⟨by omega,by rw [oL_size];omega⟩,Int.toNat_natCast,Int.toNat_natCast,oL_extract,List.drop_take,show i+n - i=n by omega,show ((i+n:Nat):Int) - (i:Int)=(n:Int) by omega];by_cases hm:most < n
  · rw [if_pos (by omega),if_pos (by omega),if_pos hm,if_pos hm];rfl
  · rw [if_neg (by omega),if_neg (by omega),if_neg hm,if_neg hm];rfl
theorem take_one {L:List UInt8} {i:Nat} {c:UInt8} {r:List UInt8} (h:L.drop i=c :: r):((oL L).extract i (i+1)).toList=[c]:=by
  rw [oL_extract,oL_toList,List.drop_take,h,show i+1 - i=1 by omega];rfl
theorem r6sign_j0 (L:List UInt8) (hL:L.length≤1000000) (i:Nat) (c:UInt8) (r:List UInt8) (h:L.drop i=c :: r):Ev (fun k=>rf06_sign.j0 k (oL L) (i:Int) false) ((oneSg c:Nat):Int):=by
  obtain ⟨h1,h2,h3⟩:=drop_at h;refine Ev.step (fun k=>by rw [rf06_sign.j0]) (Ev.no (by decide) (Ev.yes (by omega) ?_));rw [w_next i (by omega)];refine Ev.yes (by omega) (Ev.yes (by rw [oL_size];omega) ?_);rw [Int.toNat_natCast,Int.toNat_natCast];refine Ev.bind (r6in_ev _ _ (by decide)) ?_;rw [take_one h,one_list];have:oneSg c≤1:=by unfold oneSg;split <;> omega
  refine Ev.both (fun e=>Ev.is ?_) (fun e=>Ev.is ?_)
  · rw [decide_eq_true_iff] at e;omega
  · rw [decide_eq_true_iff] at e;omega
theorem r6sign_ev (L:List UInt8) (hL:L.length≤1000000) (i:Nat) (c:UInt8) (r:List UInt8) (h:L.drop i=c :: r):Ev (fun k=>rf06_sign.f k (oL L) (i:Int)) ((signN (c :: r):Nat):Int):=by
  obtain ⟨h1,h2,h3⟩:=drop_at h;have hl:=drop_len h;have key:=r6sign_j0 L hL i c r h;unfold rf06_sign.f;rw [show wrap64 ((i:Int)+2)=((i+2:Nat):Int) by unfold wrap64;omega,w_next i (by omega),oL_size]
  cases r with
 |nil=>rw [List.length_singleton] at hl;exact Ev.no (by omega) key
 |cons d r =>
    rw [List.length_cons,List.length_cons] at hl;refine Ev.yes (by omega) (Ev.yes (by omega) (Ev.yes (by omega) (Ev.yes (by omega) ?_)));rw [Int.toNat_natCast,Int.toNat_natCast];refine Ev.bind (r6in_ev _ _ (by decide)) ?_;rw [take_two h,two_list,signN];by_cases e:twoSg c d=true
    · rw [if_pos e,e]
      refine Ev.step (fun k=>by rw [rf06_sign.j0]) ?_;exact Ev.yes rfl (Ev.is rfl)
    · rw [if_neg e,Bool.eq_false_iff.mpr e]
      exact key
theorem r6num_j0 (L:List UInt8) (hL:L.length≤1000000) (i:Nat) (c:UInt8) (r:List UInt8) (h:L.drop i=c :: r) (m x:Int) (y:ByteArray) :
    ∃ v,Wd6 (gS 2 (c :: r) i (numN r+1) 60) i v∧Ev (fun k=>rf06_word.j0 k (oL L) (i:Int) m true x y (i:Int)) v:=by
  obtain ⟨h1,h2,h3⟩:=drop_at h;have hl:=drop_len h;rw [List.length_cons] at hl;have:=numN_le r;rw [← h];refine wd6_g L hL i (numN r+1) 2 60 (by omega) _ rfl ?_;refine Ev.step (fun k=>by rw [rf06_word.j0]) (Ev.yes rfl (Ev.bind (r6number_ev L hL i c r h) ?_));rw [show wrap64 (((i+(numN r+1):Nat):Int) - (i:Int))=((numN r+1:Nat):Int) by unfold wrap64;omega];refine Ev.both (fun e=>Ev.is ?_) (fun e=>Ev.yes (by omega) (Ev.yes (by omega) (Ev.yes (by rw [oL_size];omega) (Ev.is ?_))))
  · rw [if_pos (by omega)]
  · rw [if_neg (by omega),Int.toNat_natCast,Int.toNat_natCast,oL_extract,List.drop_take,show i+(numN r+1) - i=numN r+1 by omega];rfl
theorem r6sgn_j0 (L:List UInt8) (hL:L.length≤1000000) (i:Nat) (c:UInt8) (r:List UInt8) (h:L.drop i=c :: r) (x:Int) (y:ByteArray) :
    ∃ v,Wd6 (wordH (c :: r) i) i v∧Ev (fun k=>rf06_word.j0 k (oL L) (i:Int) 12 false x y (i:Int)) v:=by
  obtain ⟨h1,h2,h3⟩:=drop_at h;have hl:=drop_len h;rw [List.length_cons] at hl;have hle:=signN_le c r;rw [List.length_cons] at hle
  have h2s:signN (c :: r)≤2:=by
    have h:oneSg c≤1:=by unfold oneSg;split <;> omega
    cases r with
   |nil=>show oneSg c≤2;omega
   |cons d r=>rw [signN];split <;> omega
  unfold wordH;by_cases e:signN (c :: r)=0
  · rw [if_pos e]
    refine ⟨((0:Int),(⟨#[]⟩:ByteArray),(0:Int),(0:Int),(i:Int),(5:Int)),⟨rfl,fun _=>rfl,fun h=>by exact absurd h (by show ¬ (5=0);omega)⟩,?_⟩;refine Ev.step (fun k=>by rw [rf06_word.j0]) (Ev.no (by decide) (Ev.bind (r6sign_ev L hL i c r h) ?_));exact Ev.yes (by omega) (Ev.is rfl)
  · rw [if_neg e]
    have key:Ev (fun k=>rf06_word.j0 k (oL L) (i:Int) 12 false x y (i:Int)) ((4:Int),oL ((L.drop i).take (signN (c :: r))),(i:Int),((i+signN (c :: r):Nat):Int),0,0):=by
      refine Ev.step (fun k=>by rw [rf06_word.j0]) (Ev.no (by decide) (Ev.bind (r6sign_ev L hL i c r h) ?_));refine Ev.no (by omega) ?_;rw [show wrap64 ((i:Int)+(signN (c :: r):Int))=((i+signN (c :: r):Nat):Int) by unfold wrap64;omega,show wrap64 (((i+signN (c :: r):Nat):Int) - (i:Int))=(signN (c :: r):Int) by unfold wrap64;omega];refine Ev.no (by omega) (Ev.yes (by omega) (Ev.yes (by omega) (Ev.yes (by rw [oL_size];omega) (Ev.is ?_))));rw [Int.toNat_natCast,Int.toNat_natCast,oL_extract,List.drop_take,show i+signN (c :: r) - i=signN (c :: r) by omega]
    have:=wd6_g L hL i (signN (c :: r)) 4 60 (by omega) _ (by rw [if_neg (by omega)];rfl) key;rw [h] at this;exact this
theorem r6word_ev (L:List UInt8) (hL:L.length≤1000000) (i:Nat) (c:UInt8) (r:List UInt8) (h:L.drop i=c :: r) :
    ∃ v,Wd6 (wordS (c :: r) i) i v∧Ev (fun k=>rf06_word.f k (oL L) (i:Int)) v:=by
  obtain ⟨h1,h2,h3⟩:=drop_at h;have hl:=drop_len h;rw [List.length_cons] at hl;unfold rf06_word.f;rw [bt_oL,h2,r6letter_eq,r6digit_eq,w_next i (by omega),r6follows_eq,h3];simp only [Option.bind_some]
  rw [wordS_cons]
  have lift:∀ {w:Nat×List UInt8×Nat×Nat×Nat} {f:Nat→Option (Int×ByteArray×Int×Int×Int×Int)},(∃ v,Wd6 w i v∧Ev f v)→∃ v,Wd6 w i v∧Ev (fun k=>if (0:Int)≤(i:Int) then (if (i:Int) < ((oL L).size:Int) then f k else none) else none) v:=fun {w f} ⟨v,hv,he⟩ =>
    ⟨v,hv,Ev.yes (by omega) (Ev.yes (by rw [oL_size];omega) he)⟩
  refine lift ?_;by_cases q:c.toNat=34
  · rw [if_neg (by unfold isLet;rw [q];decide),if_neg (by rw [isDig_range];omega),if_pos q]
    have key:=r6text_l0 L hL i r.length r (i+1) [] (Nat.le_refl _) h3 (by omega) (Nat.zero_le _);refine ⟨_,?_,Ev.yes (by omega) (Ev.bind (show Ev (fun k=>rf06_text.f k (oL L) (i:Int)) _ from by unfold rf06_text.f;rw [w_next i (by omega)];exact key) (Ev.is rfl))⟩;generalize quoS i r (i+1) []=z;unfold Wd6 qS tR;by_cases z0:z.2.2.2=0
    · rw [if_pos z0,if_pos z0]
      by_cases z1:60 < z.1.length
      · rw [if_pos z1];dsimp only;rw [if_pos z1,if_pos z1];exact ⟨rfl,fun _=>rfl,fun h=>by omega⟩
      · rw [if_neg z1];dsimp only;rw [if_neg z1,if_neg z1];exact ⟨rfl,fun h=>absurd rfl h,fun _=>⟨rfl,rfl,rfl,rfl⟩⟩
    · rw [if_neg z0,if_neg z0];exact ⟨rfl,fun _=>rfl,fun h=>absurd h z0⟩
  · have skip:∀ {w:Nat×List UInt8×Nat×Nat×Nat} {f g:Nat→Option (Int×ByteArray×Int×Int×Int×Int)},(∃ v,Wd6 w i v∧Ev f v)→∃ v,Wd6 w i v∧Ev (fun k=>if (c.toNat:Int)=34 then g k else f k) v:=fun {w f g} ⟨v,hv,he⟩=>⟨v,hv,Ev.no (by omega) he⟩
    refine skip ?_;by_cases a:isLet c=true
    · rw [if_pos a]
      have:=nameN_le (c :: r);rw [List.length_cons] at this
      have key:Ev (fun k=>(rf06_name.f k (oL L) (i:Int)).bind fun t=>if wrap64 (t - (i:Int)) > 12 then (some ((0:Int),(⟨#[]⟩:ByteArray),(0:Int),(0:Int),(i:Int),(9:Int))) else (if (i:Int)≤t then (if t≤((oL L).size:Int) then (some ((1:Int),(oL L).extract (i:Int).toNat (t:Int).toNat,(i:Int),t,(0:Int),(0:Int))) else none) else none))
          (if 12 < nameN (c :: r) then (0,⟨#[]⟩,0,0,(i:Int),9) else ((1:Int),oL ((L.drop i).take (nameN (c :: r))),(i:Int),((i+nameN (c :: r):Nat):Int),0,0)):=by
        refine Ev.bind (r6name_l0 L hL (c :: r) i h (by omega)) ?_;rw [show wrap64 (((i+nameN (c :: r):Nat):Int) - (i:Int))=(nameN (c :: r):Int) by unfold wrap64;omega];refine Ev.both (fun e=>Ev.is ?_) (fun e=>Ev.yes (by omega) (Ev.yes (by rw [oL_size];omega) (Ev.is ?_)))
        · rw [if_pos (by omega)]
        · rw [if_neg (by omega),Int.toNat_natCast,Int.toNat_natCast,oL_extract,List.drop_take,show i+nameN (c :: r) - i=nameN (c :: r) by omega]
      obtain ⟨v,hv,he⟩:=wd6_g L hL i (nameN (c :: r)) 1 12 (by omega) _ rfl key;rw [h] at hv;exact ⟨v,hv,Ev.yes a he⟩
    · rw [if_neg a]
      by_cases d:isDig c=true
      · rw [if_pos (.inl d)]
        obtain ⟨v,hv,he⟩:=r6num_j0 L hL i c r h 12 1 ⟨#[]⟩;exact ⟨v,hv,Ev.no a (Ev.yes d he)⟩
      · by_cases m:c.toNat=45
        · cases b:headDig r with
         |true =>
            rw [if_pos (.inr ⟨m,rfl⟩)];obtain ⟨v,hv,he⟩:=r6num_j0 L hL i c r h 12 1 ⟨#[]⟩;exact ⟨v,hv,Ev.no a (Ev.no d (Ev.yes (by omega) he))⟩
         |false =>
            rw [if_neg (fun x=>x.elim d (fun y=>by cases y.2)),if_neg q];obtain ⟨v,hv,he⟩:=r6sgn_j0 L hL i c r h 1 ⟨#[]⟩;exact ⟨v,hv,Ev.no a (Ev.no d (Ev.yes (by omega) he))⟩
        · rw [if_neg (fun x=>x.elim d (fun y=>m y.1)),if_neg q]
          obtain ⟨v,hv,he⟩:=r6sgn_j0 L hL i c r h 1 ⟨#[]⟩;exact ⟨v,hv,Ev.no a (Ev.no d (Ev.no (by omega) he))⟩
end A

end Go.Proofs.YtkbgkekegjfkfaaGreatDoor