-- By pack.py, a program of this session's.
import Derived.Deep.Slices
import Derived.Handed
import Derived.Lib.SmallJoins
import Derived.Shelf.Vars
import Derived.SizedLaws
import Derived.Test.YtkbgkekegjfkfaaGreatDoorY21
import Derived.Test.YtkbgkekegjfkfaaGreatDoorY22
set_option linter.unusedVariables false
set_option linter.unusedSimpArgs false
namespace Go.Proofs.YtkbgkekegjfkfaaGreatDoor.A
open Go.RowKit B WW WL WM
theorem oL_data (s:ByteArray):oL s.data.toList=s:=rfl
def wdOf (w:Nat×List UInt8×Nat×Nat×Nat) (i:Nat):S73:=⟨(w.1:Int),oL w.2.1,(i:Int)⟩
def pre (x:S73) (q:List S73×Nat×Nat):List S73×Nat×Nat:=if q.2.2=0 then (x :: q.1,q.2.1,0) else ([],q.2.1,q.2.2)
def cutR:Nat→List UInt8→Nat→List S73×Nat×Nat
  | 0,R,i=>([],i+R.length,0)
  | _+1,[],i=>([],i,0)
  | f+1,c :: r,i=>if c.toNat=35 then ([],i+(r.length+1),0) else if c.toNat=32 then cutR f r (i+1) else
    if (wordS (c :: r) i).2.2.2.2=0 then pre (wdOf (wordS (c :: r) i) i) (cutR f ((c :: r).drop ((wordS (c :: r) i).2.2.1 - i)) (wordS (c :: r) i).2.2.1) else ([],(wordS (c :: r) i).2.2.2.1,(wordS (c :: r) i).2.2.2.2)
def outR (acc:List S73) (q:List S73×Nat×Nat):List S73×Int×Int:=if q.2.2=0 then (acc++q.1,(q.2.1:Int),0) else ([],(q.2.1:Int),(q.2.2:Int))
def cutW (L:List UInt8):List S73×Int×Int:=if 400 < L.length then ([],0,9) else outR [] (cutR L.length L 0)
theorem nameN_le (R:List UInt8):nameN R≤R.length:=by
  induction R with
  | nil=>exact Nat.le_refl 0
  | cons c r ih=>rw [nameN,List.length_cons];split <;> omega
theorem numN_le (R:List UInt8):numN R≤R.length:=by
  induction R with
  | nil=>exact Nat.le_refl 0
  | cons c r ih=>rw [numN,List.length_cons];split <;> split <;> omega
theorem signN_le (c:UInt8) (r:List UInt8):signN (c :: r)≤(c :: r).length:=by
  have h:oneSg c≤1:=by unfold oneSg;split <;> omega
  cases r with
  | nil=>exact h
  | cons d r=>rw [signN,List.length_cons,List.length_cons];split <;> omega
theorem word_h (L:List UInt8) (hL:L.length≤1000000) (i:Nat) (c:UInt8) (r:List UInt8) (h:L.drop i=c :: r) :
    Ev (fun k=>words_word.h k (oL L) (i:Int)) (wordR (if c.toNat=34 then qS i (quoS i r (i+1) []) else wordH (c :: r) i) i):=by
  obtain ⟨h1,h2,h3⟩:=drop_at h;have hl:=drop_len h;unfold words_word.h;rw [bt_oL,h2];refine Ev.both (fun q=>?_) (fun q=>?_)
  · rw [if_pos (by omega)]
    have key:=quoted_l0 L hL i r.length r (i+1) [] (Nat.le_refl _) h3 (by omega) (Nat.zero_le _);rw [← w_next i (by omega)] at key;refine Ev.bind (f:=fun k q=>if q.2.2.2≠0 then some ((3:Int),q.1,(i:Int),q.2.1,q.2.2.1,q.2.2.2) else some ((3:Int),q.1,(i:Int),q.2.1,if 60 < (q.1.size:Int) then (i:Int) else q.2.2.1,if 60 < (q.1.size:Int) then (9:Int) else 0)) key ?_;generalize quoS i r (i+1) []=z;unfold quoR;dsimp only
    refine Ev.both (fun e=>Ev.is ?_) (fun e=>Ev.is ?_)
    · unfold qS wordR;rw [if_neg (show ¬ (z.2.2.2=0) by omega)];rfl
    · unfold qS wordR;rw [if_pos (show z.2.2.2=0 by omega),oL_size]
      by_cases hm:60 < z.1.length
      · rw [if_pos (by omega),if_pos (by omega),if_pos hm,if_pos hm];rfl
      · rw [if_neg (by omega),if_neg (by omega),if_neg hm,if_neg hm];rfl
  · rw [if_neg (by omega)]
    refine Ev.bind (signEnd_ev L hL i c r h) ?_;have:=signN_le c r;rw [List.length_cons] at hl this;unfold wordH;refine Ev.both (fun e=>Ev.is ?_) (fun e=>?_)
    · rw [if_pos (by omega)];unfold wordR;rw [show i+signN (c :: r)=i by omega];rfl
    · rw [if_neg (by omega),← h]
      exact ⟨0,fun _ _=>word_g L i _ 4 60 (by rw [h];omega)⟩
theorem wordS_end (c:UInt8) (r:List UInt8) (i:Nat) (h:(wordS (c :: r) i).2.2.2.2=0):i < (wordS (c :: r) i).2.2.1∧(wordS (c :: r) i).2.2.1≤i+(r.length+1):=by
  revert h
  rw [wordS_cons];split
  · rename_i a
    intro _;have:=nameN_le (c :: r);rw [List.length_cons] at this;have e:nameN (c :: r)=nameN r+1:=by rw [nameN,if_pos (.inl a)]
    show i < i+nameN (c :: r)∧i+nameN (c :: r)≤_
    omega
  split
  · intro _
    have:=numN_le r;show i < i+(numN r+1)∧i+(numN r+1)≤_
    omega
  split
  · have:=quoS_end i r.length r (i+1) [] (Nat.le_refl _)
    generalize quoS i r (i+1) []=z at *;unfold qS;split
    · rename_i hz;intro _;have:=this hz;dsimp only;omega
    · rename_i hz;intro h;exact absurd h hz
  · unfold wordH
    split
    · intro h;exact absurd h (by show ¬ (5=0);omega)
    · intro _
      have:=signN_le c r;rw [List.length_cons] at this;show i < i+signN (c :: r)∧i+signN (c :: r)≤_
      omega
theorem outR_pre (acc:List S73) (x:S73) (q:List S73×Nat×Nat):outR (acc++[x]) q=outR acc (pre x q):=by
  unfold outR pre;by_cases h:q.2.2=0
  · rw [if_pos h,if_pos h,if_pos rfl,List.append_assoc];rfl
  · rw [if_neg h,if_neg h,if_neg h]
theorem r6letter_eq (c:UInt8):rf06_letter.f (c.toNat:Int)=some (isLet c):=by
  have h:∀ n:Nat,n < 256→rf06_letter.f (n:Int)=some ((decide (97≤n) && decide (n≤122)) || ((decide (65≤n) && decide (n≤90)) || decide (n=95))):=by decide +kernel
  exact h c.toNat c.toNat_lt
theorem r6digit_eq (c:UInt8):rf06_digit.f (c.toNat:Int)=some (isDig c):=by
  have h:∀ n:Nat,n < 256→rf06_digit.f (n:Int)=some (decide (48≤n∧n≤57)):=by decide +kernel
  rw [h c.toNat c.toNat_lt];congr 1
  rw [Bool.eq_iff_iff,decide_eq_true_iff,isDig_range]
theorem take_app {α:Type} (a b:List α) (n:Nat) (h:a.length=n):(a++b).take n=a:=by subst h;rw [List.take_left]
theorem drop_app {α:Type} (a b:List α) (n:Nat) (h:a.length=n):(a++b).drop n=b:=by subst h;rw [List.drop_left]
theorem dparse_dtext (K:Nat) (n:Int) (hK:K < 3600) (ha:first K≤n) (hb:n < first (K+1)):dparse (dtext K n)=(n,0):=by
  have hd:=day_small hK ha hb;have hs:first (K+1)=first K+lenK K:=rfl
  have hl:=dtext_len K n;unfold dparse;obtain ⟨D,hD⟩:∃ D,D=(n - first K+1).toNat:=⟨_,rfl⟩
  have hD2:1≤D∧D≤31:=by omega
  have p4:(dtext K n).take 4=digs 4 (1900+K / 12):=take_app _ _ 4 (digs_length _ _);have q4:(dtext K n).drop 4=45 :: (digs 2 (K % 12+1)++45 :: digs 2 D):=by rw [hD];exact drop_app _ _ 4 (digs_length _ _)
  have q5:(dtext K n).drop 5=digs 2 (K % 12+1)++45 :: digs 2 D:=by rw [show 5=4+1 from rfl,← List.drop_drop,q4];rfl
  have q7:(dtext K n).drop 7=45 :: digs 2 D:=by rw [show 7=5+2 from rfl,← List.drop_drop,q5];exact drop_app _ _ 2 (digs_length _ _)
  have q8:(dtext K n).drop 8=digs 2 D:=by rw [show 8=7+1 from rfl,← List.drop_drop,q7];rfl
  have p57:((dtext K n).take 7).drop 5=digs 2 (K % 12+1):=by rw [List.drop_take,q5];exact take_app _ _ 2 (digs_length _ _)
  have g4:(dtext K n).getD 4 0=45:=by
    rw [List.getD_eq_getElem?_getD,← List.head?_drop,q4];rfl
  have g7:(dtext K n).getD 7 0=45:=by
    rw [List.getD_eq_getElem?_getD,← List.head?_drop,q7];rfl
  have hDP:DP (dtext K n):=⟨hl,g4,g7,by rw [p4];exact digs_all _ _,by rw [p57];exact digs_all _ _,by rw [q8];exact digs_all _ _⟩
  rw [if_pos hDP,p4,p57,q8,dval_digs0,dval_digs0,dval_digs0];rw [Nat.mod_eq_of_lt (show 1900+K / 12 < 10 ^ 4 by omega),Nat.mod_eq_of_lt (show K % 12+1 < 10 ^ 2 by omega),Nat.mod_eq_of_lt (show D < 10 ^ 2 by omega)];unfold ofS;have e:12 * (1900+K / 12 - 1900)+(K % 12+1 - 1)=K:=by omega
  have hy:ymS (1900+K / 12) (K % 12+1)=lenK K:=by
    unfold ymS lenK;rw [if_pos (by omega),show 1900+K / 12 - 1900=K / 12 by omega,show K % 12+1 - 1=K % 12 by omega]
  rw [if_pos ⟨by omega,by omega,by omega,by rw [hy];omega⟩,e];congr 1;omega
theorem isWdB_eq (c:UInt8):isWdB c=(isLet c || isDig c):=by
  have h:∀ n:Nat,n < 256→isWdB (UInt8.ofNat n)=(isLet (UInt8.ofNat n) || isDig (UInt8.ofNat n)):=by decide +kernel
  have:=h c.toNat c.toNat_lt;rwa [UInt8.ofNat_toNat] at this
theorem r6Code_l0 (L:List UInt8) (hL:L.length≤1000000) (R:List UInt8):∀ P:List UInt8,P++R=L→P.all isWdB=true→Ev (fun k=>rf06_Code.l0 k (oL L) (P.length:Int)) (codeW L):=by
  induction R with
  | nil =>
    intro P h hP;rw [List.append_nil] at h;subst h;refine Ev.step (fun k=>by rw [rf06_Code.l0]) (Ev.no (by rw [oL_size];omega) ?_);rw [oL_size];unfold codeW;rw [hP,Bool.and_true];refine Ev.both (fun e=>Ev.is ?_) (fun e=>Ev.is ?_)
    · have:P.isEmpty=false:=by cases P with
        | nil=>simp at e
        | cons c r=>rfl
      rw [this];show _=(decide (P.length≤12))
      rw [Bool.eq_iff_iff,decide_eq_true_iff,decide_eq_true_iff];omega
    · have:P=[]:=List.eq_nil_of_length_eq_zero (by omega)
      subst this;rfl
  | cons c r ih =>
    intro P h hP;have hl:P.length+(r.length+1)=L.length:=by rw [← h,List.length_append,List.length_cons]
    have hg:L.getD P.length 0=c:=by rw [← h,List.getD_eq_getElem?_getD,List.getElem?_append_right (Nat.le_refl _),Nat.sub_self];rfl
    refine Ev.step (fun k=>by rw [rf06_Code.l0]) (Ev.yes (by rw [oL_size];omega) (Ev.yes (by omega) ?_));rw [bt_oL,hg,r6letter_eq,r6digit_eq,w_next P.length (by omega)];simp only [Option.bind_some]
    have key:isWdB c=true→Ev (fun k=>rf06_Code.l0 k (oL L) ((P.length+1:Nat):Int)) (codeW L):=fun hc=>by
      have:=ih (P++[c]) (by rw [List.append_assoc];exact h) (by rw [List.all_append,hP,List.all_cons,hc];rfl);rw [List.length_append,List.length_singleton] at this;exact this
    refine Ev.both (fun a=>key (by rw [isWdB_eq,a];rfl)) (fun a=>Ev.both (fun b=>key (by rw [isWdB_eq,b,Bool.or_true])) (fun b=>Ev.is ?_));unfold codeW
    have:L.all isWdB=false:=by
      rw [← h,List.all_append,List.all_cons,isWdB_eq,Bool.eq_false_iff.mpr a,Bool.eq_false_iff.mpr b];simp
    rw [this,Bool.and_false,Bool.and_false]
theorem ref06_Code_ev (L:List UInt8) (hL:L.length≤1000000):Ev (fun k=>rf06_Code.f k (oL L)) (codeW L):=by
  unfold rf06_Code.f;exact r6Code_l0 L hL L [] rfl rfl
theorem ref06_Code_at (s:ByteArray) (hs:s.size≤1000000):Ev (fun k=>rf06_Code.f k s) (codeW s.data.toList):=ref06_Code_ev s.data.toList (by rw [← size_eq'];exact hs)
theorem words_Code_at (s:ByteArray) (hs:s.size≤1000000):words_Code.f s=some (codeW s.data.toList):=by unfold words_Code.f;rw [if_pos (by omega)]
theorem words_Plain_at (s:ByteArray) (hs:s.size≤1000000):words_Plain.f s=some (plainW s.data.toList):=by unfold words_Plain.f;rw [if_pos (by omega)]
def monIx:Nat→Int→Nat
  | 0,_=>0
  | N+1,n=>if n < first N then monIx N n else N
theorem monIx_is (N:Nat) (n:Int) (h0:0≤n) (h:n < first N):monIx N n < N∧first (monIx N n)≤n∧n < first (monIx N n+1):=by
  induction N with
  | zero=>exact absurd h (by show ¬ n < 0;omega)
  | succ N ih =>
    unfold monIx;by_cases e:n < first N
    · rw [if_pos e]
      obtain ⟨a,b⟩:=ih e;exact ⟨by omega,b⟩
    · rw [if_neg e]
      exact ⟨by omega,by omega,h⟩
def dtx (n:Int):List UInt8:=dtext (monIx 3600 n) n
theorem day_mon {n:Int} (h:dayB n=true):monIx 3600 n < 3600∧n≤109572∧first (monIx 3600 n)≤n∧n < first (monIx 3600 n+1):=by
  unfold dayB at h;rw [decide_eq_true_iff] at h;obtain ⟨a,b,c⟩:=monIx_is 3600 n h.1 (by rw [first_end];omega);exact ⟨a,h.2,b,c⟩
theorem dparse_dtx {n:Int} (h:dayB n=true):dparse (dtx n)=(n,0):=by
  obtain ⟨a,b,c,d⟩:=day_mon h;exact dparse_dtext _ n a c d
def quoteS (l:List UInt8):ByteArray×Int:=if plainW l=true then (oL (quoL l),0) else (⟨#[]⟩,5)
theorem escL_len (l:List UInt8):(escL l).length≤2 * l.length:=by
  induction l with
  | nil=>exact Nat.le_refl 0
  | cons c r ih=>rw [escL];split <;> simp only [List.length_cons] <;> omega
theorem quoteS_size (l:List UInt8):(quoteS l).1.size≤122:=by
  unfold quoteS;split
  · rename_i h
    unfold plainW at h;rw [Bool.and_eq_true,decide_eq_true_iff] at h;have:=escL_len l;show (oL (quoL l)).size≤122
    rw [oL_size,quoL,List.length_cons,List.length_append,List.length_singleton];omega
  · exact Nat.zero_le _
theorem words_Quote_l0 (L:List UInt8) (hL:L.length≤1000000) (R:List UInt8):∀ (i:Nat) (acc:List UInt8),L.drop i=R→i≤L.length→acc.length≤2 * i+1 →
    Ev (fun k=>words_Quote.l0 k (oL L) (toI acc) (L.length:Int) (i:Int)) (oL (acc++(escL R++[34])),0):=by
  induction R with
  | nil =>
    intro i acc h hi ha;have:=drop_end h;refine Ev.step (fun k=>by rw [words_Quote.l0]) (Ev.no (by omega) ?_);rw [toI_len];refine Ev.yes (by omega) (Ev.is ?_);rw [show toI acc++[34]=toI (acc++[34]) from toI_snoc acc 34,strOf_toI];rfl
  | cons c r ih =>
    intro i acc h hi ha;obtain ⟨h1,h2,h3⟩:=drop_at h;refine Ev.step (fun k=>by rw [words_Quote.l0]) (Ev.yes (by omega) (Ev.yes (by omega) (Ev.yes (by rw [oL_size];omega) ?_)));rw [bt_oL,h2,w_next i (by omega),toI_len]
    have two:(c.toNat=34∨c.toNat=92)→Ev (fun k=>if acc.length < 140737488355328 then ((some (toI acc++[92]:List Int)).bind fun y=>(if y.length < 140737488355328 then (words_Quote.l0 k (oL L) (y++[(c.toNat:Int)]) (L.length:Int) ((i+1:Nat):Int)) else none)) else none) (oL (acc++(escL (c :: r)++[34])),0):=fun hc=>by
      refine Ev.yes (by omega) ?_;rw [show toI acc++[92]=toI (acc++[92]) from toI_snoc acc 92];simp only [Option.bind_some]
      rw [toI_len,toI_snoc];refine Ev.yes (by rw [List.length_append,List.length_singleton];omega) ?_;have:=ih (i+1) (acc++[92]++[c]) h3 (by omega) (by rw [List.length_append,List.length_append,List.length_singleton,List.length_singleton];omega);have e:acc++[92]++[c]++(escL r++[34])=acc++(escL (c :: r)++[34]):=by rw [escL,if_pos hc];simp
      rw [e] at this;exact this
    refine Ev.both (fun q=>two (by omega)) (fun q=>Ev.both (fun q2=>two (by omega)) (fun q2=>Ev.yes (by omega) ?_));rw [toI_snoc];have:=ih (i+1) (acc++[c]) h3 (by omega) (by rw [List.length_append,List.length_singleton];omega);have e:acc++[c]++(escL r++[34])=acc++(escL (c :: r)++[34]):=by rw [escL,if_neg (by omega)];simp
    rw [e] at this;exact this
theorem words_Quote_ev (s:ByteArray) (hs:s.size≤1000000):Ev (fun k=>words_Quote.f k s) (quoteS s.data.toList):=by
  have hl:s.data.toList.length≤1000000:=by rw [← size_eq'];exact hs
  unfold words_Quote.f quoteS;rw [words_Plain_at s hs];simp only [Option.bind_some]
  refine Ev.both (fun h=>?_) (fun h=>Ev.is (by rw [if_neg h]));rw [if_pos h];have:=words_Quote_l0 s.data.toList hl s.data.toList 0 [34] rfl (Nat.zero_le _) (Nat.le_refl _);rw [← size_eq'] at this;exact this
theorem rules_counts_eq (f:Int):rules_counts.f f=some (numB f):=by
  unfold rules_counts.f numB;by_cases h:f=1
  · rw [if_pos h,decide_eq_true (Or.inl h)]
  · rw [if_neg h];congr 1;rw [Bool.eq_iff_iff,beq_iff_eq,decide_eq_true_iff];omega
theorem r48_number_eq (f:Int):rf48_number.f f=some (numB f):=rules_counts_eq f
theorem suits_at (f o:Int):Ev (fun k=>rules_suits.f k f o) (suitB f o):=by
  have j:∀ b:Bool,(b=true ↔ ¬ (1≤f∧f≤4))→Ev (fun k=>rules_suits.j0 k f o b) (suitB f o):=fun b hb=>by
    refine Ev.step (fun k=>by rw [rules_suits.j0]) ?_;unfold suitB;refine Ev.both (fun h=>Ev.is ?_) (fun h=>Ev.both (fun a=>Ev.is ?_) (fun a=>?_))
    · have:=hb.mp h;exact (decide_eq_false (by omega)).symm
    · have:1≤f∧f≤4:=Decidable.byContradiction fun x=>h (hb.mpr x)
      exact (decide_eq_true (by omega)).symm
    have h4:1≤f∧f≤4:=Decidable.byContradiction fun x=>h (hb.mpr x)
    rw [rules_counts_eq];simp only [Option.bind_some]
    unfold numB;refine Ev.both (fun c=>?_) (fun c=>?_)
    · rw [decide_eq_true_iff] at c
      refine Ev.both (fun d=>Ev.is ?_) (fun d=>Ev.is ?_)
      · exact (decide_eq_true (by omega)).symm
      · rw [Bool.eq_iff_iff,beq_iff_eq,decide_eq_true_iff];omega
    · rw [decide_eq_true_iff] at c
      refine Ev.both (fun d=>Ev.is ?_) (fun d=>Ev.is ?_)
      · exact (decide_eq_true (by omega)).symm
      · rw [Bool.eq_iff_iff,beq_iff_eq,decide_eq_true_iff];omega
  unfold rules_suits.f;refine Ev.both (fun a=>j _ ⟨fun _=>by omega,fun _=>rfl⟩) (fun a=>j _ ?_);rw [decide_eq_true_iff];omega
theorem r04_Is_eq (n:Int):rf04_Is.f n=some (dayB n):=by
  unfold rf04_Is.f dayB;by_cases h:n ≥ 0
  · rw [if_pos h];congr 1;rw [Bool.eq_iff_iff,decide_eq_true_iff,decide_eq_true_iff];omega
  · rw [if_neg h,decide_eq_false (by omega)]
def tagL:Option ByteArray→List S50→Bool
  | _,[]=>true
  | p,t :: r=>codeW t.f0.data.toList && codeW t.f1.data.toList && (match p with | none=>true | some q=>Op.bytesLess q.toList t.f0.toList) && tagL (some t.f0) r
theorem tagL_nil (p:Option ByteArray):tagL p []=true:=by cases p <;> rfl
theorem tagL_cons (p:Option ByteArray) (t:S50) (r:List S50):tagL p (t :: r)=(codeW t.f0.data.toList && codeW t.f1.data.toList && (match p with | none=>true | some q=>Op.bytesLess q.toList t.f0.toList) && tagL (some t.f0) r):=by cases p <;> rfl
def tagsOk (tg:List S50):Bool:=decide (tg.length≤6) && tagL none tg
def ShortT (tg:List S50):Prop:=∀ x∈tg,x.f0.size≤1000000∧x.f1.size≤1000000
def ShortC (cs:List S48):Prop:=∀ x∈cs,x.f2.size≤1000000
theorem rd48_at {l:List S48} {i:Nat} {x:S48} {r:List S48} (h:l.drop i=x :: r):i < l.length∧rd_T48 l (i:Int)=x∧l.drop (i+1)=r:=by
  have hlt:i < l.length:=by
    rcases Nat.lt_or_ge i l.length with h1 | h1
    · exact h1
    · rw [List.drop_eq_nil_of_le h1] at h;cases h
  rw [List.drop_eq_getElem_cons hlt] at h;obtain ⟨h1,h2⟩:=List.cons.inj h;refine ⟨hlt,?_,h2⟩;unfold rd_T48;rw [Int.toNat_natCast,List.getD_eq_getElem?_getD,List.getElem?_eq_getElem hlt,← h1];rfl
def prevT (l:List S50) (i:Nat):Option ByteArray:=if i=0 then none else some (rd_T50 l ((i - 1:Nat):Int)).f0
theorem dims_codes_eq (a b:ByteArray) (ha:a.size≤1000000) (hb:b.size≤1000000):dims_codes.f a b=some (codeW a.data.toList && codeW b.data.toList):=by
  unfold dims_codes.f;rw [words_Code_at a ha,words_Code_at b hb];simp only [Option.bind_some]
  cases codeW a.data.toList <;> simp
theorem r09_named_ev (a b:ByteArray) (ha:a.size≤1000000) (hb:b.size≤1000000):Ev (fun k=>rf09_named.f k a b) (codeW a.data.toList && codeW b.data.toList):=by
  unfold rf09_named.f;exact Ev.bind (ref06_Code_at a ha) (Ev.both (fun e=>Ev.bind (ref06_Code_at b hb) (Ev.is (by rw [e,Bool.true_and]))) (fun e=>Ev.is (by rw [Bool.eq_false_iff.mpr e,Bool.false_and])))
def nameB (nm acc par:ByteArray):Bool:=codeW nm.data.toList && codeW acc.data.toList && (decide (par.toList=[]) || codeW par.data.toList)
def FitR (nm:ByteArray) (cs:List S48) (acc par:ByteArray) (tg:List S50):Prop :=
  (nm.size≤140737488351232∧acc.size≤140737488351232∧par.size≤140737488351232)∧(∀ x∈cs,x.f2.size≤140737488351232)∧∀ x∈tg,x.f0.size≤140737488351232∧x.f1.size≤140737488351232
def bigC:List S48→Bool
  | []=>false
  | c :: r=>if (c.f2.size:Int) > 400 then true else bigC r
def bigT:List S50→Bool
  | []=>false
  | t :: r=>if (t.f0.size:Int)+(t.f1.size:Int) > 400 then true else bigT r
def largeS (nm:ByteArray) (cs:List S48) (acc par:ByteArray) (tg:List S50):Bool :=
  if (20 < cs.length∨20 < tg.length∨400 < nm.size+acc.size+par.size) then true else if bigC cs=true then true else bigT tg
theorem bigC_all {cs:List S48} (h:¬ bigC cs=true):∀ x∈cs,x.f2.size≤400:=by
  induction cs with
  | nil=>intro x hx;cases hx
  | cons y r ih =>
    rw [bigC] at h;split at h
    · exact absurd rfl h
    intro x hx;rcases List.mem_cons.mp hx with rfl | hx
    · omega
    · exact ih h x hx
theorem bigT_all {tg:List S50} (h:¬ bigT tg=true):∀ x∈tg,x.f0.size+x.f1.size≤400:=by
  induction tg with
  | nil=>intro x hx;cases hx
  | cons y r ih =>
    rw [bigT] at h;split at h
    · exact absurd rfl h
    intro x hx;rcases List.mem_cons.mp hx with rfl | hx
    · omega
    · exact ih h x hx
def opdS (c:S48):List UInt8:=if c.f0=1 then Lib.itoa c.f3 else if c.f0=4 then dtx c.f3 else quoL c.f2.data.toList
def condsW:List UInt8→List S48→List (List UInt8)
  | _,[]=>[]
  | link,c :: r=>link :: kF c.f0 :: kO c.f1 :: opdS c :: condsW [97,110,100] r
theorem tailW_append (a b:List (List UInt8)):tailW (a++b)=tailW a++tailW b:=by unfold tailW;rw [List.map_append,List.flatten_append]
theorem dtx_len {n:Int} (h:dayB n=true):(dtx n).length≤100:=by unfold dtx;rw [dtext_len];decide
theorem fieldL_at {f:Int} (h:1≤f∧f≤4):nmd fieldL f=some (oL (kF f)):=by
  have:f=1∨f=2∨f=3∨f=4:=by omega
  rcases this with rfl | rfl | rfl | rfl <;> rfl
theorem opL_at {o:Int} (h:1≤o∧o≤5):nmd opL o=some (oL (kO o)):=by
  have:o=1∨o=2∨o=3∨o=4∨o=5:=by omega
  rcases this with rfl | rfl | rfl | rfl | rfl <;> rfl
theorem joinB_eq (w:List UInt8) (r:List (List UInt8)):joinB ((w :: r).map oL)=oL (w++tailW r):=by
  unfold joinB;rw [List.map_map,show (fun x:ByteArray=>x.data.toList) ∘ oL=id from rfl,List.map_id,Lib.join_cons];rfl
theorem r48_field_at {f:Int} (h:1≤f∧f≤4):rf48_field.f f=some (oL (kF f)):=by
  have:f=1∨f=2∨f=3∨f=4:=by omega
  rcases this with rfl | rfl | rfl | rfl <;> rfl
theorem r48_oper_at {o:Int} (h:1≤o∧o≤5):rf48_operator.f o=some (oL (kO o)):=by
  have:o=1∨o=2∨o=3∨o=4∨o=5:=by omega
  rcases this with rfl | rfl | rfl | rfl | rfl <;> rfl
theorem isWd_or {c:UInt8} (h:isWdB c=true):isLet c=true∨isDig c=true:=by
  rw [isWdB_eq,Bool.or_eq_true] at h;exact h
theorem dig_wd {c:UInt8} (h:isDig c=true):isWdB c=true:=by rw [isWdB_eq,h,Bool.or_true]
theorem digs_wd {w:List UInt8} (h:w.all isDig=true):w.all isWdB=true:=by
  rw [List.all_eq_true] at h ⊢;exact fun x hx=>dig_wd (h x hx)
def Cuts (R:List UInt8) (ps:List (Nat×List UInt8)):Prop:=∀ f i,R.length≤f→∃ ws j,cutR f R i=(ws,j,0)∧ws.map (fun (x:S73)=>(x.f0,x.f1))=ps.map (fun p=>((p.1:Int),oL p.2))
theorem Cuts.sp {R:List UInt8} {ps:List (Nat×List UInt8)} (h:Cuts R ps):Cuts (32 :: R) ps:=fun f i hf=>by
  cases f with
  | zero=>simp at hf
  | succ f =>
    rw [List.length_cons] at hf;obtain ⟨ws,j,h1,h2⟩:=h f (i+1) (by omega);exact ⟨ws,j,by rw [cutR,if_neg (by decide),if_pos (by decide)];exact h1,h2⟩
theorem Cuts.cutW {R:List UInt8} {ps:List (Nat×List UInt8)} (h:Cuts R ps) (hl:R.length≤400):∃ ws j,Go.Proofs.YtkbgkekegjfkfaaGreatDoor.A.cutW R=(ws,j,0)∧ws.map (fun (x:S73)=>(x.f0,x.f1))=ps.map (fun p=>((p.1:Int),oL p.2)):=by
  obtain ⟨ws,j,h1,h2⟩:=h R.length 0 (Nat.le_refl _);refine ⟨ws,(j:Int),?_,h2⟩;unfold Go.Proofs.YtkbgkekegjfkfaaGreatDoor.A.cutW;rw [if_neg (by omega),h1];rfl
theorem digs_ne {d u:Nat} (h:0 < d):digs d u≠[]:=by
  intro e;have:=digs_length d u;rw [e] at this;simp at this;omega
abbrev keyX (x:S73):Int×ByteArray:=(x.f0,x.f1)
def oT (c:S48):Tri:=if c.f0=1∨c.f0=4 then (opdS c,2,opdS c) else (opdS c,3,c.f2.data.toList)
def condsT:List UInt8→List S48→List Tri
  | _,[]=>[]
  | link,c :: r=>wT link :: wT (kF c.f0) :: wT (kO c.f1) :: oT c :: condsT [97,110,100] r
def tagsT:List S50→List Tri
  | []=>[]
  | t :: r=>wT [116,97,103] :: cT t.f0.data.toList :: eqT :: cT t.f1.data.toList :: tagsT r
def restT (nm:ByteArray) (cs:List S48) (acc par:ByteArray) (tg:List S50):List Tri :=
  cT nm.data.toList :: (condsT [105,102] cs++(wT [116,104,101,110] :: cT acc.data.toList :: (partyT par++tagsT tg)))
theorem keyB_at {x:S73} {n:Nat} {w:List UInt8} (h:keyX x=((n:Int),oL w)) (v:List UInt8):keyB x (oL v)=decide (n=1∧w=v):=by
  obtain ⟨h0,h1⟩:=Prod.mk.inj h;show decide (x.f0=1∧x.f1.toList=(oL v).toList)=_
  rw [h0,h1,oL_toList,oL_toList,Bool.eq_iff_iff,decide_eq_true_iff,decide_eq_true_iff];exact and_congr_left fun _=>by omega
theorem rd48_last (C:List S48) (b:S48):rd_T48 (C++[b]) (((C++[b]).length - 1:Nat):Int)=b:=by
  unfold rd_T48;rw [Int.toNat_natCast,List.length_append,List.length_singleton,Nat.add_sub_cancel,List.getD_eq_getElem?_getD,List.getElem?_append_right (Nat.le_refl _),Nat.sub_self];rfl
theorem rd50_last (C:List S50) (b:S50):rd_T50 (C++[b]) (((C++[b]).length - 1:Nat):Int)=b:=by
  unfold rd_T50;rw [Int.toNat_natCast,List.length_append,List.length_singleton,Nat.add_sub_cancel,List.getD_eq_getElem?_getD,List.getElem?_append_right (Nat.le_refl _),Nat.sub_self];rfl
def blankC (c:S48):S48:=⟨c.f0,c.f1,⟨#[]⟩,0⟩
end Go.Proofs.YtkbgkekegjfkfaaGreatDoor.A
namespace Go.Proofs.YtkbgkekegjfkfaaGreatDoor.B
open Go.Deep Go.ChangeShapes Go.WideShapes Go.ChangeAt Go.Joins WW
theorem arg_weights {H:Type} {P:Program} {ts:List TypeId} {ds:List (DataW H)} {j:Nat} {t:TypeId} {d:DataW H} (hsz:(DataW.weightsEach P ts ds).all (·≤reachBytes)=true) (ht:ts[j]?=some t) (hd:ds[j]?=some d):∀ x∈d.weights P t,x≤reachBytes :=
  fun x hx=>by simpa using List.all_eq_true.1 hsz x (DataW.weights_mem_each ht hd x hx)
structure Opens {α:Type} (P:Program) (t:TypeId) (d:Kd α) (G:α→Prop):Prop where
  size:P.cellsOf t=d.sz
  get:∀ {H:Type} {enc:TypeId×Value→H} {W:World} {base:Nat} {spare:Nat→Bool} {held:Bool} {n:Nat} {cs:List Value} {y:DataW H×List MemPlace},DataW.trod enc P W base spare held n t cs=some y→(∀ x∈y.1.weights P t,x≤reachBytes)→∃ a,d.K W a cs∧G a
theorem Opens.int {P:Program} {t:TypeId} {k:IntKind} (ht:P.underlying t=some (.int k)) (hc:P.cellsOf t=1):Opens P t (Kd.int k) (fun x=>(Lit.int k x).wf=true) where
  size:=hc
  get h _:=by
    obtain ⟨x,rfl,_,hw⟩:=DataW.trod_int ht h;exact ⟨x,rfl,hw⟩
theorem Opens.string {P:Program} {t:TypeId} (ht:P.underlying t=some .string) (hc:P.cellsOf t=1):Opens P t Kd.string (fun s=>s.size≤140737488351232) where
  size:=hc
  get h hw:=by
    obtain ⟨x,rfl,rfl,_⟩:=DataW.trod_string ht h;refine ⟨x,rfl,?_⟩;have:=hw x.data.toList.length (by simp [DataW.weights]);rw [data_length] at this;exact this
theorem Opens.iso {α β:Type} {P:Program} {t:TypeId} {d:Kd α} {G:α→Prop} {G':β→Prop} (h:Opens P t d G) (f:β→α) (g:α→β) (hfg:∀ a,f (g a)=a) (hG:∀ a,G a→G' (g a)):Opens P t (Kd.iso d f) G' where
  size:=h.size
  get hh hw:=by
    obtain ⟨a,ha,hg⟩:=h.get hh hw;refine ⟨g a,?_,hG a hg⟩;show d.K _ (f (g a)) _
    rw [hfg];exact ha
structure OpensF {α:Type} (P:Program) (fs:List Field) (o:Nat) (d:Kd α) (G:α→Prop):Prop where
  get:∀ {H:Type} {enc:TypeId×Value→H} {W:World} {base:Nat} {spare:Nat→Bool} {held:Bool} {n:Nat} {cs:List Value},o+d.sz≤cs.length→(∀ f∈fs,∃ y,DataW.trod enc P W base spare held n f.type ((cs.drop f.offset).take (P.cellsOf f.type))=some y∧∀ x∈y.1.weights P f.type,x≤reachBytes) →
    ∃ a,d.K W a ((cs.drop o).take d.sz)∧G a
theorem OpensF.one {α:Type} {P:Program} {f:Field} {o:Nat} {d:Kd α} {G:α→Prop} (h:Opens P f.type d G) (ho:f.offset=o):OpensF P [f] o d G where
  get _ hf:=by
    obtain ⟨y,hy,hw⟩:=hf f (List.mem_singleton.mpr rfl);rw [ho,h.size] at hy;exact h.get hy hw
theorem OpensF.cons {α β:Type} {P:Program} {f:Field} {fs:List Field} {o o':Nat} {d:Kd α} {e:Kd β} {G:α→Prop} {G':β→Prop} (h:Opens P f.type d G) (ho:f.offset=o) (h':OpensF P fs o' e G') (ho':o'=o+d.sz) :
    OpensF P (f :: fs) o (Kd.pair d e) (fun x=>G x.1∧G' x.2) where
  get:=by
    intro H enc W base spare held n cs hl hf;have hsz:(Kd.pair d e).sz=d.sz+e.sz:=rfl;rw [hsz] at hl ⊢;obtain ⟨y,hy,hw⟩:=hf f (List.mem_cons_self ..);rw [ho,h.size] at hy;obtain ⟨a,ha,hg⟩:=h.get hy hw;obtain ⟨b,hb,hg'⟩:=h'.get (by omega) (fun f' hf'=>hf f' (List.mem_cons_of_mem _ hf'));refine ⟨(a,b),⟨_,_,?_,ha,hb⟩,hg,hg'⟩;rw [ho',← List.drop_drop,List.take_add]
theorem Opens.struct {α:Type} {P:Program} {t:TypeId} {fs:Array Field} {d:Kd α} {G:α→Prop} (ht:P.underlying t=some (.struct fs)) (hc:P.cellsOf t=d.sz) (h:OpensF P fs.toList 0 d G):Opens P t d G where
  size:=hc
  get:=by
    intro H enc W base spare held n cs y hh hw;obtain ⟨xs,n,_,rfl,hl,hlen,hf⟩:=DataW.trod_struct ht hh;rw [hc] at hl
    have hw':∀ x∈DataW.weightsEach P (fs.toList.map (·.type)) (xs.map (·.1)),x≤reachBytes:=by
      intro x hx;refine hw x ?_;show x∈DataW.weights P t (.agg (xs.map (·.1)))
      rw [DataW.weights,ht];exact hx
    obtain ⟨a,ha,hg⟩:=h.get (cs:=cs) (by omega) (fun f hm=>by
      obtain ⟨i,hi,rfl⟩:=List.getElem_of_mem hm;have hi':i < fs.size:=by simpa using hi
      have:=hf i fs[i] (Array.getElem?_eq_getElem hi');rw [Array.getElem_toList];have hx9:xs[i]?=some xs[i]:=List.getElem?_eq_getElem (by omega);refine ⟨_,this.trans hx9,fun x hx=>hw' x (DataW.weights_mem_each (j:=i) (t:=fs[i].type) (d:=xs[i].1) ?_ ?_ x hx)⟩
      · rw [List.getElem?_map,List.getElem?_eq_getElem hi,Array.getElem_toList];rfl
      · rw [List.getElem?_map,hx9];rfl)
    rw [List.drop_zero,← hl,List.take_length] at ha;exact ⟨a,ha,hg⟩
theorem Opens.agg {α:Type} {P:Program} {t:TypeId} {fs:Array Field} {d:Kd α} {G:α→Prop} (h:Opens P t d G) (ht:P.underlying t=some (.struct fs)) {H:Type} {enc:TypeId×Value→H} {W:World} {base b0:Nat} {spare:Nat→Bool} {held:Bool} {r:Reach} {v:Value} {y:DataW H} {p:List MemPlace}
    (hv:Value.okWide P W r b0 t v) (hh:DataW.Trod enc P W base spare held t v y p) (hw:∀ x∈y.weights P t,x≤reachBytes):∃ (cs:Array Value) (a:α),v=.agg cs∧d.K W a cs.toList∧G a:=by
  obtain ⟨cs,rfl,_⟩:=okWide_struct ht hv;obtain ⟨n,hn⟩:=hh;obtain ⟨a,ha,hg⟩:=h.get hn hw;exact ⟨cs,a,rfl,ha,hg⟩
end Go.Proofs.YtkbgkekegjfkfaaGreatDoor.B
namespace Go.Proofs.YtkbgkekegjfkfaaGreatDoor.A
open Go.RowKit B WW WL WM
attribute [local go_sem] max2_int min2_int max_two min_two max_three min_three max_four min_four
set_option maxHeartbeats 8000000
set_option maxRecDepth 100000
theorem IsS82.fresh {w0 W:World} {g:Nat} {f0:List (S73)} {f1:Int} {f2:Bool} (h:IsS82 w0 W g f0 f1 f2):∀ k,W.heap.size≤k→k≠g:=by
 obtain ⟨A0,c0,hb,hg,hr0⟩:=h;exact Kd.freshB hb
theorem IsS82.apart {w0 W:World} {g:Nat} {f0:List (S73)} {f1:Int} {f2:Bool} {α:Type} {d:Kd α} {e:Nat} {base:Nat} {ok:Nat→Prop} {v:Value} {xs:List α} (h:IsS82 w0 W g f0 f1 f2) (ho:d.R e W base ok v xs) (ht:∀ q,q∈e :: d.E→q≠82):d.R e W base (fun k=>ok k∧k≠g) v xs:=by
 obtain ⟨A0,c0,hb,hg,hr0⟩:=h;exact Kd.R_types ho hb ht
theorem IsS82.lt {w0 W:World} {g:Nat} {f0:List (S73)} {f1:Int} {f2:Bool} (h:IsS82 w0 W g f0 f1 f2):g < W.heap.size:=by
 obtain ⟨A0,c0,hb,hg,hr0⟩:=h;exact blk_lt hb
end Go.Proofs.YtkbgkekegjfkfaaGreatDoor.A
namespace Go.Proofs.YtkbgkekegjfkfaaGreatDoor.A
open Go.RowKit B WW WL WM
theorem decDigits_spec (u:Nat):dval (Lib.decDigits u)=u∧(Lib.decDigits u).all isDig=true∧Lib.decDigits u≠[]∧((Lib.decDigits u).head?=some 48→u=0∧(Lib.decDigits u).length=1):=by
  induction u using Nat.strongRecOn with
  | _ u ih =>
    by_cases h:u < 10
    · rw [Lib.decDigits_one h]
      refine ⟨?_,?_,by simp,?_⟩
      · have:=dval_snoc_digit [] u h
        simpa [dval_nil] using this
      · rw [List.all_cons,isDig_ofNat u h];rfl
      · intro hh
        simp only [List.head?_cons,Option.some_inj] at hh
        have h2:=congrArg UInt8.toNat hh;rw [UInt8.toNat_ofNat'] at h2;have:(48:UInt8).toNat=48:=rfl;refine ⟨by omega,rfl⟩
    · obtain ⟨h1,h2,h3,h4⟩:=ih (u / 10) (by omega)
      rw [Lib.decDigits,dif_neg h];refine ⟨?_,?_,by simp,?_⟩
      · rw [dval_snoc_digit _ _ (by omega),h1];omega
      · rw [List.all_append,h2,List.all_cons,isDig_ofNat (u % 10) (by omega)];rfl
      · intro hh
        cases hl:Lib.decDigits (u / 10) with
        | nil=>exact absurd hl h3
        | cons c r =>
          rw [hl] at hh h4;have:=(h4 hh).1;omega
theorem decDigits_not_minus (u:Nat):negOf (Lib.decDigits u)=false:=by
  obtain ⟨_,h2,h3,_⟩:=decDigits_spec u
  cases hl:Lib.decDigits u with
  | nil=>rfl
  | cons c r =>
    rw [hl,List.all_cons,Bool.and_eq_true] at h2;have:=(isDig_iff c).mp h2.1;unfold negOf;rw [List.head?_cons,beq_eq_false_iff_ne];intro h;injection h with h
    subst h;have:((45:UInt8).toNat:Int)=45:=rfl;omega
theorem parse_itoa (n lo hi:Int) (h:I64 n) (hl:lo≤n) (hh:n≤hi):parseL (Lib.itoa n) lo hi=(n,0):=by
  rw [parseL_eq];obtain ⟨h1,h2,h3,h4⟩:=decDigits_spec n.natAbs;by_cases h0:n < 0
  · rw [itoa_neg' h0]
    have hn:negOf (45 :: Lib.decDigits n.natAbs)=true:=rfl;have hm:magOf (45 :: Lib.decDigits n.natAbs)=Lib.decDigits n.natAbs:=by simp [magOf,hn]
    have hf:formedM (Lib.decDigits n.natAbs) true=true:=by
      unfold formedM;rw [h2,Bool.and_true,Bool.and_eq_true];refine ⟨by simpa using h3,?_⟩;rw [Bool.true_or,Bool.and_true,Bool.not_eq_true',beq_eq_false_iff_ne];intro hh2;have:=(h4 hh2).1;omega
    have hv:sgn true (dval (Lib.decDigits n.natAbs))=n:=by rw [h1];simp [sgn];omega
    rw [hm,hn,hf,hv,if_pos rfl,if_pos ⟨h,hl,hh⟩]
  · rw [itoa_pos h0]
    have hn:=decDigits_not_minus n.natAbs;have hm:magOf (Lib.decDigits n.natAbs)=Lib.decDigits n.natAbs:=by simp [magOf,hn]
    have hf:formedM (Lib.decDigits n.natAbs) false=true:=by
      unfold formedM;rw [h2,Bool.and_true,Bool.and_eq_true];refine ⟨by simpa using h3,?_⟩;rw [Bool.false_or,Bool.not_eq_true',Bool.and_eq_false_iff];by_cases hh2:(Lib.decDigits n.natAbs).head?=some 48
      · right
        rw [(h4 hh2).2];rfl
      · left
        rw [beq_eq_false_iff_ne];exact hh2
    have hv:sgn false (dval (Lib.decDigits n.natAbs))=n:=by rw [h1];simp [sgn];omega
    rw [hm,hn,hf,hv,if_pos rfl,if_pos ⟨h,hl,hh⟩]
theorem num_Parse_at (s:ByteArray) (lo hi:Int) (hs:s.size≤140737488351232):num_Parse.f s lo hi=some (parseL s.data.toList lo hi):=by
  unfold num_Parse.f;rw [if_pos hs]
theorem num_Text_at (n:Int) (h:I64 n):num_Text.f n=some ⟨(Lib.itoa n).toArray⟩:=by
  unfold num_Text.f;rw [if_pos h]
end Go.Proofs.YtkbgkekegjfkfaaGreatDoor.A
namespace Go.Proofs.YtkbgkekegjfkfaaGreatDoor.A
open Go.ChangeShapes Go.WideShapes Go.ChangeAt Go.Joins Go.RowKit B WW
set_option maxRecDepth 100000 in
theorem opens_cond:Opens Tryz.prog 48 k48 (fun x=>(Lit.int .i64 x.f0).wf=true∧(Lit.int .i64 x.f1).wf=true∧x.f2.size≤140737488351232∧(Lit.int .i64 x.f3).wf=true) :=
  Opens.iso (Opens.struct (fs := #[⟨"Field", 3, 0, false, "", "", 0⟩, ⟨"Op", 3, 1, false, "", "", 8⟩, ⟨"S", 9, 2, false, "", "", 16⟩, ⟨"N", 3, 3, false, "", "", 32⟩]) (by kernel_rfl) (by kernel_rfl)
    (OpensF.cons (Opens.int Tryz.underlying3 (by kernel_rfl)) rfl (OpensF.cons (Opens.int Tryz.underlying3 (by kernel_rfl)) rfl (OpensF.cons (Opens.string Tryz.underlying9 (by kernel_rfl)) rfl (OpensF.one (Opens.int Tryz.underlying3 (by kernel_rfl)) rfl) rfl) rfl) rfl))
    (fun x:S48=>(x.f0,x.f1,x.f2,x.f3)) (fun p=>⟨p.1,p.2.1,p.2.2.1,p.2.2.2⟩) (fun _=>rfl) (fun _ h=>h)
set_option maxRecDepth 100000 in
theorem opens_tag:Opens Tryz.prog 50 k50 (fun x=>x.f0.size≤140737488351232∧x.f1.size≤140737488351232) :=
  Opens.iso (Opens.struct (fs := #[⟨"Name", 9, 0, false, "", "", 0⟩, ⟨"Value", 9, 1, false, "", "", 16⟩]) (by kernel_rfl) (by kernel_rfl)
    (OpensF.cons (Opens.string Tryz.underlying9 (by kernel_rfl)) rfl (OpensF.one (Opens.string Tryz.underlying9 (by kernel_rfl)) rfl) rfl))
    (fun x:S50=>(x.f0,x.f1)) (fun p=>⟨p.1,p.2⟩) (fun _=>rfl) (fun _ h=>h)
abbrev GRule (x:ByteArray×List S48×ByteArray×ByteArray×List S50):Prop :=
  x.1.size≤140737488351232∧((∀ c∈x.2.1,(Lit.int .i64 c.f0).wf=true∧(Lit.int .i64 c.f1).wf=true∧c.f2.size≤140737488351232∧(Lit.int .i64 c.f3).wf=true)∧x.2.1.length≤maxLen∧x.2.1.length * Tryz.prog.bytesOf 48≤140737488351232)∧x.2.2.1.size≤140737488351232∧x.2.2.2.1.size≤140737488351232∧(∀ t∈x.2.2.2.2,t.f0.size≤140737488351232∧t.f1.size≤140737488351232)∧x.2.2.2.2.length≤maxLen∧x.2.2.2.2.length * Tryz.prog.bytesOf 50≤140737488351232
end Go.Proofs.YtkbgkekegjfkfaaGreatDoor.A
namespace Go.Proofs.YtkbgkekegjfkfaaGreatDoor.B
open Go.Lib Go.RowKit WW
theorem tabAt_of {P:Program} {W:World} {name:String} {g:Nat} {zs:List Int} (h:Lib.TabIs P W name .i64 zs) (hg:P.globalNamed name=some g) (hz:0 < zs.length):TabAt g zs W:=by
  refine ⟨lt_of_cell (h.cell hg 0 hz),fun i hi=>?_⟩;rw [h.cell hg i hi,List.getD_eq_getElem?_getD,List.getElem?_eq_getElem hi];rfl
theorem spAt_of {W : World} (h : Lib.TabIs Tryz.prog W "strings.asciiSpace" .u8 Lib.asciiSpaceTab) : SpAt W :=
  have hc:∀ c:Nat,c < 256→W.cell? ⟨0,c,none⟩=some (.int .u8 (if Lib.isSp (UInt8.ofNat c) then 1 else 0)):=fun c hc=>by rw [h.cell (by kernel_rfl) c (by rw [Lib.asciiSpaceTab_length];exact hc),Lib.asciiSpaceTab_at c hc]
  ⟨lt_of_cell (hc 0 (by decide)),hc⟩
theorem gl_of_laid {D : DataW Unit} {W : World} (h : laidMet Tryz.prog [("accounting/days.lengths", Lib.tabData .i64 monthLens), ("unicode.White_Space", D), ("strings.asciiSpace", Lib.tabData .u8 Lib.asciiSpaceTab)] W) (hm : ∃ m, W.cell? ⟨2, 0, none⟩ = some (.int .i64 m)) : Gl W :=
  ⟨tabAt_of (Lib.tabIs_of_head (g:=3) (t:=184) (e:=3) (n:=12) (by kernel_rfl) (by kernel_rfl) (by kernel_rfl) Tryz.underlying3 (by kernel_rfl) (by kernel_rfl) h) (by kernel_rfl) (by decide),
   spAt_of (Lib.tabIs_of_head (g:=0) (t:=133) (e:=5) (n:=256) (by kernel_rfl) (by kernel_rfl) (by kernel_rfl) Tryz.underlying5 (by kernel_rfl) (by kernel_rfl) (laidMet.tail (laidMet.tail h))),
   ⟨hm.elim fun m h=>lt_of_cell h,hm⟩⟩
end Go.Proofs.YtkbgkekegjfkfaaGreatDoor.B
namespace Go.Proofs.YtkbgkekegjfkfaaGreatDoor.B
open Go.ChangeShapes
set_option maxRecDepth 100000 in
theorem maxLen_some {W:World} (h:W.ShapedOpen Tryz.prog):∃ m,W.cell? ⟨2,0,none⟩=some (.int .i64 m) :=
  cell_of_shapedOpen_int (t:=3) (zero:=#[.int .i64 0]) h (of_decide_eq_true (by kernel_rfl)) (by kernel_rfl) rfl (by kernel_rfl) (by kernel_rfl) Tryz.underlying3
end Go.Proofs.YtkbgkekegjfkfaaGreatDoor.B
namespace Go.Proofs.YtkbgkekegjfkfaaGreatDoor.A
open Go.RowKit B WW WL WM
structure SmallR (nm:ByteArray) (cs:List S48) (acc par:ByteArray) (tg:List S50):Prop where
  lc:cs.length≤20
  lt:tg.length≤20
  ln:nm.size+acc.size+par.size≤400
  c:∀ x∈cs,x.f2.size≤400
  t:∀ x∈tg,x.f0.size+x.f1.size≤400
theorem largeS_small {nm:ByteArray} {cs:List S48} {acc par:ByteArray} {tg:List S50} (h:¬ largeS nm cs acc par tg=true):SmallR nm cs acc par tg:=by
  unfold largeS at h;split at h
  · exact absurd rfl h
  split at h
  · exact absurd rfl h
  rename_i a b
  exact ⟨by omega,by omega,by omega,bigC_all b,bigT_all h⟩
end Go.Proofs.YtkbgkekegjfkfaaGreatDoor.A
namespace Go.Proofs.YtkbgkekegjfkfaaGreatDoor.A
open Go.RowKit B WW WL WM
section
variable {nm:ByteArray} {cs:List S48} {acc par:ByteArray} {tg:List S50}
theorem SmallR.sc (h:SmallR nm cs acc par tg):ShortC cs:=fun x hx=>by have:=h.c x hx;omega
theorem SmallR.st (h:SmallR nm cs acc par tg):ShortT tg:=fun x hx=>by have:=h.t x hx;omega
end
end Go.Proofs.YtkbgkekegjfkfaaGreatDoor.A
namespace Go.Proofs.YtkbgkekegjfkfaaGreatDoor.A
open Go.RowKit B WW WL WM
def finP (k:Nat) (s:ByteArray) (y:PR×Int×Int):Option RRes :=
    if y.2.2=0 then (if y.1.st=8∨y.1.st=13 then (if 0 < y.1.cs.length∧y.1.ws.length≤1000000 then (valL k y.1.ws 0 y.1.cs).bind fun v =>
      if v.2.2=0 then (rules_Check.f k y.1.nm v.1 y.1.acc y.1.par y.1.tg).bind fun e=>if e=0 then some (y.1.nm,v.1,y.1.acc,y.1.par,y.1.tg,0,0) else some (noR 0 e) else some (noR v.2.1 v.2.2) else none)
    else some (noR (s.size:Int) 27)) else some (noR y.2.1 y.2.2)
def runP (k:Nat) (s:ByteArray) (R:List S73) (p:PR):Option RRes:=(parL k R p).bind (finP k s)
theorem runP_cons (k:Nat) (s:ByteArray) (x:S73) (R:List S73) (p:PR):runP k s (x :: R) p=(moveR k p x (codeX x)).bind fun y=>if y.2=14 then some (noR x.f2 27) else runP k s R { y.1 with st:=y.2 }:=by
  unfold runP;rw [parL,Option.bind_assoc];congr 1
  funext y
  by_cases h:y.2=14
  · rw [if_pos h,if_pos h];rfl
  · rw [if_neg h,if_neg h]
theorem runP_step {s:ByteArray} {x:S73} {R:List S73} {p p':PR} {st:Int} {v:RRes} (hm:Ev (fun k=>moveR k p x (codeX x)) (p',st)) (h14:st≠14) (h:Ev (fun k=>runP k s R { p' with st:=st }) v):Ev (fun k=>runP k s (x :: R) p) v :=
  Ev.congr (fun k=>runP_cons k s x R p) (Ev.bind hm (Ev.no h14 h))
theorem runP_nil {s:ByteArray} {p:PR} {v:RRes} (h:Ev (fun k=>finP k s (p,0,0)) v):Ev (fun k=>runP k s [] p) v:=h
end Go.Proofs.YtkbgkekegjfkfaaGreatDoor.A
