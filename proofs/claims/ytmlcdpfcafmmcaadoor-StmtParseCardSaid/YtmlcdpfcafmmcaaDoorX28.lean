-- By pack.py, a program of this session's.
import Derived.Test.YtmlcdpfcafmmcaaDoorX17
import Derived.Test.YtmlcdpfcafmmcaaDoorX19
import Derived.Test.YtmlcdpfcafmmcaaDoorX25
import Derived.Test.YtmlcdpfcafmmcaaDoorX27
set_option linter.unusedVariables false
set_option linter.unusedSimpArgs false
namespace Go.Proofs.YtmlcdpfcafmmcaaDoor.A
open Go.RowKit B WW WL WM
theorem oL_data (s:ByteArray):oL s.data.toList=s:=rfl
theorem oL_toList (l:List UInt8):(oL l).toList=l:=by rw [ByteArray.toList_eq];rfl
theorem oL_extract (l:List UInt8) (a b:Nat):(oL l).extract a b=oL ((l.take b).drop a):=by
  apply ba_ext;simp [oL,ByteArray.data_extract,List.drop_take]
def outR (acc:List S93) (q:List S93×Nat×Nat):List S93×Int×Int:=if q.2.2=0 then (acc++q.1,(q.2.1:Int),0) else ([],(q.2.1:Int),(q.2.2:Int))
def cutW (L:List UInt8):List S93×Int×Int:=if 400 < L.length then ([],0,9) else outR [] (cutR L.length L 0)
theorem drop_len {L:List UInt8} {i:Nat} {R:List UInt8} (h:L.drop i=R):R.length=L.length - i:=by rw [← h,List.length_drop]
theorem letter_eq (c:UInt8):words_letter.f (c.toNat:Int)=some (isLet c):=by
  have h:∀ n:Nat,n < 256→words_letter.f (n:Int)=some ((decide (97≤n) && decide (n≤122)) || ((decide (65≤n) && decide (n≤90)) || decide (n=95))):=by decide +kernel
  exact h c.toNat c.toNat_lt
theorem digit_eq (c:UInt8):words_digit.f (c.toNat:Int)=some (isDig c):=by
  have h:∀ n:Nat,n < 256→words_digit.f (n:Int)=some (decide (48≤n∧n≤57)):=by decide +kernel
  rw [h c.toNat c.toNat_lt];congr 1
  rw [Bool.eq_iff_iff,decide_eq_true_iff,isDig_range]
theorem printable_eq (c:UInt8):words_printable.f (c.toNat:Int)=some (isPrint c):=by
  have h:∀ n:Nat,n < 256→words_printable.f (n:Int)=some (decide (32≤n) && decide (n≤126)):=by decide +kernel
  exact h c.toNat c.toNat_lt
theorem digitAt_eq (L:List UInt8) (i:Nat):words_digitAt.f (oL L) (i:Int)=some (headDig (L.drop i)):=by
  unfold words_digitAt.f;rw [oL_size]
  cases h:L.drop i with
  | nil=>rw [if_neg (by have:=drop_end h;omega)];rfl
  | cons c r =>
    obtain ⟨h1,h2,h3⟩:=drop_at h;rw [if_pos (by omega),if_pos (by omega),bt_oL,h2,digit_eq];rfl
theorem nameEnd_l0 (L:List UInt8) (hL:L.length≤1000000) (R:List UInt8):∀ i:Nat,L.drop i=R→i≤L.length→Ev (fun k=>words_nameEnd.l0 k (oL L) (i:Int)) ((i+nameN R:Nat):Int):=by
  induction R with
  | nil =>
    intro i h hi;have:=drop_end h;refine Ev.step (fun k=>by rw [words_nameEnd.l0]) ?_;exact Ev.no (by rw [oL_size];omega) (Ev.is rfl)
  | cons c r ih =>
    intro i h hi;obtain ⟨h1,h2,h3⟩:=drop_at h;refine Ev.step (fun k=>by rw [words_nameEnd.l0]) (Ev.yes (by rw [oL_size];omega) (Ev.yes (by omega) ?_));rw [bt_oL,h2,letter_eq,digit_eq,w_next i (by omega)];simp only [Option.bind_some]
    have:=ih (i+1) h3 (by omega);have e:isLet c=true∨isDig c=true→i+nameN (c :: r)=i+1+nameN r:=fun a=>by rw [nameN,if_pos a];omega
    refine Ev.both (fun a=>by rw [e (.inl a)];exact this) (fun a=>Ev.both (fun b=>by rw [e (.inr b)];exact this) (fun b=>Ev.is ?_));rw [nameN,if_neg (fun h=>h.elim a b)];rfl
theorem nameN_le (R:List UInt8):nameN R≤R.length:=by
  induction R with
  | nil=>exact Nat.le_refl 0
  | cons c r ih=>rw [nameN,List.length_cons];split <;> omega
theorem numberEnd_l0 (L:List UInt8) (hL:L.length≤1000000) (R:List UInt8):∀ i:Nat,L.drop i=R→i≤L.length→Ev (fun k=>words_numberEnd.l0 k (oL L) (i:Int)) ((i+numN R:Nat):Int):=by
  induction R with
  | nil =>
    intro i h hi;have:=drop_end h;refine Ev.step (fun k=>by rw [words_numberEnd.l0]) ?_;exact Ev.no (by rw [oL_size];omega) (Ev.is rfl)
  | cons c r ih =>
    intro i h hi;obtain ⟨h1,h2,h3⟩:=drop_at h;refine Ev.step (fun k=>by rw [words_numberEnd.l0]) (Ev.yes (by rw [oL_size];omega) ?_);rw [bt_oL,h2,letter_eq,digit_eq,show (i:Int)+1=((i+1:Nat):Int) by omega,digitAt_eq,h3];simp only [Option.bind_some]
    have:=ih (i+1) h3 (by omega);have hp:((c.toNat:Int)=46∨(c.toNat:Int)=47∨(c.toNat:Int)=45) ↔ isPt c=true:=by unfold isPt;simp only [Bool.or_eq_true,decide_eq_true_iff];omega
    refine Ev.both (fun p=>Ev.both (fun a=>?_) (fun a=>Ev.is ?_)) (fun p=>Ev.both (fun a=>?_) (fun a=>Ev.both (fun b=>?_) (fun b=>Ev.is ?_)))
    · rw [numN,if_pos (hp.mp p),if_pos a,show i+(numN r+1)=i+1+numN r by omega];exact this
    · rw [numN,if_pos (hp.mp p),if_neg a];rfl
    · rw [numN,if_neg (fun h=>p (hp.mpr h)),if_pos (.inl a),show i+(numN r+1)=i+1+numN r by omega];exact this
    · rw [numN,if_neg (fun h=>p (hp.mpr h)),if_pos (.inr b),show i+(numN r+1)=i+1+numN r by omega];exact this
    · rw [numN,if_neg (fun h=>p (hp.mpr h)),if_neg (fun h=>h.elim a b)];rfl
theorem numN_le (R:List UInt8):numN R≤R.length:=by
  induction R with
  | nil=>exact Nat.le_refl 0
  | cons c r ih=>rw [numN,List.length_cons];split <;> split <;> omega
theorem numberEnd_ev (L:List UInt8) (hL:L.length≤1000000) (i:Nat) (c:UInt8) (r:List UInt8) (h:L.drop i=c :: r):Ev (fun k=>words_numberEnd.f k (oL L) (i:Int)) ((i+(numN r+1):Nat):Int):=by
  obtain ⟨h1,h2,h3⟩:=drop_at h;unfold words_numberEnd.f;refine Ev.yes ⟨by omega,by omega,by rw [oL_size];omega⟩ ?_;have:=numberEnd_l0 L hL r (i+1) h3 (by omega);rw [show i+(numN r+1)=i+1+numN r by omega,show (i:Int)+1=((i+1:Nat):Int) by omega];exact this
def quoR (q:List UInt8×Nat×Nat×Nat):ByteArray×Int×Int×Int:=(oL q.1,(q.2.1:Int),(q.2.2.1:Int),(q.2.2.2:Int))
theorem quoted_l0 (L:List UInt8) (hL:L.length≤1000000) (a:Nat) (n:Nat):∀ (R:List UInt8) (i:Nat) (acc:List UInt8),R.length≤n→L.drop i=R→i≤L.length→acc.length≤i →
    Ev (fun k=>words_quoted.l0 k (oL L) (a:Int) (toI acc) (i:Int) 0 0) (quoR (quoS a R i acc)):=by
  induction n with
  | zero =>
    intro R i acc hn h hi hacc;have hR:R=[]:=List.eq_nil_of_length_eq_zero (by omega);subst hR;have:=drop_end h;refine Ev.step (fun k=>by rw [words_quoted.l0]) ?_;exact Ev.no (by rw [oL_size];omega) (Ev.is rfl)
  | succ n ih =>
    intro R i acc hn h hi hacc
    cases R with
    | nil =>
      have:=drop_end h;refine Ev.step (fun k=>by rw [words_quoted.l0]) ?_;exact Ev.no (by rw [oL_size];omega) (Ev.is rfl)
    | cons c r =>
      obtain ⟨h1,h2,h3⟩:=drop_at h;rw [List.length_cons] at hn;refine Ev.step (fun k=>by rw [words_quoted.l0]) (Ev.yes (by rw [oL_size];omega) (Ev.yes (by omega) ?_));rw [w_next i (by omega),bt_oL L i,h2,printable_eq];simp only [Option.bind_some]
      refine Ev.both (fun q=>Ev.is ?_) (fun q=>Ev.both (fun b=>?_) (fun b=>Ev.both (fun p=>?_) (fun p=>Ev.is ?_)))
      · rw [quoS.eq_def];dsimp only;rw [if_pos (by omega),strOf_toI];rfl
      · rw [show wrap64 (((i+1:Nat):Int) - 1)=(i:Int) by unfold wrap64;omega]
        cases r with
        | nil =>
          have:=drop_end h3;refine Ev.yes (by rw [oL_size];omega) (Ev.is ?_);rw [quoS.eq_def];dsimp only;rw [if_neg (by omega),if_pos (by omega)];rfl
        | cons d r =>
          obtain ⟨g1,g2,g3⟩:=drop_at h3;rw [List.length_cons] at hn;refine Ev.no (by rw [oL_size];omega) (Ev.yes (by omega) (Ev.yes (by rw [oL_size];omega) ?_));rw [bt_oL L (i+1),g2,w_next (i+1) (by omega),toI_snoc,toI_len];have key:=ih r (i+1+1) (acc++[d]) (by omega) g3 (by omega) (by rw [List.length_append,List.length_singleton];omega)
          have e:d.toNat=34∨d.toNat=92→quoS a (c :: d :: r) i acc=quoS a r (i+1+1) (acc++[d]):=fun a=>by
            rw [quoS.eq_def];dsimp only;rw [if_neg (by omega),if_pos (by omega),if_pos a]
          refine Ev.both (fun x=>Ev.yes (by omega) ?_) (fun x=>Ev.both (fun y=>Ev.yes (by omega) ?_) (fun y=>Ev.is ?_))
          · rw [e (by omega)];exact key
          · rw [e (by omega)];exact key
          · rw [quoS.eq_def];dsimp only;rw [if_neg (by omega),if_pos (by omega),if_neg (by omega)];rfl
      · rw [toI_snoc,toI_len]
        refine Ev.yes (by omega) ?_;have key:=ih r (i+1) (acc++[c]) (by omega) h3 (by omega) (by rw [List.length_append,List.length_singleton];omega);rw [show quoS a (c :: r) i acc=quoS a r (i+1) (acc++[c]) by rw [quoS.eq_def];dsimp only;rw [if_neg (by omega),if_neg (by omega),if_pos p]];exact key
      · rw [quoS.eq_def];dsimp only;rw [if_neg (by omega),if_neg (by omega),if_neg p];rfl
theorem quoS_end (a n:Nat):∀ (R:List UInt8) (i:Nat) (acc:List UInt8),R.length≤n→(quoS a R i acc).2.2.2=0→i < (quoS a R i acc).2.1∧(quoS a R i acc).2.1≤i+R.length:=by
  induction n with
  | zero =>
    intro R i acc hn h;have hR:R=[]:=List.eq_nil_of_length_eq_zero (by omega);subst hR;exact absurd h (by show ¬ (6=0);omega)
  | succ n ih =>
    intro R i acc hn
    cases R with
    | nil=>intro h;exact absurd h (by show ¬ (6=0);omega)
    | cons c r =>
      rw [List.length_cons] at hn ⊢;rw [quoS.eq_def];dsimp only;split
      · intro _;dsimp only;omega
      split
      · cases r with
        | nil=>intro h;exact absurd h (by show ¬ (5=0);omega)
        | cons d r =>
          rw [List.length_cons] at hn ⊢;dsimp only
          split
          · intro h;have:=ih r (i+2) (acc++[d]) (by omega) h;omega
          · intro h;exact absurd h (by show ¬ (5=0);omega)
      split
      · intro h;have:=ih r (i+1) (acc++[c]) (by omega) h;omega
      · intro h;exact absurd h (by show ¬ (5=0);omega)
theorem signEnd_j0 (L:List UInt8) (hL:L.length≤1000000) (i:Nat) (c:UInt8) (r:List UInt8) (h:L.drop i=c :: r):Ev (fun k=>words_signEnd.j0 k (oL L) (i:Int)) ((i+oneSg c:Nat):Int):=by
  obtain ⟨h1,h2,h3⟩:=drop_at h;refine Ev.step (fun k=>by rw [words_signEnd.j0]) (Ev.yes (by omega) (Ev.yes (by rw [oL_size];omega) ?_));rw [bt_oL,h2,w_next i (by omega)]
  have y:∀ m:Nat,(c.toNat:Int)=m→m∈[40,41,123,125,91,93,44,59,58,61,43,45,42,47,60,62,124,38,33,64,37]→((i+1:Nat):Int)=((i+oneSg c:Nat):Int):=fun m e hm=>by
    rw [oneSg,show c.toNat=m by omega,if_pos hm]
  refine Ev.both (fun e=>Ev.is (y 40 e (by decide))) fun n1=>Ev.both (fun e=>Ev.is (y 41 e (by decide))) fun n2=>Ev.both (fun e=>Ev.is (y 123 e (by decide))) fun n3 =>
    Ev.both (fun e=>Ev.is (y 125 e (by decide))) fun n4=>Ev.both (fun e=>Ev.is (y 91 e (by decide))) fun n5=>Ev.both (fun e=>Ev.is (y 93 e (by decide))) fun n6 =>
    Ev.both (fun e=>Ev.is (y 44 e (by decide))) fun n7=>Ev.both (fun e=>Ev.is (y 59 e (by decide))) fun n8=>Ev.both (fun e=>Ev.is (y 58 e (by decide))) fun n9 =>
    Ev.both (fun e=>Ev.is (y 61 e (by decide))) fun n10=>Ev.both (fun e=>Ev.is (y 43 e (by decide))) fun n11=>Ev.both (fun e=>Ev.is (y 45 e (by decide))) fun n12 =>
    Ev.both (fun e=>Ev.is (y 42 e (by decide))) fun n13=>Ev.both (fun e=>Ev.is (y 47 e (by decide))) fun n14=>Ev.both (fun e=>Ev.is (y 60 e (by decide))) fun n15 =>
    Ev.both (fun e=>Ev.is (y 62 e (by decide))) fun n16=>Ev.both (fun e=>Ev.is (y 124 e (by decide))) fun n17=>Ev.both (fun e=>Ev.is (y 38 e (by decide))) fun n18 =>
    Ev.both (fun e=>Ev.is (y 33 e (by decide))) fun n19=>Ev.both (fun e=>Ev.is (y 64 e (by decide))) fun n20=>Ev.both (fun e=>Ev.is (y 37 e (by decide))) fun n21=>Ev.is ?_
  rw [oneSg,if_neg];rfl;simp only [List.mem_cons,List.not_mem_nil,or_false]
  omega
theorem take_two {L:List UInt8} {i:Nat} {c d:UInt8} {r:List UInt8} (h:L.drop i=c :: d :: r):((oL L).extract i (i+2)).toList=[c,d]:=by
  rw [oL_extract,oL_toList,List.drop_take,h,show i+2 - i=2 by omega];rfl
theorem signEnd_ev (L:List UInt8) (hL:L.length≤1000000) (i:Nat) (c:UInt8) (r:List UInt8) (h:L.drop i=c :: r):Ev (fun k=>words_signEnd.f k (oL L) (i:Int)) ((i+signN (c :: r):Nat):Int):=by
  obtain ⟨h1,h2,h3⟩:=drop_at h;have hl:=drop_len h;have key:=signEnd_j0 L hL i c r h;unfold words_signEnd.f;rw [show wrap64 ((i:Int)+2)=((i+2:Nat):Int) by unfold wrap64;omega,oL_size]
  cases r with
  | nil=>rw [List.length_singleton] at hl;exact Ev.no (by omega) key
  | cons d r =>
    rw [List.length_cons,List.length_cons] at hl;refine Ev.yes (by omega) (Ev.yes (by omega) (Ev.yes (by omega) ?_));rw [Int.toNat_natCast,Int.toNat_natCast,take_two h];have y:twoSg c d=true→((i+2:Nat):Int)=((i+signN (c :: d :: r):Nat):Int):=fun e=>by rw [signN,if_pos e]
    refine Ev.both (fun e=>Ev.is (y (by unfold twoSg;rw [decide_eq_true e];rfl))) fun n1=>Ev.both (fun e=>Ev.is (y (by unfold twoSg;rw [decide_eq_true e];simp))) fun n2 =>
      Ev.both (fun e=>Ev.is (y (by unfold twoSg;rw [decide_eq_true e];simp))) fun n3=>Ev.both (fun e=>Ev.is (y (by unfold twoSg;rw [decide_eq_true e];simp))) fun n4=>?_
    rw [signN,if_neg (by unfold twoSg;rw [decide_eq_false n1,decide_eq_false n2,decide_eq_false n3,decide_eq_false n4];decide)];exact key
theorem signN_le (c:UInt8) (r:List UInt8):signN (c :: r)≤(c :: r).length:=by
  have h:oneSg c≤1:=by unfold oneSg;split <;> omega
  cases r with
  | nil=>exact h
  | cons d r=>rw [signN,List.length_cons,List.length_cons];split <;> omega
def wordR (w:Nat×List UInt8×Nat×Nat×Nat) (i:Nat):Int×ByteArray×Int×Int×Int×Int:=((w.1:Int),oL w.2.1,(i:Int),(w.2.2.1:Int),(w.2.2.2.1:Int),(w.2.2.2.2:Int))
theorem word_g (L:List UInt8) (i n kind most:Nat) (h:i+n≤L.length):words_word.g (oL L) (i:Int) (kind:Int) ((i+n:Nat):Int) (most:Int)=some (wordR (gS kind (L.drop i) i n most) i):=by
  unfold words_word.g wordR gS;rw [if_pos ⟨by omega,by rw [oL_size];omega⟩,Int.toNat_natCast,Int.toNat_natCast,oL_extract,List.drop_take,show i+n - i=n by omega,show ((i+n:Nat):Int) - (i:Int)=(n:Int) by omega];by_cases hm:most < n
  · rw [if_pos (by omega),if_pos (by omega),if_pos hm,if_pos hm];rfl
  · rw [if_neg (by omega),if_neg (by omega),if_neg hm,if_neg hm];rfl
theorem word_h (L:List UInt8) (hL:L.length≤1000000) (i:Nat) (c:UInt8) (r:List UInt8) (h:L.drop i=c :: r) :
    Ev (fun k=>words_word.h k (oL L) (i:Int)) (wordR (if c.toNat=34 then qS i (quoS i r (i+1) []) else wordH (c :: r) i) i):=by
  obtain ⟨h1,h2,h3⟩:=drop_at h;have hl:=drop_len h;unfold words_word.h;rw [bt_oL,h2];refine Ev.both (fun q=>?_) (fun q=>?_)
  · rw [if_pos (by omega)]
    have key:=quoted_l0 L hL i r.length r (i+1) [] (Nat.le_refl _) h3 (by omega) (Nat.zero_le _);rw [← w_next i (by omega)] at key;refine Ev.bind (f:=fun k q=>if q.2.2.2≠0 then some ((3:Int),q.1,(i:Int),q.2.1,q.2.2.1,q.2.2.2) else some ((3:Int),q.1,(i:Int),q.2.1,if 60 < (q.1.size:Int) then (i:Int) else q.2.2.1,if 60 < (q.1.size:Int) then (9:Int) else 0)) key ?_;generalize quoS i r (i+1) []=z;unfold quoR;dsimp only
    refine Ev.both (fun e=>Ev.is ?_) (fun e=>Ev.is ?_)
    · unfold qS wordR;rw [if_neg (show ¬ (z.2.2.2=0) by omega)];rfl
    · unfold qS wordR;rw [if_pos (show z.2.2.2=0 by omega),oL_size]
      by_cases hm:60 < z.1.length
      · rw [if_pos (by omega),if_pos (by omega),if_pos hm,if_pos hm];rfl
      · rw [if_neg (by omega),if_neg (by omega),if_neg hm,if_neg hm];rfl
  · rw [if_neg (by omega)]
    refine Ev.bind (signEnd_ev L hL i c r h) ?_;have:=signN_le c r;rw [List.length_cons] at hl this;unfold wordH;refine Ev.both (fun e=>Ev.is ?_) (fun e=>?_)
    · rw [if_pos (by omega)];unfold wordR;rw [show i+signN (c :: r)=i by omega];rfl
    · rw [if_neg (by omega),← h]
      exact ⟨0,fun _ _=>word_g L i _ 4 60 (by rw [h];omega)⟩
theorem word_ev (L:List UInt8) (hL:L.length≤1000000) (i:Nat) (c:UInt8) (r:List UInt8) (h:L.drop i=c :: r) :
    Ev (fun k=>words_word.f k (oL L) (i:Int)) (wordR (wordS (c :: r) i) i):=by
  obtain ⟨h1,h2,h3⟩:=drop_at h;have hl:=drop_len h;rw [List.length_cons] at hl;have hh:=word_h L hL i c r h;unfold words_word.f;refine Ev.yes ⟨by omega,by rw [oL_size];omega,by rw [oL_size];omega⟩ ?_;rw [bt_oL,h2,letter_eq,digit_eq,show (i:Int)+1=((i+1:Nat):Int) by omega,digitAt_eq,h3];simp only [Option.bind_some]
  rw [wordS_cons]
  have num:Ev (fun k=>(words_numberEnd.f k (oL L) (i:Int)).bind fun e=>words_word.g (oL L) (i:Int) 2 e 60) (wordR (gS 2 (c :: r) i (numN r+1) 60) i):=by
    refine Ev.bind (numberEnd_ev L hL i c r h) ?_;have:=numN_le r;rw [← h];exact ⟨0,fun _ _=>word_g L i _ 2 60 (by omega)⟩
  refine Ev.both (fun a=>?_) (fun a=>Ev.both (fun d=>?_) (fun d=>Ev.both (fun m=>Ev.both (fun b=>?_) (fun b=>?_)) (fun m=>?_)))
  · rw [if_pos a]
    refine Ev.bind (nameEnd_l0 L hL (c :: r) i h (by omega)) ?_;have:=nameN_le (c :: r);rw [List.length_cons] at this;rw [← h] at this ⊢;exact ⟨0,fun _ _=>word_g L i _ 1 12 (by omega)⟩
  · rw [if_neg a,if_pos (.inl d)];exact num
  · rw [if_neg a,if_pos (.inr ⟨by omega,b⟩)];exact num
  · rw [if_neg a,if_neg (fun x=>x.elim d (fun y=>b y.2))];exact hh
  · rw [if_neg a,if_neg (fun x=>x.elim d (fun y=>m (by omega)))];exact hh
theorem wordS_end (c:UInt8) (r:List UInt8) (i:Nat) (h:(wordS (c :: r) i).2.2.2.2=0):i < (wordS (c :: r) i).2.2.1∧(wordS (c :: r) i).2.2.1≤i+(r.length+1):=by
  revert h
  rw [wordS_cons];split
  · rename_i a
    intro _;have:=nameN_le (c :: r);rw [List.length_cons] at this;have e:nameN (c :: r)=nameN r+1:=by rw [nameN,if_pos (.inl a)]
    show i < i+nameN (c :: r)∧i+nameN (c :: r)≤_
    omega
  split
  · intro _
    have:=numN_le r;show i < i+(numN r+1)∧i+(numN r+1)≤_
    omega
  split
  · have:=quoS_end i r.length r (i+1) [] (Nat.le_refl _)
    generalize quoS i r (i+1) []=z at *;unfold qS;split
    · rename_i hz;intro _;have:=this hz;dsimp only;omega
    · rename_i hz;intro h;exact absurd h hz
  · unfold wordH
    split
    · intro h;exact absurd h (by show ¬ (5=0);omega)
    · intro _
      have:=signN_le c r;rw [List.length_cons] at this;show i < i+signN (c :: r)∧i+signN (c :: r)≤_
      omega
theorem outR_pre (acc:List S93) (x:S93) (q:List S93×Nat×Nat):outR (acc++[x]) q=outR acc (pre x q):=by
  unfold outR pre;by_cases h:q.2.2=0
  · rw [if_pos h,if_pos h,if_pos rfl,List.append_assoc];rfl
  · rw [if_neg h,if_neg h,if_neg h]
theorem Cut_l0 (L:List UInt8) (hL:L.length≤1000000) (f:Nat):∀ (R:List UInt8) (i:Nat) (acc:List S93),R.length≤f→L.drop i=R→i≤L.length→acc.length≤i →
    Ev (fun k=>words_Cut.l0 k (oL L) acc (i:Int)) (outR acc (cutR f R i)):=by
  have fin:∀ (i:Nat) (acc:List S93) (n:Nat),n=L.length→Ev (fun k=>words_Cut.j1 k (oL L) acc (i:Int) false) (outR acc ([],n,0)):=fun i acc n hn=>by
    refine Ev.step (fun k=>by rw [words_Cut.j1]) (Ev.no (by decide) (Ev.is ?_));unfold outR;rw [if_pos rfl,List.append_nil,oL_size,hn]
  have nil:∀ (i:Nat) (acc:List S93),L.drop i=[]→i≤L.length→Ev (fun k=>words_Cut.l0 k (oL L) acc (i:Int)) (outR acc ([],i,0)):=fun i acc h hi=>by
    have:=drop_end h;refine Ev.step (fun k=>by rw [words_Cut.l0]) (Ev.no (by rw [oL_size];omega) ?_);exact fin i acc i (by omega)
  induction f with
  | zero =>
    intro R i acc hn h hi ha;have hR:R=[]:=List.eq_nil_of_length_eq_zero (by omega);subst hR;exact nil i acc h hi
  | succ f ih =>
    intro R i acc hn h hi ha
    cases R with
    | nil=>exact nil i acc h hi
    | cons c r =>
      obtain ⟨h1,h2,h3⟩:=drop_at h;have hl:=drop_len h;rw [List.length_cons] at hl hn;refine Ev.step (fun k=>by rw [words_Cut.l0]) (Ev.yes (by rw [oL_size];omega) (Ev.yes (by omega) ?_));rw [bt_oL,h2,cutR];by_cases h35:c.toNat=35
      · rw [if_pos h35,show ((c.toNat:Int) != 35)=false by rw [h35];rfl]
        exact fin i acc _ (by omega)
      rw [if_neg h35,show ((c.toNat:Int) != 35)=true by rw [bne_iff_ne];omega];refine Ev.step (fun k=>by rw [words_Cut.j1]) (Ev.yes rfl (Ev.yes (by omega) (Ev.yes (by rw [oL_size];omega) ?_)));rw [bt_oL,h2,w_next i (by omega)];refine Ev.both (fun s=>?_) (fun s=>?_)
      · rw [if_pos (by omega)]
        exact ih r (i+1) acc (by omega) h3 (by omega) (by omega)
      · rw [if_neg (by omega)]
        refine Ev.bind (word_ev L hL i c r h) ?_;have he:=wordS_end c r i;generalize wordS (c :: r) i=w at *;unfold wordR;dsimp only
        refine Ev.both (fun e=>Ev.yes (by omega) ?_) (fun e=>Ev.is ?_)
        · have e0:w.2.2.2.2=0:=by omega
          have:=he e0;rw [if_pos e0];have key:=ih ((c :: r).drop (w.2.2.1 - i)) w.2.2.1 (acc++[wdOf w i]) (by rw [List.length_drop,List.length_cons];omega) (by rw [← h,List.drop_drop];congr 1;omega) (by omega) (by rw [List.length_append,List.length_singleton];omega);rw [outR_pre] at key;exact key
        · rw [if_neg (by omega)]
          unfold outR;rw [if_neg (by dsimp only;omega)]
theorem words_Cut_ev (L:List UInt8):Ev (fun k=>words_Cut.f k (oL L)) (cutW L):=by
  unfold words_Cut.f cutW;rw [oL_size];refine Ev.both (fun h=>Ev.is (by rw [if_pos (by omega)])) (fun h=>?_);rw [if_neg (by omega)];exact Cut_l0 L (by omega) L.length L 0 [] (Nat.le_refl _) rfl (Nat.zero_le _) (Nat.le_refl _)
def ymS (y m:Nat):Int:=if 1≤m∧m≤12 then lenYM (y - 1900) (m - 1) else 0
def ofS (y m q:Nat):Int×Int:=if 1900≤y∧y≤2199∧1≤q∧(q:Int)≤ymS y m then (first (12 * (y - 1900)+(m - 1))+((q:Int) - 1),0) else (0,11)
theorem days_Length_any (y m:Nat) (h:1900≤y):days_Length.f (y:Int) (m:Int)=some (ymS y m):=by
  unfold ymS;by_cases c:1≤m∧m≤12
  · rw [if_pos c]
    have:=days_Length_eq (y - 1900) (m - 1) (by omega);rw [show 1900+(y - 1900)=y by omega,show m - 1+1=m by omega] at this;exact this
  · rw [if_neg c];unfold days_Length.f;rw [if_pos (by omega)]
theorem dval_bound (l:List UInt8) (h:l.all isDig=true):dval l < 10 ^ l.length:=by
  have key:∀ (r:List UInt8),r.all isDig=true→dval r.reverse < 10 ^ r.length:=by
    intro r;induction r with
    | nil=>intro _;decide
    | cons c r ih =>
      intro h;rw [List.all_cons,Bool.and_eq_true] at h;have:=ih h.2;have hc:=(isDig_range c).mp h.1;rw [List.reverse_cons,dval_snoc,List.length_cons,Nat.pow_succ];omega
  have:=key l.reverse (by rw [List.all_reverse];exact h);rw [List.reverse_reverse,List.length_reverse] at this;exact this
theorem pow_ten_le {n:Nat} (h:n≤10):10 ^ n≤10 ^ 10:=Nat.pow_le_pow_right (by omega) h
theorem dig_byte {c:UInt8} (h:isDig c=true):((c.toNat:Int) - 48) % 256=((c.toNat - 48:Nat):Int):=by
  have:=(isDig_range c).mp h;omega
theorem days_number_l0 (L:List UInt8) (hL:L.length≤10) (R:List UInt8):∀ P:List UInt8,P++R=L→P.all isDig=true →
    Ev (fun k=>days_number.l0 k (oL L) (dval P:Int) (L.length:Int) (P.length:Int)) (if R.all isDig=true then ((dval L:Int),true) else (0,false)):=by
  induction R with
  | nil =>
    intro P h hP;rw [List.append_nil] at h;subst h;refine Ev.step (fun k=>by rw [days_number.l0]) ?_;exact Ev.no (by omega) (Ev.is rfl)
  | cons c r ih =>
    intro P h hP;have hl:P.length+(r.length+1)=L.length:=by rw [← h,List.length_append,List.length_cons]
    have hg:L.getD P.length 0=c:=by rw [← h,List.getD_eq_getElem?_getD,List.getElem?_append_right (Nat.le_refl _),Nat.sub_self];rfl
    refine Ev.step (fun k=>by rw [days_number.l0]) (Ev.yes (by omega) (Ev.yes (by omega) (Ev.yes (by rw [oL_size];omega) ?_)));rw [bt_oL,hg,w_next P.length (by omega),List.all_cons];by_cases d:isDig c=true
    · have dr:=(isDig_range c).mp d
      refine Ev.no (by omega) (Ev.no (by omega) ?_);rw [dig_byte d,d,Bool.true_and];have hb:=dval_bound P hP;have:=pow_ten_le (show P.length≤10 by omega)
      have e:wrap64 (wrap64 (10 * (dval P:Int))+((c.toNat - 48:Nat):Int))=(dval (P++[c]):Int):=by
        rw [dval_snoc,w_in (x:=10 * (dval P:Int)) (by omega),w_in (by omega)];omega
      rw [e];have key:=ih (P++[c]) (by rw [List.append_assoc];exact h) (by rw [List.all_append,hP,List.all_cons,d];rfl);rw [List.length_append,List.length_singleton] at key;exact key
    · have dr:=mt (isDig_range c).mpr d
      rw [Bool.eq_false_iff.mpr d,Bool.false_and,if_neg (by decide)];exact Ev.both (fun _=>Ev.is rfl) (fun h1=>Ev.yes (by omega) (Ev.is rfl))
theorem days_number_ev (L:List UInt8) (hL:L.length≤10):Ev (fun k=>days_number.f k (oL L)) (if L.all isDig=true then ((dval L:Int),true) else (0,false)):=by
  unfold days_number.f;rw [oL_size];exact days_number_l0 L hL L [] rfl rfl
def dparse (l:List UInt8):Int×Int:=if DP l then ofS (dval (l.take 4)) (dval ((l.take 7).drop 5)) (dval (l.drop 8)) else (0,5)
theorem dparse_no {l:List UInt8} (h:¬ DP l):(0,5)=dparse l:=by unfold dparse;rw [if_neg h]
theorem bt45 (l:List UInt8) (i:Nat):(bt (oL l) (i:Int)=45) ↔ (l.getD i 0=45):=by
  rw [bt_oL];constructor
  · intro h;have:(l.getD i 0).toNat=45:=by omega
    exact UInt8.toNat_inj.mp this
  · intro h;rw [h];rfl
def splL:List UInt8→List UInt8→List (List UInt8)
  | [],acc=>if acc=[] then [] else [acc]
  | c :: r,acc=>if c.toNat=10 then acc :: splL r [] else splL r (acc++[c])
def divL (t:List UInt8):List (List UInt8):=splL t []
def kOk (k is:Int):Bool:=decide (is=k∨(k=1∧is=2))
def kindsS:List Int→List S93→Bool
  | k :: ks,w :: ws=>kOk k w.f0 && kindsS ks ws
  | _,_=>true
def shapedS (ws:List S93) (kw:List UInt8) (ks:List Int):Bool :=
  decide ((rd_T93 ws 0).f0=1) && (decide ((rd_T93 ws 0).f1.data.toList=kw) && (decide (ws.length=ks.length+1) && kindsS ks (ws.drop 1)))
def wB (ws:List S93) (i:Int):ByteArray:=(rd_T93 ws i).f1
def headS (cs:List S77) (p:PSt) (ws:List S93):PSt×Int :=
  if codeW (wB ws 1).data.toList=true then (if (dgL cs (wB ws 2)).2=true then ({ p with acc:=wB ws 1,cur:=wB ws 2,dg:=(dgL cs (wB ws 2)).1,part:=1,no:=(parseL (wB ws 3).data.toList 1 4000).1 },(parseL (wB ws 3).data.toList 1 4000).2) else (p,13)) else (p,7)
def kwS:List UInt8:=[115,116,97,116,101,109,101,110,116]
def kwO:List UInt8:=[111,112,101,110]
def kwL:List UInt8:=[108,105,110,101]
def kwC:List UInt8:=[99,108,111,115,101]
def chkS (p:PSt):Int:=checkS p.acc p.cur p.no p.op p.cl p.ls
def finS (p:PSt) (n:Nat):SRes:=if p.part=3 then (if chkS p=0 then (p.acc,p.cur,p.no,p.op,p.cl,p.ls,0,0) else noS (n:Int) (chkS p)) else noS (n:Int) 6
def endS (q:PSt×Int×Nat):SRes:=if q.2.1=0 then finS q.1 q.2.2 else noS (q.2.2:Int) q.2.1
def WS (ws:List S93):Prop:=∀ x∈ws,x.f1.size≤60
theorem wordS_size (R:List UInt8) (i:Nat) (h:(wordS R i).2.2.2.2=0):(wordS R i).2.1.length≤60:=by
  have g:∀ (kind:Nat) (R:List UInt8) (i n most:Nat),most≤60→(gS kind R i n most).2.2.2.2=0→(gS kind R i n most).2.1.length≤60:=by
    intro kind R i n most hm h;unfold gS at h ⊢;show (R.take n).length≤60
    have h':(if most < n then 9 else 0)=0:=h;have:¬ most < n:=fun c=>by rw [if_pos c] at h';exact absurd h' (by decide)
    rw [List.length_take];omega
  cases R with
  | nil=>exact Nat.zero_le _
  | cons c r =>
    rw [wordS_cons] at h ⊢;split at h
    · rename_i e;rw [if_pos e];exact g _ _ _ _ _ (by omega) h
    · rename_i e;rw [if_neg e]
      split at h
      · rename_i e;rw [if_pos e];exact g _ _ _ _ _ (by omega) h
      · rename_i e;rw [if_neg e]
        split at h
        · rename_i e;rw [if_pos e]
          generalize quoS i r (i+1) []=q at h ⊢;unfold qS at h ⊢;by_cases z:q.2.2.2=0
          · rw [if_pos z] at h ⊢
            have h':(if 60 < q.1.length then 9 else 0)=0:=h;show q.1.length≤60
            rcases Nat.lt_or_ge 60 q.1.length with c | c
            · rw [if_pos c] at h';exact absurd h' (by decide)
            · exact c
          · rw [if_neg z] at h;exact absurd h z
        · rename_i e;rw [if_neg e]
          unfold wordH at h ⊢;split at h
          · rename_i e;rw [if_pos e];exact Nat.zero_le _
          · rename_i e;rw [if_neg e];exact g _ _ _ _ _ (by omega) h
theorem cutR_size (f:Nat):∀ (R:List UInt8) (i:Nat),WS (cutR f R i).1∧(cutR f R i).1.length≤f:=by
  induction f with
  | zero=>intro R i;exact ⟨fun x hx=>(by cases hx),Nat.le_refl _⟩
  | succ f ih =>
    intro R i
    cases R with
    | nil=>exact ⟨fun x hx=>(by cases hx),Nat.zero_le _⟩
    | cons c r =>
      rw [cutR];split
      · exact ⟨fun x hx=>(by cases hx),Nat.zero_le _⟩
      split
      · exact ⟨(ih _ _).1,Nat.le_trans (ih _ _).2 (Nat.le_succ _)⟩
      split
      · rename_i e
        unfold pre;obtain ⟨h1,h2⟩:=ih ((c :: r).drop ((wordS (c :: r) i).2.2.1 - i)) (wordS (c :: r) i).2.2.1;split
        · refine ⟨fun x hx=>?_,by rw [List.length_cons];omega⟩
          rcases List.mem_cons.mp hx with rfl | hx
          · show (oL (wordS (c :: r) i).2.1).size≤60
            rw [oL_size];exact wordS_size _ _ e
          · exact h1 x hx
        · exact ⟨fun x hx=>(by cases hx),Nat.zero_le _⟩
      · exact ⟨fun x hx=>(by cases hx),Nat.zero_le _⟩
theorem cutW_size (L:List UInt8):WS (cutW L).1∧(cutW L).1.length≤400:=by
  unfold cutW;split
  · exact ⟨fun x hx=>(by cases hx),Nat.zero_le _⟩
  · obtain ⟨h1,h2⟩:=cutR_size L.length L 0
    unfold outR;split
    · rw [List.nil_append];exact ⟨h1,by show (cutR L.length L 0).1.length≤400;omega⟩
    · exact ⟨fun x hx=>(by cases hx),Nat.zero_le _⟩
theorem wB_size {ws:List S93} (h:WS ws) (i:Int):(wB ws i).size≤60:=by
  unfold wB rd_T93;rw [List.getD_eq_getElem?_getD]
  cases e:ws[i.toNat]? with
  | none=>exact Nat.zero_le _
  | some x=>exact h x (List.mem_of_getElem? e)
theorem Inv.short {cs:List S77} {p:PSt} {i:Nat} (h:Inv cs p i):Short p.ls:=fun x hx=>by have:=h.ls x hx;omega
theorem rdW_at {l:List S93} {i:Nat} {x:S93} {r:List S93} (h:l.drop i=x :: r):i < l.length∧rd_T93 l (i:Int)=x∧l.drop (i+1)=r:=by
  have hlt:i < l.length:=by
    rcases Nat.lt_or_ge i l.length with h1 | h1
    · exact h1
    · rw [List.drop_eq_nil_of_le h1] at h;cases h
  rw [List.drop_eq_getElem_cons hlt] at h;obtain ⟨h1,h2⟩:=List.cons.inj h;refine ⟨hlt,?_,h2⟩;unfold rd_T93;rw [Int.toNat_natCast,List.getD_eq_getElem?_getD,List.getElem?_eq_getElem hlt,← h1];rfl
theorem rdI_at {l:List Int} {i:Nat} {x:Int} {r:List Int} (h:l.drop i=x :: r):i < l.length∧rd l (i:Int)=x∧l.drop (i+1)=r:=by
  have hlt:i < l.length:=by
    rcases Nat.lt_or_ge i l.length with h1 | h1
    · exact h1
    · rw [List.drop_eq_nil_of_le h1] at h;cases h
  rw [List.drop_eq_getElem_cons hlt] at h;obtain ⟨h1,h2⟩:=List.cons.inj h;refine ⟨hlt,?_,h2⟩;unfold rd;rw [Int.toNat_natCast,List.getD_eq_getElem?_getD,List.getElem?_eq_getElem hlt,← h1];rfl
theorem kinds_cons (kd:Int) (ks:List Int) (w:S93) (ws:List S93):kindsS (kd :: ks) (w :: ws)=(kOk kd w.f0 && kindsS ks ws):=rfl
theorem stmt_shaped_l0 (ws:List S93) (ks:List Int) (hl:ws.length=ks.length+1) (hk:ks.length≤10) (R:List Int):∀ i:Nat,ks.drop i=R→Ev (fun k=>stmt_shaped.l0 k ws ks (ks.length:Int) (i:Int)) (kindsS R (ws.drop (i+1))):=by
  induction R with
  | nil =>
    intro i h;have:=List.drop_eq_nil_iff.mp h;refine Ev.step (fun k=>by rw [stmt_shaped.l0]) ?_;exact Ev.no (by omega) (Ev.is rfl)
  | cons kd r ih =>
    intro i h;obtain ⟨h1,h2,h3⟩:=rdI_at h;obtain ⟨w,hw⟩:∃ w,ws.drop (i+1)=w :: ws.drop (i+1+1):=⟨_,List.drop_eq_getElem_cons (by omega)⟩
    obtain ⟨w1,w2,w3⟩:=rdW_at hw;refine Ev.step (fun k=>by rw [stmt_shaped.l0]) (Ev.yes (by omega) (Ev.yes (by omega) (Ev.yes (by omega) ?_)));rw [w_next i (by omega),h2,w2,hw,kinds_cons];refine Ev.yes (by omega) (Ev.yes (by omega) ?_);have go:=ih (i+1) h3;refine Ev.both (fun e=>?_) (fun e=>Ev.both (fun f=>Ev.both (fun g=>?_) (fun g=>Ev.is ?_)) (fun f=>Ev.is ?_))
    · rw [show kOk kd w.f0=true from decide_eq_true (Or.inl e),Bool.true_and];exact go
    · rw [show kOk kd w.f0=true from decide_eq_true (Or.inr ⟨f,g⟩),Bool.true_and];exact go
    · rw [show kOk kd w.f0=false from decide_eq_false (fun x=>x.elim e (fun y=>g y.2)),Bool.false_and]
    · rw [show kOk kd w.f0=false from decide_eq_false (fun x=>x.elim e (fun y=>f y.1)),Bool.false_and]
theorem shapedS_no {ws:List S93} {kw:List UInt8} {ks:List Int} (h:¬ ((rd_T93 ws 0).f0=1∧(rd_T93 ws 0).f1.data.toList=kw∧ws.length=ks.length+1)):shapedS ws kw ks=false:=by
  unfold shapedS;rw [Bool.eq_false_iff];intro x;simp only [Bool.and_eq_true,decide_eq_true_iff] at x
  exact h ⟨x.1,x.2.1,x.2.2.1⟩
theorem shapedS_yes {ws:List S93} {kw:List UInt8} {ks:List Int} (h:(rd_T93 ws 0).f0=1∧(rd_T93 ws 0).f1.data.toList=kw∧ws.length=ks.length+1):shapedS ws kw ks=kindsS ks (ws.drop 1):=by
  unfold shapedS;rw [decide_eq_true h.1,decide_eq_true h.2.1,decide_eq_true h.2.2];rfl
theorem toList_is (s:ByteArray) (kw:List UInt8):(s.toList=(oL kw).toList) ↔ s.data.toList=kw:=by rw [oL_toList,ByteArray.toList_eq]
theorem stmt_shaped_ev (ws:List S93) (kw:List UInt8) (ks:List Int) (h0:0 < ws.length) (h4:ws.length≤400) (hk:ks.length≤10):Ev (fun k=>stmt_shaped.f k ws (oL kw) ks) (shapedS ws kw ks):=by
  have tr:∀ b,Ev (fun k=>stmt_shaped.j0 k ws ks b) (if b=true then false else kindsS ks (ws.drop 1))→Ev (fun k=>stmt_shaped.j0 k ws ks b) (if b=true then false else kindsS ks (ws.drop 1)):=fun b h=>h
  have tt:Ev (fun k=>stmt_shaped.j0 k ws ks true) false:=Ev.step (fun k=>by rw [stmt_shaped.j0]) (Ev.yes rfl (Ev.is rfl));unfold stmt_shaped.f;refine Ev.yes (by omega) (Ev.both (fun e=>Ev.both (fun f=>?_) (fun f=>?_)) (fun e=>?_))
  · have f':=(toList_is _ _).mp f
    rw [w_next ks.length (by omega)];by_cases g:ws.length=ks.length+1
    · rw [show ((ws.length:Int) != ((ks.length+1:Nat):Int))=false from by rw [bne_eq_false_iff_eq];omega,shapedS_yes ⟨e,f',g⟩]
      refine Ev.step (fun k=>by rw [stmt_shaped.j0]) ?_;exact Ev.no (by decide) (stmt_shaped_l0 ws ks g hk ks 0 rfl)
    · rw [show ((ws.length:Int) != ((ks.length+1:Nat):Int))=true from by rw [bne_iff_ne];omega,shapedS_no (fun x=>g x.2.2)]
      exact tt
  · rw [shapedS_no (fun x=>f ((toList_is _ _).mpr x.2.1))];exact tt
  · rw [shapedS_no (fun x=>e x.1)];exact tt
theorem shapedS_len {ws:List S93} {kw:List UInt8} {ks:List Int} (h:shapedS ws kw ks=true):ws.length=ks.length+1:=by
  unfold shapedS at h;simp only [Bool.and_eq_true,decide_eq_true_iff] at h
  exact h.2.2.1
theorem splitL_len (R:List UInt8):∀ acc:List UInt8,(splL R acc).length≤R.length+1:=by
  induction R with
  | nil=>intro acc;rw [splL];split <;> simp
  | cons c r ih =>
    intro acc;rw [splL];split
    · rw [List.length_cons,List.length_cons];have:=ih [];omega
    · rw [List.length_cons];have:=ih (acc++[c]);omega
theorem divL_len (t:List UInt8):(divL t).length≤t.length+1:=splitL_len t []
theorem take_drop_end {L:List UInt8} {i a:Nat} (h:L.length≤i):(L.take i).drop a=L.drop a:=by rw [List.take_of_length_le h]
theorem take_drop_next {L:List UInt8} {i a:Nat} {c:UInt8} {r:List UInt8} (h:L.drop i=c :: r) (ha:a≤i):(L.take (i+1)).drop a=(L.take i).drop a++[c]:=by
  obtain ⟨h1,h2,h3⟩:=drop_at h;rw [List.take_add_one,List.drop_append_of_le_length (by rw [List.length_take];omega)];congr 1
  rw [List.getElem?_eq_getElem h1];rw [List.getD_eq_getElem?_getD,List.getElem?_eq_getElem h1] at h2;exact congrArg (fun x=>[x]) h2
theorem take_drop_self (L:List UInt8) (i:Nat):(L.take i).drop i=[]:=by
  rw [List.drop_eq_nil_iff,List.length_take];omega
theorem take_drop_ne {L:List UInt8} {i a:Nat} (h:a < i) (hi:i≤L.length):(L.take i).drop a≠[]:=by
  intro e;have:=List.drop_eq_nil_iff.mp e;rw [List.length_take] at this;omega
theorem take_drop_nil {L:List UInt8} {i a:Nat} (h:i≤a):(L.take i).drop a=[]:=by
  rw [List.drop_eq_nil_iff,List.length_take];omega
theorem get_oL (L:List UInt8) (i:Nat) (h:i < L.length):(oL L).get! i=L.getD i 0:=by
  have h':i < (oL L).size:=by rw [oL_size];exact h
  rw [get_bang (oL L) i h',List.getD_eq_getElem?_getD,List.getElem?_eq_getElem h];rfl
theorem map_snoc (xs:List (List UInt8)) (x:List UInt8):xs.map oL++[oL x]=(xs++[x]).map oL:=by rw [List.map_append];rfl
theorem stmt_divide_l0 (L:List UInt8) (hL:L.length≤900000) (R:List UInt8):∀ (i a:Nat) (xs:List (List UInt8)),L.drop i=R→a≤i→i≤L.length→xs.length≤i →
    Ev (fun k=>stmt_divide.l0 k (oL L) (xs.map oL) a i) ((xs++splL R ((L.take i).drop a)).map oL):=by
  induction R with
  | nil =>
    intro i a xs h ha hi hx;have:=drop_end h;refine Ev.step (fun k=>by rw [stmt_divide.l0]) (Ev.no (by rw [oL_size];omega) ?_);rw [splL,oL_size];refine Ev.both (fun e=>Ev.yes (by rw [List.length_map];omega) (Ev.is ?_)) (fun e=>Ev.is ?_)
    · rw [if_neg (take_drop_ne (by omega) hi),← map_snoc,oL_extract,List.take_of_length_le (Nat.le_refl _),take_drop_end (by omega)]
    · rw [if_pos (take_drop_nil (by omega)),List.append_nil]
  | cons c r ih =>
    intro i a xs h ha hi hx;obtain ⟨h1,h2,h3⟩:=drop_at h;refine Ev.step (fun k=>by rw [stmt_divide.l0]) (Ev.yes (by rw [oL_size];omega) ?_);rw [get_oL L i h1,h2,splL];refine Ev.both (fun e=>Ev.yes (by rw [List.length_map];omega) ?_) (fun e=>?_)
    · rw [if_pos e,oL_extract,map_snoc]
      have:=ih (i+1) (i+1) (xs++[(L.take i).drop a]) h3 (Nat.le_refl _) (by omega) (by rw [List.length_append,List.length_singleton];omega);rw [take_drop_self,List.append_assoc] at this;exact this
    · rw [if_neg e]
      have:=ih (i+1) a xs h3 (by omega) (by omega) (by omega);rw [take_drop_next h ha] at this;exact this
theorem stmt_divide_ev (t:List UInt8) (ht:t.length≤900000):Ev (fun k=>stmt_divide.f k (oL t)) ((divL t).map oL):=by
  unfold stmt_divide.f;exact Ev.yes (by rw [oL_size];omega) (stmt_divide_l0 t ht t 0 0 [] rfl (Nat.le_refl _) (Nat.zero_le _) (Nat.le_refl _))
theorem rdOf_map {L:List (List UInt8)} {i:Nat} {x:List UInt8} {r:List (List UInt8)} (h:L.drop i=x :: r):i < L.length∧rdOf ByteArray.empty (L.map oL) (i:Int)=oL x∧L.drop (i+1)=r:=by
  have hlt:i < L.length:=by
    rcases Nat.lt_or_ge i L.length with h1 | h1
    · exact h1
    · rw [List.drop_eq_nil_of_le h1] at h;cases h
  rw [List.drop_eq_getElem_cons hlt] at h;obtain ⟨h1,h2⟩:=List.cons.inj h;refine ⟨hlt,?_,h2⟩;unfold rdOf;rw [Int.toNat_natCast,List.getD_eq_getElem?_getD,List.getElem?_map,List.getElem?_eq_getElem hlt,← h1];rfl
theorem same_l0 (a0 a1:ByteArray) (a2 a3 a4:Int) (b0 b1:ByteArray) (b2 b3 b4:Int) (ls:List S44) (hl:ls.length≤1000000) (R:List S44):∀ i:Nat,ls.drop i=R→Ev (fun k=>rf47_Same.l0 k (i:Int) a0 a1 a2 a3 a4 ls b0 b1 b2 b3 b4 ls) true:=by
  induction R with
  | nil =>
    intro i h;have:=List.drop_eq_nil_iff.mp h;refine Ev.step (fun k=>by rw [rf47_Same.l0]) ?_;exact Ev.no (by omega) (Ev.is rfl)
  | cons x r ih =>
    intro i h;obtain ⟨h1,h2,h3⟩:=rd44_at h;refine Ev.step (fun k=>by rw [rf47_Same.l0]) (Ev.yes (by omega) (Ev.yes (by omega) (Ev.yes (by omega) ?_)));rw [h2,w_next i (by omega)];refine Ev.no ?_ (ih (i+1) h3);rw [beq_self_eq_true,beq_self_eq_true,beq_self_eq_true,beq_self_eq_true];decide
theorem same_ev (s:ByteArray×ByteArray×Int×Int×Int×List S44) (hl:s.2.2.2.2.2.length≤1000000):Ev (fun k=>rf47_Same.f k s.1 s.2.1 s.2.2.1 s.2.2.2.1 s.2.2.2.2.1 s.2.2.2.2.2 s.1 s.2.1 s.2.2.1 s.2.2.2.1 s.2.2.2.2.1 s.2.2.2.2.2) true:=by
  unfold rf47_Same.f;refine Ev.yes rfl (Ev.yes rfl (Ev.yes rfl (Ev.yes rfl (Ev.yes rfl ?_))));rw [show ((s.2.2.2.2.2.length:Int) != (s.2.2.2.2.2.length:Int))=false from bne_self_eq_false _];refine Ev.step (fun k=>by rw [rf47_Same.j0]) ?_;exact Ev.no (by decide) (same_l0 _ _ _ _ _ _ _ _ _ _ _ hl _ 0 rfl)
end Go.Proofs.YtmlcdpfcafmmcaaDoor.A
namespace Go.Proofs.YtmlcdpfcafmmcaaDoor.A
open Go.RowKit B WW WL WM
theorem parseL_eq (l:List UInt8) (lo hi:Int):parseL l lo hi=(if formedM (magOf l) (negOf l)=true then (if I64 (sgn (negOf l) (dval (magOf l)))∧lo≤sgn (negOf l) (dval (magOf l))∧sgn (negOf l) (dval (magOf l))≤hi then (sgn (negOf l) (dval (magOf l)),0) else (0,3)) else (0,5)):=rfl
theorem num_Parse_at (s:ByteArray) (lo hi:Int) (hs:s.size≤140737488351232):num_Parse.f s lo hi=some (parseL s.data.toList lo hi):=by
  unfold num_Parse.f;rw [if_pos hs]
def plainL:List UInt8→List UInt8
  | []=>[]
  | c :: r=>if c=48∧r≠[] then plainL r else c :: r
theorem plainL_all:∀ l,l.all isDig=true→(plainL l).all isDig=true
  | [],h=>h
  | c :: r,h=>by
    unfold plainL;split
    · exact plainL_all r (by rw [List.all_cons,Bool.and_eq_true] at h;exact h.2)
    · exact h
theorem plainL_ne:∀ l,l≠[]→plainL l≠[]
  | [],h=>absurd rfl h
  | c :: r,_=>by
    unfold plainL;split
    · rename_i h;exact plainL_ne r h.2
    · simp
theorem plainL_head:∀ l,(plainL l).head?=some 48→plainL l=[48]
  | []=>by simp [plainL]
  | c :: r=>by
    unfold plainL;split
    · exact plainL_head r
    · rename_i h
      intro h2;simp only [List.head?_cons,Option.some.injEq] at h2
      subst h2;by_cases hr:r=[]
      · rw [hr]
      · exact absurd ⟨rfl,hr⟩ h
theorem plainL_len:∀ l,(plainL l).length≤l.length
  | []=>Nat.le_refl _
  | c :: r=>by
    unfold plainL;split
    · have:=plainL_len r;simp;omega
    · exact Nat.le_refl _
theorem bt_head (s:ByteArray) (c:UInt8) (r:List UInt8) (h:s.data.toList=c :: r):bt s 0=(c.toNat:Int):=by
  have hb:bt s 0=((s.data.toList.getD 0 0).toNat:Int):=bt_eq s 0;rw [hb,h];rfl
theorem extract_tail (s:ByteArray) (c:UInt8) (r:List UInt8) (h:s.data.toList=c :: r):(s.extract 1 s.size).data.toList=r:=by
  rw [Lib.extract_to_end,h];rfl
theorem byte48 (c:UInt8):((c.toNat:Int)=48) ↔ c=48:=by
  have:=byte_is c 48;simpa using this
theorem money_plain_l0:∀ (l:List UInt8) (s:ByteArray),s.data.toList=l→l.length≤1000→Ev (fun k=>money_plain.l0 k s) ⟨(plainL l).toArray⟩
  | [],s,hs,_=>by
    have hsz:=size_eq' s;rw [hs,List.length_nil] at hsz;refine Ev.step (fun k=>by rw [money_plain.l0]) (Ev.no (by omega) (Ev.const ?_));rw [ba_of hs];rfl
  | c :: r,s,hs,hl=>by
    have hsz:=size_eq' s;rw [hs,List.length_cons] at hsz;refine Ev.step (fun k=>by rw [money_plain.l0]) ?_;rw [bt_head s c r hs];unfold plainL;by_cases hr:r=[]
    · rw [if_neg (fun h=>h.2 hr)]
      subst hr;exact Ev.no (by simp at hsz;omega) (Ev.const (by rw [ba_of hs]))
    · have:0 < r.length:=List.length_pos_iff.2 hr
      refine Ev.yes (by omega) (Ev.yes (by omega) ?_);by_cases hc:c=48
      · rw [if_pos ⟨hc,hr⟩]
        exact Ev.yes ((byte48 c).mpr hc) (Ev.yes (by omega) (money_plain_l0 r _ (extract_tail s c r hs) (by simp at hl;omega)))
      · rw [if_neg (fun h=>hc h.1)]
        exact Ev.no (fun h=>hc ((byte48 c).mp h)) (Ev.const (by rw [ba_of hs]))
theorem money_plain_at (s:ByteArray) (hl:s.data.toList.length≤1000):Ev (fun k=>money_plain.f k s) ⟨(plainL s.data.toList).toArray⟩:=by
  unfold money_plain.f;exact money_plain_l0 _ s rfl hl
def parseCore (neg:Bool) (all:List UInt8):Int×Int:=if neg=true∧all=[48] then (0,5) else if dval all≤1000000000000000 then (sgn neg (dval all),0) else (0,4)
theorem mag_sg (neg:Bool) (all:List UInt8) (ha:all.all isDig=true) (hn:all≠[]):negOf ((if neg=true then [45] else [])++all)=neg∧magOf ((if neg=true then [45] else [])++all)=all:=by
  cases neg
  · have:negOf all=false:=by
      cases all with
      | nil=>exact absurd rfl hn
      | cons c r =>
        rw [List.all_cons,Bool.and_eq_true] at ha;unfold negOf;rw [List.head?_cons,beq_eq_false_iff_ne];intro h;rw [Option.some.inj h] at ha;exact absurd ha.1 (by decide)
    simp [magOf,this]
  · simp [negOf,magOf]
theorem parse_core (neg:Bool) (all:List UInt8) (ha:all.all isDig=true) (hn:all≠[]) (hh:all.head?=some 48→all=[48]) :
    parseL ((if neg=true then [45] else [])++all) (-1000000000000000) 1000000000000000=if neg=true∧all=[48] then (0,5) else if dval all≤1000000000000000 then (sgn neg (dval all),0) else (0,3):=by
  obtain ⟨h1,h2⟩:=mag_sg neg all ha hn;rw [parseL_eq,h1,h2];by_cases hc:neg=true∧all=[48]
  · rw [if_pos hc,hc.1,hc.2];decide
  · rw [if_neg hc]
    have hf:formedM all neg=true:=by
      unfold formedM;rw [ha,Bool.and_true,Bool.and_eq_true];refine ⟨by simpa using hn,?_⟩;rw [Bool.not_eq_true',Bool.and_eq_false_iff];by_cases h48:all.head?=some 48
      · right
        have:=hh h48;subst this
        cases neg
        · rfl
        · exact absurd ⟨rfl,rfl⟩ hc
      · left;rw [beq_eq_false_iff_ne];exact h48
    rw [if_pos hf];by_cases hv:dval all≤1000000000000000
    · rw [if_pos hv,if_pos]
      unfold I64;cases neg <;> simp only [sgn] <;> (try simp) <;> omega
    · rw [if_neg hv,if_neg]
      unfold I64;cases neg <;> simp only [sgn] <;> (try simp) <;> omega
def refForm (m:List UInt8) (d:Nat):Option (List UInt8×List UInt8) :=
  if d=0 then (if m.all isDig=true∧m≠[] then some (m,[]) else none) else
    if d+1 < m.length∧m[m.length - d - 1]?=some 46∧(m.take (m.length - d - 1)).all isDig=true∧(m.drop (m.length - d - 1+1)).all isDig=true then some (m.take (m.length - d - 1),m.drop (m.length - d - 1+1)) else none
theorem split_form (m:List UInt8) (d:Nat):(if (splitL m).2.2=true∧(splitL m).2.1.length=d then some ((splitL m).1,(splitL m).2.1) else none)=refForm m d:=by
  have hm:=List.takeWhile_append_dropWhile (p:=isDig) (l:=m);have htw:(m.takeWhile isDig).all isDig=true:=List.all_takeWhile;unfold splitL
  cases hd:m.dropWhile isDig with
  | nil =>
    rw [hd,List.append_nil] at hm;rw [hm] at htw;unfold refForm;by_cases h0:d=0
    · subst h0
      rw [if_pos rfl]
      cases m with
      | nil=>simp
      | cons c r=>simp [htw]
    · rw [if_neg (by simp;omega),if_neg h0,if_neg]
      rintro ⟨h1,h2,_⟩;have h3:m.length - d - 1 < m.length:=by omega
      rw [List.getElem?_eq_getElem h3,Option.some.injEq] at h2;have:=List.all_eq_true.mp htw _ (List.getElem_mem h3);rw [h2] at this;exact absurd this (by decide)
  | cons c r =>
    have hc:isDig c=false:=by
      have:=List.head?_dropWhile_not isDig m;rw [hd] at this;simpa using this
    rw [hd] at hm;generalize m.takeWhile isDig=tw at *;subst hm;have hnall:(tw++c :: r).all isDig=false:=by rw [List.all_append,List.all_cons,hc];simp
    have hL:(tw++c :: r).length=tw.length+r.length+1:=by rw [List.length_append,List.length_cons];omega
    have key:∀ n,(tw++c :: r)[n]?=some 46→((tw++c :: r).take n).all isDig=true→n=tw.length:=by
      intro n h1 h2;rcases Nat.lt_trichotomy n tw.length with h | h | h
      · rw [List.getElem?_append_left h,List.getElem?_eq_getElem h,Option.some.injEq] at h1
        have:=List.all_eq_true.mp htw _ (List.getElem_mem h);rw [h1] at this;exact absurd this (by decide)
      · exact h
      · rw [List.take_append,List.all_append,Bool.and_eq_true] at h2
        have h3:=h2.2;obtain ⟨j,hj⟩:∃ j,n - tw.length=j+1:=⟨n - tw.length - 1,by omega⟩
        rw [hj,List.take_succ_cons,List.all_cons,hc] at h3;simp at h3
    by_cases hcr:c=46∧r.all isDig=true
    · simp only [if_pos hcr]
      obtain ⟨rfl,hr⟩:=hcr;unfold refForm;by_cases h0:d=0
      · subst h0
        have hx:¬ ((!tw.isEmpty && !r.isEmpty)=true∧r.length=0):=by
          rintro ⟨h1,h2⟩;have:r=[]:=List.length_eq_zero_iff.1 h2;subst this;simp at h1
        rw [if_pos rfl,hnall,if_neg hx,if_neg (by simp)]
      · rw [if_neg h0]
        by_cases hrd:r.length=d
        · have hn:(tw++46 :: r).length - d - 1=tw.length:=by omega
          rw [hn,hL];have hg:(tw++46 :: r)[tw.length]?=some 46:=by simp
          have ht:(tw++46 :: r).take tw.length=tw:=List.take_left;have hdr:(tw++46 :: r).drop (tw.length+1)=r:=by rw [← List.drop_drop,List.drop_left];rfl
          rw [hg,ht,hdr,htw,hr];have hrne:r≠[]:=by intro h;subst h;simp at hrd;omega
          have e:(!tw.isEmpty && !r.isEmpty)=true ↔ tw≠[]:=by simp [hrne]
          by_cases htn:tw=[]
          · rw [if_neg (fun h=>e.mp h.1 htn),if_neg (fun h=>by have:=h.1;subst htn;simp at this;omega)]
          · rw [if_pos ⟨e.mpr htn,hrd⟩,if_pos ⟨by have:=List.length_pos_iff.2 htn;omega,rfl,rfl,rfl⟩]
        · rw [if_neg (fun h=>hrd h.2),if_neg]
          rintro ⟨h1,h2,h3,h4⟩;have:=key _ h2 h3;omega
    · simp only [if_neg hcr]
      rw [if_neg (fun h=>by cases h.1)];unfold refForm;by_cases h0:d=0
      · rw [if_pos h0,hnall,if_neg (by simp)]
      · rw [if_neg h0,if_neg]
        rintro ⟨h1,h2,h3,h4⟩;have hk:=key _ h2 h3;rw [hk] at h2 h4;refine hcr ⟨by simpa using h2,?_⟩;rw [← List.drop_drop,List.drop_left] at h4;exact h4
theorem refForm_facts {m:List UInt8} {d:Nat} {w r:List UInt8} (h:refForm m d=some (w,r)):w.all isDig=true∧r.all isDig=true∧w≠[]∧r.length=d∧w.length+r.length≤m.length:=by
  unfold refForm at h;split at h
  · split at h
    · rename_i h1 h2
      simp only [Option.some.injEq,Prod.mk.injEq] at h
      obtain ⟨rfl,rfl⟩:=h;exact ⟨h2.1,rfl,h2.2,h1.symm,by simp⟩
    · cases h
  · split at h
    · rename_i h1 h2
      simp only [Option.some.injEq,Prod.mk.injEq] at h
      obtain ⟨rfl,rfl⟩:=h;refine ⟨h2.2.2.1,h2.2.2.2,?_,?_,?_⟩
      · intro e;have:=congrArg List.length e;rw [List.length_take,List.length_nil] at this;omega
      · rw [List.length_drop];omega
      · rw [List.length_take,List.length_drop];omega
    · cases h
def formM (neg:Bool) (m:List UInt8) (d:Nat):Int×Int :=
  match refForm m d with
  | some (w,r)=>if plainL w=w then parseCore neg (plainL (w++r)) else (0,5)
  | none=>(0,5)
def parseM (l:List UInt8) (d:Int):Int×Int:=if fitsB d=false then (0,2) else formM (negOf l) (magOf l) d.toNat
theorem plain_all {w r:List UInt8} (hw:w.all isDig=true) (hr:r.all isDig=true):(plainL (w++r)).all isDig=true:=plainL_all _ (by rw [List.all_append,hw,hr];rfl)
theorem ba_toList (l:List UInt8):(⟨l.toArray⟩:ByteArray).data.toList=l:=rfl
theorem sg_len {sg:ByteArray} {neg:Bool} (h:sg.data.toList=if neg=true then [45] else []):sg.size≤1:=by
  rw [size_eq',h];cases neg <;> simp
theorem money_Parse_j2 (sg w r:ByteArray) (neg:Bool) (hsg:sg.data.toList=if neg=true then [45] else []) (hw:w.data.toList.all isDig=true) (hr:r.data.toList.all isDig=true) (hne:w.data.toList≠[]) (hl:w.size+r.size≤400) :
    Ev (fun k=>money_Parse.j2 k sg w r (w.toList != (plainL w.data.toList))) (if plainL w.data.toList=w.data.toList then parseCore neg (plainL (w.data.toList++r.data.toList)) else (0,5)):=by
  refine Ev.step (fun k=>by rw [money_Parse.j2]) ?_;rw [ByteArray.toList_eq];by_cases h:plainL w.data.toList=w.data.toList
  · rw [if_pos h,h]
    refine Ev.no (by simp) (Ev.yes (by omega) ?_);have hsz1:=size_eq' w;have hsz2:=size_eq' r;have hwr:(w++r).data.toList=w.data.toList++r.data.toList:=ba_append w r;refine Ev.bind (money_plain_at (w++r) (by rw [hwr,List.length_append];omega)) ?_;rw [hwr];have hal:=plain_all hw hr;have hn:plainL (w.data.toList++r.data.toList)≠[]:=plainL_ne _ (by simp [hne]);have hh:=plainL_head (w.data.toList++r.data.toList);have hlen:=plainL_len (w.data.toList++r.data.toList);rw [List.length_append] at hlen;generalize plainL (w.data.toList++r.data.toList)=all at *;have hs1:=sg_len hsg;have hs2:(⟨all.toArray⟩:ByteArray).size=all.length:=size_eq' _;refine Ev.yes (by omega) (Ev.const ?_);rw [num_Parse_at _ _ _ (by rw [ByteArray.size_append];omega),ba_append,hsg,ba_toList,parse_core neg all hal hn hh];unfold parseCore;simp only [Option.bind_some]
    by_cases h1:neg=true∧all=[48]
    · rw [if_pos h1,if_pos h1];rfl
    · rw [if_neg h1,if_neg h1]
      by_cases h2:dval all≤1000000000000000
      · rw [if_pos h2,if_pos h2];rfl
      · rw [if_neg h2,if_neg h2];rfl
  · rw [if_neg h]
    exact Ev.yes (by rw [bne_iff_ne];exact fun e=>h e.symm) (Ev.const rfl)
theorem money_Parse_j2_bad (sg w r:ByteArray):Ev (fun k=>money_Parse.j2 k sg w r true) (0,5) :=
  Ev.step (fun k=>by rw [money_Parse.j2]) (Ev.yes rfl (Ev.const rfl))
theorem money_Parse_j1 (m sg:ByteArray) (d:Nat) (neg:Bool) (hsg:sg.data.toList=if neg=true then [45] else []) (hm:m.size≤400) :
    Ev (fun k=>money_Parse.j1 k m (d:Int) sg) (formM neg m.data.toList d):=by
  have hsz:=size_eq' m;refine Ev.step (fun k=>by rw [money_Parse.j1]) ?_;rw [show money_split.f m=some (ofL (splitL m.data.toList).1,ofL (splitL m.data.toList).2.1,(splitL m.data.toList).2.2) by unfold money_split.f;rw [if_pos (by omega)]];simp only [Option.bind_some]
  have hsf:=split_form m.data.toList d;unfold formM;rw [← hsf];generalize hsp:splitL m.data.toList=S at *;obtain ⟨w,r,ok⟩:=S;dsimp only at *
  have hrs:((ofL r).size:Int)=(r.length:Int):=by rw [size_eq'];rfl
  cases ok
  · rw [if_neg (by simp)]
    exact Ev.no (by decide) (money_Parse_j2_bad _ _ _)
  · refine Ev.yes rfl ?_
    by_cases hd:r.length=d
    · rw [if_pos ⟨rfl,hd⟩]
      rw [if_pos ⟨rfl,hd⟩] at hsf;obtain ⟨f1,f2,f3,f4,f5⟩:=refForm_facts hsf.symm;refine Ev.yes (by rw [hrs,hd]) ?_;refine Ev.bind (money_plain_at (ofL w) (by show w.length≤1000;omega)) ?_;have:=money_Parse_j2 sg (ofL w) (ofL r) neg hsg f1 f2 f3 (by rw [size_eq',size_eq'];show w.length+r.length≤400;omega);rw [show ((⟨(plainL (ofL w).data.toList).toArray⟩:ByteArray)).toList=plainL (ofL w).data.toList by rw [ByteArray.toList_eq]];exact this
    · rw [if_neg (fun h=>hd h.2)]
      exact Ev.no (by rw [hrs];omega) (money_Parse_j2_bad _ _ _)
theorem money_fits_at (d:Int):money_fits.f d=some (fitsB d):=by
  unfold money_fits.f fitsB;by_cases h:0≤d <;> simp [h]
theorem money_Parse_at (s:ByteArray) (d:Int) (hs:s.size≤400):Ev (fun k=>money_Parse.f k s d) (parseM s.data.toList d):=by
  have hsz:=size_eq' s;unfold money_Parse.f parseM;rw [money_fits_at];simp only [Option.bind_some]
  by_cases hf:fitsB d=false
  · rw [if_pos hf,hf];exact Ev.no (by decide) (Ev.const rfl)
  rw [if_neg hf];rw [Bool.not_eq_false] at hf;obtain ⟨d0,d4⟩:=(fitsB_iff d).mp hf;obtain ⟨D,rfl⟩:∃ D:Nat,d=D:=⟨d.toNat,by omega⟩
  rw [Int.toNat_natCast];refine Ev.yes hf ?_
  have no:Ev (fun k=>money_Parse.j0 k s (D:Int) (⟨#[]⟩:ByteArray) false) (formM false s.data.toList D) :=
    Ev.step (fun k=>by rw [money_Parse.j0]) (Ev.no (by decide) (money_Parse_j1 s _ D false rfl hs))
  cases hl:s.data.toList with
  | nil =>
    rw [hl] at no;exact Ev.yes (by rw [ByteArray.toList_eq];exact hl) no
  | cons c r =>
    rw [hl,List.length_cons] at hsz;refine Ev.no (by rw [ByteArray.toList_eq,hl];simp) (Ev.yes (by omega) ?_);rw [bt_head s c r hl]
    have hb:((c.toNat:Int) == 45)=negOf (c :: r):=by
      unfold negOf;rw [List.head?_cons,Bool.eq_iff_iff];have:=byte_is c 45;simpa using this
    rw [hb]
    cases hn:negOf (c :: r)
    · rw [hl] at no
      have:magOf (c :: r)=c :: r:=by unfold magOf;rw [hn];rfl
      rw [this];exact no
    · have:magOf (c :: r)=r:=by unfold magOf;rw [hn];rfl
      rw [this];refine Ev.step (fun k=>by rw [money_Parse.j0]) (Ev.yes rfl (Ev.yes (by omega) ?_));have:=money_Parse_j1 (s.extract 1 s.size) (⟨#[45]⟩:ByteArray) D true rfl (by rw [ByteArray.size_extract];omega);rw [extract_tail s c r hl] at this;exact this
theorem first_at {K:Nat} (h:K≤3600):first K≤109573:=by rw [← first_end];exact first_le h
theorem days_Of_loop (j M:Nat) (x z:Int) (hj:j < 300) (hM:M < 12) (hx:0≤x) (hx':x≤31):∀ d m:Nat,m+d=M→Ev (fun k=>days_Of.l0 k (first (12 * j+m)+x) ((m+1:Nat):Int) ((1900+j:Nat):Int) ((M+1:Nat):Int) z) (first (12 * j+M)+x,0)
  | d,m,e=>by
    have hm:m < 12:=by omega
    have h0:=first_nonneg (12 * j+m);have hl:=lenYM_in j m hm;have hs:first (12 * j+m+1)=first (12 * j+m)+lenYM j m:=by rw [← lenK_at j m hm];rfl
    have h1:=first_at (show 12 * j+m≤3600 by omega)
    cases d with
    | zero =>
      have e':m=M:=by omega
      subst e';exact Ev.step (fun k=>by rw [days_Of.l0]) (Ev.no (by omega) (Ev.is rfl))
    | succ d =>
      refine Ev.step (fun k=>by rw [days_Of.l0,days_Length_eq _ _ hm,Option.bind_some]) (Ev.yes (by omega) ?_);rw [show wrap64 (((m+1:Nat):Int)+1)=((m+1+1:Nat):Int) by unfold wrap64;omega,show wrap64 (first (12 * j+m)+x+lenYM j m)=first (12 * j+(m+1))+x by rw [show 12 * j+(m+1)=12 * j+m+1 by omega,hs];unfold wrap64;omega];exact days_Of_loop j M x z hj hM hx hx' d (m+1) (by omega)
theorem days_Of_ev (K:Nat) (q:Int) (hK:K < 3600) (h1:1≤q) (h2:q≤lenK K):Ev (fun k=>days_Of.f k ((1900+K / 12:Nat):Int) ((K % 12+1:Nat):Int) q) (first K+(q - 1),0):=by
  have hm:K % 12 < 12:=Nat.mod_lt _ (by omega);have hl:=lenK_in K;unfold days_Of.f;refine Ev.no (by omega) (Ev.no (by omega) (Ev.no (by omega) ?_));rw [days_Length_eq _ _ hm];have hd:decide (q > lenYM (K / 12) (K % 12))=false:=decide_eq_false (by have:lenK K=lenYM (K / 12) (K % 12):=rfl;omega);show Ev (fun k=>days_Of.j0 k (decide (q > lenYM (K / 12) (K % 12))) _ _ _) _
  rw [hd];refine Ev.step (fun k=>by rw [days_Of.j0]) (Ev.no (by decide) ?_);rw [days_before_eq _ (by omega),befN_first];have h0:=first_nonneg (12 * (K / 12));have h3:=first_at (show 12 * (K / 12)≤3600 by omega);show Ev (fun k=>days_Of.l0 k (wrap64 (wrap64 (first (12 * (K / 12))+q) - 1)) 1 _ _ _) _
  rw [show wrap64 (wrap64 (first (12 * (K / 12))+q) - 1)=first (12 * (K / 12)+0)+(q - 1) by show _=first (12 * (K / 12))+(q - 1);unfold wrap64;omega];have h:=days_Of_loop (K / 12) (K % 12) (q - 1) q (by omega) hm (by omega) (by omega) (K % 12) 0 (by omega);rw [show 12 * (K / 12)+K % 12=K by omega] at h;exact h
end Go.Proofs.YtmlcdpfcafmmcaaDoor.A
namespace Go.Proofs.YtmlcdpfcafmmcaaDoor.A
open Go.RowKit B WW WL WM
theorem days_Of_any (y m q:Nat):Ev (fun k=>days_Of.f k (y:Int) (m:Int) (q:Int)) (ofS y m q):=by
  have bad:∀ b,b=true→Ev (fun k=>days_Of.j0 k b (y:Int) (m:Int) (q:Int)) ((0:Int),(11:Int)):=fun b hb=>Ev.step (fun k=>by rw [days_Of.j0]) (Ev.yes hb (Ev.is rfl))
  unfold ofS;by_cases c:1900≤y∧y≤2199∧1≤q∧(q:Int)≤ymS y m
  · rw [if_pos c]
    have hm:1≤m∧m≤12:=by
      obtain ⟨_,_,c3,c4⟩:=c;unfold ymS at c4;by_cases h:1≤m∧m≤12
      · exact h
      · rw [if_neg h] at c4;omega
    have e:(12 * (y - 1900)+(m - 1)) / 12=y - 1900∧(12 * (y - 1900)+(m - 1)) % 12=m - 1:=⟨by omega,by omega⟩
    have:=days_Of_ev (12 * (y - 1900)+(m - 1)) (q:Int) (by omega) (by omega) (by
      unfold lenK;rw [e.1,e.2];have:=c.2.2.2;unfold ymS at this;rw [if_pos hm] at this;exact this)
    rw [e.1,e.2,show 1900+(y - 1900)=y by omega,show m - 1+1=m by omega] at this;exact this
  · rw [if_neg c]
    unfold days_Of.f;refine Ev.both (fun _=>bad _ rfl) (fun h1=>Ev.both (fun _=>bad _ rfl) (fun h2=>Ev.both (fun _=>bad _ rfl) (fun h3=>?_)));rw [days_Length_any y m (by omega)];simp only [Option.bind_some]
    exact bad _ (decide_eq_true (by omega))
theorem days_Parse_ev (l:List UInt8) (hl:l.length≤140737488351232):Ev (fun k=>days_Parse.f k (oL l)) (dparse l):=by
  unfold days_Parse.f;rw [oL_size];have b4:=bt45 l 4;have b7:=bt45 l 7;have no:¬ DP l→Ev (fun _=>some ((0:Int),(5:Int))) (dparse l):=fun h=>Ev.is (dparse_no h)
  refine Ev.yes hl (Ev.both (fun h=>?_) (fun h=>no (fun x=>h x.1)));refine Ev.both (fun h4=>?_) (fun h4=>no (fun x=>h4 (b4.mpr x.2.1)));refine Ev.both (fun h7=>?_) (fun h7=>no (fun x=>h7 (b7.mpr x.2.2.1)));rw [show (fun k=>days_Parse.rem k (oL l) 3 0 0 0)=(fun k=>(days_number.f k ((oL l).extract 0 4)).bind fun c=>if c.2=true then days_Parse.rem k (oL l) 2 c.1 0 0 else some (0,5)) from funext fun k=>by rw [days_Parse.rem]];rw [oL_extract,List.drop_zero];refine Ev.bind (days_number_ev (l.take 4) (by rw [List.length_take];omega)) ?_;by_cases a1:(l.take 4).all isDig=true
  · rw [if_pos a1]
    refine Ev.yes rfl ?_;rw [show (fun k=>days_Parse.rem k (oL l) 2 (dval (l.take 4)) 0 0)=(fun k=>(days_number.f k ((oL l).extract 5 7)).bind fun c=>if c.2=true then days_Parse.rem k (oL l) 1 (dval (l.take 4)) c.1 0 else some (0,5)) from funext fun k=>by rw [days_Parse.rem]];rw [oL_extract];refine Ev.bind (days_number_ev ((l.take 7).drop 5) (by rw [List.length_drop,List.length_take];omega)) ?_;by_cases a2:((l.take 7).drop 5).all isDig=true
    · rw [if_pos a2]
      refine Ev.yes rfl ?_;rw [show (fun k=>days_Parse.rem k (oL l) 1 (dval (l.take 4)) (dval ((l.take 7).drop 5)) 0)=(fun k=>(days_number.f k ((oL l).extract 8 10)).bind fun c=>if c.2=true then days_Of.f k (dval (l.take 4)) (dval ((l.take 7).drop 5)) c.1 else some (0,5)) from funext fun k=>by rw [days_Parse.rem]];rw [oL_extract,show l.take 10=l by rw [← h,List.take_length]];refine Ev.bind (days_number_ev (l.drop 8) (by rw [List.length_drop];omega)) ?_;by_cases a3:(l.drop 8).all isDig=true
      · rw [if_pos a3,show dparse l=ofS (dval (l.take 4)) (dval ((l.take 7).drop 5)) (dval (l.drop 8)) from if_pos ⟨h,b4.mp h4,b7.mp h7,a1,a2,a3⟩]
        exact Ev.yes rfl (days_Of_any _ _ _)
      · rw [if_neg a3]
        exact Ev.no (by decide) (no (fun x=>a3 x.2.2.2.2.2))
    · rw [if_neg a2]
      exact Ev.no (by decide) (no (fun x=>a2 x.2.2.2.2.1))
  · rw [if_neg a1]
    exact Ev.no (by decide) (no (fun x=>a1 x.2.2.2.1))
def entryS (p:PSt) (ws:List S93):PSt×Int :=
  if (dparse (wB ws 1).data.toList).2=0 then ({ p with ls:=p.ls++[⟨(dparse (wB ws 1).data.toList).1,(parseM (wB ws 2).data.toList p.dg).1,wB ws 3,wB ws 4⟩] },(parseM (wB ws 2).data.toList p.dg).2) else (p,(dparse (wB ws 1).data.toList).2)
def moveS (cs:List S77) (p:PSt) (ws:List S93):PSt×Int :=
  if p.part=0∧shapedS ws kwS [1,1,2]=true then headS cs p ws else
  if p.part=1∧shapedS ws kwO [2]=true then ({ p with part:=2,op:=(parseM (wB ws 1).data.toList p.dg).1 },(parseM (wB ws 1).data.toList p.dg).2) else
  if p.part=2∧shapedS ws kwL [2,2,3,3]=true then entryS p ws else
  if p.part=2∧shapedS ws kwC [2]=true then ({ p with part:=3,cl:=(parseM (wB ws 1).data.toList p.dg).1 },(parseM (wB ws 1).data.toList p.dg).2) else (p,27)
def stepS (cs:List S77) (p:PSt) (l:List UInt8):PSt×Int:=if (cutW l).2.2=0 then (if 0 < (cutW l).1.length then moveS cs p (cutW l).1 else (p,0)) else (p,(cutW l).2.2)
def goS (cs:List S77):PSt→List (List UInt8)→Nat→PSt×Int×Nat
  | p,[],i=>(p,0,i)
  | p,l :: r,i=>if (stepS cs p l).2=0 then goS cs (stepS cs p l).1 r (i+1) else (p,(stepS cs p l).2,i)
def parseS (t:List UInt8) (cs:List S77):SRes:=if rtL cs=true then endS (goS cs pst0 (divL t) 0) else noS 0 2
theorem moveS_inv {cs:List S77} {p:PSt} {i:Nat} {ws:List S93} (h:Inv cs p i) (hw:WS ws) (he:(moveS cs p ws).2=0):Inv cs (moveS cs p ws).1 (i+1):=by
  have hl:=h.len;unfold moveS at he ⊢;split at he
  · rename_i c;rw [if_pos c]
    unfold headS at he ⊢;split at he
    · rename_i c;rw [if_pos c]
      split at he
      · rename_i d;rw [if_pos d]
        exact ⟨wB_size hw _,wB_size hw _,h.ls,by show p.ls.length≤_;omega,by show (0:Int)≤1;decide,by show (1:Int)≤3;decide,fun _=>⟨d,rfl⟩⟩
      · exact absurd (show (13:Int)=0 from he) (by decide)
    · exact absurd (show (7:Int)=0 from he) (by decide)
  · rename_i c;rw [if_neg c]
    split at he
    · rename_i c;rw [if_pos c]
      exact ⟨h.acc,h.cur,h.ls,by show p.ls.length≤_;omega,by show (0:Int)≤2;decide,by show (2:Int)≤3;decide,fun _=>h.dg (by rw [c.1];decide)⟩
    · rename_i c;rw [if_neg c]
      split at he
      · rename_i c;rw [if_pos c]
        unfold entryS at he ⊢;split at he
        · rename_i d;rw [if_pos d]
          refine ⟨h.acc,h.cur,fun x hx=>?_,?_,h.lo,h.hi,h.dg⟩
          · rcases List.mem_append.mp hx with hx | hx
            · exact h.ls x hx
            · rw [List.mem_singleton] at hx;subst hx;exact ⟨wB_size hw _,wB_size hw _⟩
          · show (p.ls++[_]).length≤_
            rw [List.length_append,List.length_singleton];omega
        · rename_i d;exact absurd he d
      · rename_i c;rw [if_neg c]
        split at he
        · rename_i c;rw [if_pos c]
          exact ⟨h.acc,h.cur,h.ls,by show p.ls.length≤_;omega,by show (0:Int)≤3;decide,by show (3:Int)≤3;decide,fun _=>h.dg (by rw [c.1];decide)⟩
        · exact absurd (show (27:Int)=0 from he) (by decide)
theorem stepS_inv {cs:List S77} {p:PSt} {i:Nat} {l:List UInt8} (h:Inv cs p i) (he:(stepS cs p l).2=0):Inv cs (stepS cs p l).1 (i+1):=by
  unfold stepS at he ⊢;split at he
  · rename_i c;rw [if_pos c]
    split at he
    · rename_i d;rw [if_pos d];exact moveS_inv h (cutW_size l).1 he
    · rename_i d;rw [if_neg d];exact ⟨h.acc,h.cur,h.ls,Nat.le_succ_of_le h.len,h.lo,h.hi,h.dg⟩
  · rename_i c;exact absurd he c
theorem goS_inv {cs:List S77} (R:List (List UInt8)):∀ {p:PSt} {i:Nat},Inv cs p i→Inv cs (goS cs p R i).1 (i+R.length):=by
  induction R with
  | nil=>intro p i h;exact h
  | cons l r ih =>
    intro p i h;rw [goS];split
    · rename_i e
      have:=ih (stepS_inv h e);rw [List.length_cons,show i+(r.length+1)=i+1+r.length from by omega];exact this
    · exact ⟨h.acc,h.cur,h.ls,Nat.le_trans h.len (Nat.le_add_right _ _),h.lo,h.hi,h.dg⟩
theorem stmt_head_ev (cs:List S77) (p:PSt) (ws:List S93) (hl:3 < ws.length) (hw:WS ws) (hcl:cs.length≤60) (hcs:∀ x∈cs,x.f0.size≤140737488351232):EvP (fun k=>stmt_parser_head.f k cs { p with part:=1 } ws) (headS cs p ws):=by
  unfold stmt_parser_head.f headS
  show EvP (fun k=>if 3 < ws.length then (words_Code.f (wB ws 1)).bind fun b=>if b=true then (money_Digits.f k cs (wB ws 2)).bind fun q=>if q.2=true then
      (num_Parse.f (wB ws 3) 1 4000).bind fun r=>some ({ p with part:=1,acc:=wB ws 1,cur:=wB ws 2,dg:=q.1,no:=r.1 },r.2)
    else some ({ p with part:=1,acc:=wB ws 1,cur:=wB ws 2,dg:=q.1 },13) else some ({ p with part:=1,acc:=wB ws 1,cur:=wB ws 2 },7) else none) _
  have s1:=wB_size hw 1;have s3:=wB_size hw 3;rw [words_Code_at _ (by omega),num_Parse_at _ _ _ (by omega)];simp only [Option.bind_some]
  by_cases c:codeW (wB ws 1).data.toList=true
  · rw [if_pos c]
    by_cases d:(dgL cs (wB ws 2)).2=true
    · rw [if_pos d]
      exact EvP.of (Ev.yes hl (Ev.yes c (Ev.bind (money_Digits_ev cs (wB ws 2) hcl hcs) (Ev.yes d (Ev.is rfl)))))
    · rw [if_neg d]
      exact EvP.no (Ev.yes hl (Ev.yes c (Ev.bind (money_Digits_ev cs (wB ws 2) hcl hcs) (Ev.no d (Ev.is rfl))))) (by decide)
  · rw [if_neg c]
    exact EvP.no (Ev.yes hl (Ev.no c (Ev.is rfl))) (by decide)
theorem days_Parse_at (s:ByteArray) (h:s.size≤60):Ev (fun k=>days_Parse.f k s) (dparse s.data.toList):=days_Parse_ev s.data.toList (by rw [← size_eq'];omega)
theorem stmt_entry_ev (p:PSt) (ws:List S93) (hl:4 < ws.length) (hw:WS ws) (hp:p.ls.length≤1000000):EvP (fun k=>stmt_parser_entry.f k p ws) (entryS p ws):=by
  have s1:=wB_size hw 1;have s2:=wB_size hw 2;unfold stmt_parser_entry.f entryS;by_cases c:(dparse (wB ws 1).data.toList).2=0
  · rw [if_pos c]
    exact EvP.of (Ev.yes ⟨hl,hp⟩ (Ev.bind (days_Parse_at (wB ws 1) s1) (Ev.yes c (Ev.bind (money_Parse_at (wB ws 2) p.dg (by omega)) (Ev.is rfl)))))
  · rw [if_neg c]
    exact EvP.of (Ev.yes ⟨hl,hp⟩ (Ev.bind (days_Parse_at (wB ws 1) s1) (Ev.no c (Ev.is rfl))))
theorem stmt_line_ev (cs:List S77) (p:PSt) (ws:List S93) (h0:0 < ws.length) (h4:ws.length≤400) (hw:WS ws) (hp:p.ls.length≤1000000) (hcl:cs.length≤60) (hcs:∀ x∈cs,x.f0.size≤140737488351232):EvP (fun k=>stmt_parser_line.f k cs p ws) (moveS cs p ws):=by
  have s1:=wB_size hw 1;unfold stmt_parser_line.f moveS;refine EvP.both (b:=shapedS ws kwS [1,1,2]) 0 (stmt_shaped_ev ws kwS [1,1,2] h0 h4 (by decide)) (fun _ e=>stmt_head_ev cs p ws (by have:=shapedS_len e;have:([1,1,2]:List Int).length=3:=rfl;omega) hw hcl hcs) ?_;refine EvP.both (b:=shapedS ws kwO [2]) 1 (stmt_shaped_ev ws kwO [2] h0 h4 (by decide)) (fun _ e=>EvP.of (Ev.yes (by have:=shapedS_len e;have:([2]:List Int).length=1:=rfl;omega) (Ev.bind (money_Parse_at (wB ws 1) p.dg (by omega)) (Ev.is rfl)))) ?_;refine EvP.both (b:=shapedS ws kwL [2,2,3,3]) 2 (stmt_shaped_ev ws kwL [2,2,3,3] h0 h4 (by decide)) (fun _ e=>stmt_entry_ev p ws (by have:=shapedS_len e;have:([2,2,3,3]:List Int).length=4:=rfl;omega) hw hp) ?_;exact EvP.both (b:=shapedS ws kwC [2]) 2 (stmt_shaped_ev ws kwC [2] h0 h4 (by decide)) (fun _ e=>EvP.of (Ev.yes (by have:=shapedS_len e;have:([2]:List Int).length=1:=rfl;omega) (Ev.bind (money_Parse_at (wB ws 1) p.dg (by omega)) (Ev.is rfl)))) (EvP.of (Ev.is rfl))
theorem stmt_Parse_l0 (cs:List S77) (hcl:cs.length≤60) (hcs:∀ x∈cs,x.f0.size≤140737488351232) (L:List (List UInt8)) (hL:L.length≤1000000) (R:List (List UInt8)) :
    ∀ (i:Nat) (p:PSt),L.drop i=R→i≤L.length→Inv cs p i→Ev (fun k=>stmt_Parse.l0 k cs p (L.map oL) i) (endS (goS cs p R i)):=by
  induction R with
  | nil =>
    intro i p h hi hp;have:=List.drop_eq_nil_iff.mp h;have e:i=L.length:=by omega
    refine Ev.step (fun k=>by rw [stmt_Parse.l0]) (Ev.no (by rw [List.length_map];omega) ?_);rw [goS,endS,if_pos rfl,finS,List.length_map,e];refine Ev.both (fun a=>?_) (fun a=>Ev.is (by rw [if_neg a]));rw [if_pos a];have ha:=hp.acc;have hc:=hp.cur;refine Ev.bind (stmt_Check_ev p.acc p.cur p.no p.op p.cl p.ls (by omega) (by omega) hp.short) (Ev.both (fun b=>Ev.is ?_) (fun b=>Ev.is ?_))
    · show _=if chkS p=0 then _ else _
      rw [if_pos (show chkS p=0 from b)]
    · show _=if chkS p=0 then _ else _
      rw [if_neg (show ¬ chkS p=0 from b)];rfl
  | cons x r ih =>
    intro i p h hi hp;obtain ⟨h1,h2,h3⟩:=rdOf_map h;refine Ev.step (fun k=>by rw [stmt_Parse.l0]) (Ev.yes (by rw [List.length_map];omega) ?_)
    have hs:EvP (fun k=>stmt_Parse.step k cs p (cutW x)) (stepS cs p x):=by
      have:=hp.len;unfold stmt_Parse.step stepS;by_cases a:(cutW x).2.2=0
      · rw [if_pos a]
        by_cases b:0 < (cutW x).1.length
        · rw [if_pos b]
          obtain ⟨q,q1,q2⟩:=stmt_line_ev cs p (cutW x).1 b (cutW_size x).2 (cutW_size x).1 (by omega) hcl hcs;exact ⟨q,Ev.yes a (Ev.yes b q1),q2⟩
        · rw [if_neg b];exact EvP.of (Ev.yes a (Ev.no b (Ev.is rfl)))
      · rw [if_neg a];exact EvP.of (Ev.no a (Ev.is rfl))
    obtain ⟨q,q1,q2⟩:=hs;rw [goS];refine Ev.bind (by rw [h2];exact words_Cut_ev x) (Ev.bind q1 (Ev.both (fun e=>?_) (fun e=>Ev.is ?_)))
    · have e':(stepS cs p x).2=0:=e
      rw [if_pos e',q2 e'];exact ih (i+1) _ h3 (by omega) (stepS_inv hp e')
    · have e':¬ (stepS cs p x).2=0:=e
      rw [if_neg e',endS,if_neg e']
theorem stmt_Parse_ev (t:List UInt8) (cs:List S77) (hcl:cs.length≤60) (hcs:∀ x∈cs,x.f0.size≤140737488351232) (ht:t.length≤900000):Ev (fun k=>stmt_Parse.f k (oL t) cs) (parseS t cs):=by
  have hd:=divL_len t;unfold stmt_Parse.f parseS;refine Ev.bind (money_Right_ev cs hcl hcs) (Ev.both (fun e=>?_) (fun e=>Ev.is (by rw [if_neg e])));rw [if_pos e];refine Ev.bind (stmt_divide_ev t ht) (Ev.yes (by rw [List.length_map];omega) ?_);exact stmt_Parse_l0 cs hcl hcs (divL t) (by omega) (divL t) 0 pst0 rfl (Nat.zero_le _) (Inv.zero cs)
theorem parse_cases (t:List UInt8) (cs:List S77):(∃ n e,parseS t cs=noS n e)∨∃ p,Inv cs p (0+(divL t).length)∧parseS t cs=(p.acc,p.cur,p.no,p.op,p.cl,p.ls,0,0):=by
  unfold parseS;by_cases r:rtL cs=true
  · rw [if_pos r]
    have hi:=goS_inv (cs:=cs) (divL t) (Inv.zero cs);generalize goS cs pst0 (divL t) 0=q at hi ⊢;unfold endS;by_cases e:q.2.1=0
    · rw [if_pos e]
      unfold finS;by_cases f:q.1.part=3
      · rw [if_pos f]
        by_cases g:chkS q.1=0
        · rw [if_pos g];exact Or.inr ⟨q.1,hi,rfl⟩
        · rw [if_neg g];exact Or.inl ⟨_,_,rfl⟩
      · rw [if_neg f];exact Or.inl ⟨_,_,rfl⟩
    · rw [if_neg e];exact Or.inl ⟨_,_,rfl⟩
  · rw [if_neg r];exact Or.inl ⟨_,_,rfl⟩
theorem parseS_len {cs:List S77} {t:List UInt8} (ht:t.length≤900000):(parseS t cs).2.2.2.2.2.1.length≤1000000:=by
  rcases parse_cases t cs with ⟨n,e,h⟩ | ⟨p,hp,h⟩
  · rw [h];exact Nat.zero_le _
  · rw [h]
    have:=hp.len;have:=divL_len t;show p.ls.length≤_;omega
end Go.Proofs.YtmlcdpfcafmmcaaDoor.A
namespace Go.Proofs.YtmlcdpfcafmmcaaDoor.WW
open Go.RowKit
namespace Kd
section
variable {α β:Type} {d:Kd α} {d':Kd β} {e e':Nat} {w w1 W:World} {base b b':Nat} {ok ok' okv oku:Nat→Prop} {v u:Value} {xs:List α} {ys:List β}
theorem R_lt (h:d.R e w base ok v xs):∀ k,v.ownBlock=some k→k < w.heap.size:=by
  obtain ⟨inner,ho⟩:=R_own h;exact own_lt ho
theorem R_base (h:d.R e w base ok v xs):∀ k,v.ownBlock=some k→base≤k:=by
  obtain ⟨inner,ho⟩:=R_own h;exact own_base ho
end
end Kd
end Go.Proofs.YtmlcdpfcafmmcaaDoor.WW
namespace Go.Proofs.YtmlcdpfcafmmcaaDoor.WW
open Go.RowKit
namespace Kd
section
variable {α:Type} {d:Kd α} {e e':Nat} {w w1 W:World} {base:Nat} {ok:Nat→Prop} {u v:Value} {xs:List α}
theorem R_elder' (hu:d.R e W base ok u xs) (hbase:∀ k,v.ownBlock=some k→W.heap.size≤k) (hb:Below W.heap.size W w1):d.R e w1 base (fun k=>ok k∧some k≠v.ownBlock) u xs :=
  R_mono (R_move (R_bound hu) (fun k hk=>hb.block k hk.2.2.1)) (fun k hk=>⟨hk.1,fun he=>by have:=hbase k he.symm;have:=hk.2.2.1;omega⟩)
theorem R_new' (h:d.R e w1 W.heap.size ok v xs) (hlt:∀ k,u.ownBlock=some k→k < W.heap.size):d.R e w1 W.heap.size (fun k=>ok k∧some k≠u.ownBlock) v xs :=
  R_mono (R_bound h) (fun k hk=>⟨hk.1,fun he=>by have:=hlt k he.symm;have:=hk.2.1;omega⟩)
end
end Kd
end Go.Proofs.YtmlcdpfcafmmcaaDoor.WW
