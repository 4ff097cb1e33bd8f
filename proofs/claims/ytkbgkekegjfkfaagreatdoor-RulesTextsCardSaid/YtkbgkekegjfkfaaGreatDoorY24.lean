-- By pack.py, a program of this session's.
import Derived.Test.YtkbgkekegjfkfaaGreatDoorY20
import Derived.Test.YtkbgkekegjfkfaaGreatDoorY21
import Derived.Test.YtkbgkekegjfkfaaGreatDoorY22
set_option linter.unusedVariables false
set_option linter.unusedSimpArgs false
namespace Go.Proofs.YtkbgkekegjfkfaaGreatDoor.A
open Go.RowKit B WW WL WM
theorem letter_eq (c:UInt8):words_letter.f (c.toNat:Int)=some (isLet c):=by
  have h:∀ n:Nat,n < 256→words_letter.f (n:Int)=some ((decide (97≤n) && decide (n≤122)) || ((decide (65≤n) && decide (n≤90)) || decide (n=95))):=by decide +kernel
  exact h c.toNat c.toNat_lt
theorem digit_eq (c:UInt8):words_digit.f (c.toNat:Int)=some (isDig c):=by
  have h:∀ n:Nat,n < 256→words_digit.f (n:Int)=some (decide (48≤n∧n≤57)):=by decide +kernel
  rw [h c.toNat c.toNat_lt];congr 1
  rw [Bool.eq_iff_iff,decide_eq_true_iff,isDig_range]
theorem digitAt_eq (L:List UInt8) (i:Nat):words_digitAt.f (oL L) (i:Int)=some (headDig (L.drop i)):=by
  unfold words_digitAt.f;rw [oL_size]
  cases h:L.drop i with
  | nil=>rw [if_neg (by have:=drop_end h;omega)];rfl
  | cons c r =>
    obtain ⟨h1,h2,h3⟩:=drop_at h;rw [if_pos (by omega),if_pos (by omega),bt_oL,h2,digit_eq];rfl
theorem nameEnd_l0 (L:List UInt8) (hL:L.length≤1000000) (R:List UInt8):∀ i:Nat,L.drop i=R→i≤L.length→Ev (fun k=>words_nameEnd.l0 k (oL L) (i:Int)) ((i+nameN R:Nat):Int):=by
  induction R with
  | nil =>
    intro i h hi;have:=drop_end h;refine Ev.step (fun k=>by rw [words_nameEnd.l0]) ?_;exact Ev.no (by rw [oL_size];omega) (Ev.is rfl)
  | cons c r ih =>
    intro i h hi;obtain ⟨h1,h2,h3⟩:=drop_at h;refine Ev.step (fun k=>by rw [words_nameEnd.l0]) (Ev.yes (by rw [oL_size];omega) (Ev.yes (by omega) ?_));rw [bt_oL,h2,letter_eq,digit_eq,w_next i (by omega)];simp only [Option.bind_some]
    have:=ih (i+1) h3 (by omega);have e:isLet c=true∨isDig c=true→i+nameN (c :: r)=i+1+nameN r:=fun a=>by rw [nameN,if_pos a];omega
    refine Ev.both (fun a=>by rw [e (.inl a)];exact this) (fun a=>Ev.both (fun b=>by rw [e (.inr b)];exact this) (fun b=>Ev.is ?_));rw [nameN,if_neg (fun h=>h.elim a b)];rfl
theorem numberEnd_l0 (L:List UInt8) (hL:L.length≤1000000) (R:List UInt8):∀ i:Nat,L.drop i=R→i≤L.length→Ev (fun k=>words_numberEnd.l0 k (oL L) (i:Int)) ((i+numN R:Nat):Int):=by
  induction R with
  | nil =>
    intro i h hi;have:=drop_end h;refine Ev.step (fun k=>by rw [words_numberEnd.l0]) ?_;exact Ev.no (by rw [oL_size];omega) (Ev.is rfl)
  | cons c r ih =>
    intro i h hi;obtain ⟨h1,h2,h3⟩:=drop_at h;refine Ev.step (fun k=>by rw [words_numberEnd.l0]) (Ev.yes (by rw [oL_size];omega) ?_);rw [bt_oL,h2,letter_eq,digit_eq,show (i:Int)+1=((i+1:Nat):Int) by omega,digitAt_eq,h3];simp only [Option.bind_some]
    have:=ih (i+1) h3 (by omega);have hp:((c.toNat:Int)=46∨(c.toNat:Int)=47∨(c.toNat:Int)=45) ↔ isPt c=true:=by unfold isPt;simp only [Bool.or_eq_true,decide_eq_true_iff];omega
    refine Ev.both (fun p=>Ev.both (fun a=>?_) (fun a=>Ev.is ?_)) (fun p=>Ev.both (fun a=>?_) (fun a=>Ev.both (fun b=>?_) (fun b=>Ev.is ?_)))
    · rw [numN,if_pos (hp.mp p),if_pos a,show i+(numN r+1)=i+1+numN r by omega];exact this
    · rw [numN,if_pos (hp.mp p),if_neg a];rfl
    · rw [numN,if_neg (fun h=>p (hp.mpr h)),if_pos (.inl a),show i+(numN r+1)=i+1+numN r by omega];exact this
    · rw [numN,if_neg (fun h=>p (hp.mpr h)),if_pos (.inr b),show i+(numN r+1)=i+1+numN r by omega];exact this
    · rw [numN,if_neg (fun h=>p (hp.mpr h)),if_neg (fun h=>h.elim a b)];rfl
theorem numberEnd_ev (L:List UInt8) (hL:L.length≤1000000) (i:Nat) (c:UInt8) (r:List UInt8) (h:L.drop i=c :: r):Ev (fun k=>words_numberEnd.f k (oL L) (i:Int)) ((i+(numN r+1):Nat):Int):=by
  obtain ⟨h1,h2,h3⟩:=drop_at h;unfold words_numberEnd.f;refine Ev.yes ⟨by omega,by omega,by rw [oL_size];omega⟩ ?_;have:=numberEnd_l0 L hL r (i+1) h3 (by omega);rw [show i+(numN r+1)=i+1+numN r by omega,show (i:Int)+1=((i+1:Nat):Int) by omega];exact this
theorem itoa_nat (u:Nat):Lib.itoa (u:Int)=Lib.decDigits u:=by rw [itoa_pos (by omega)];rfl
theorem dval_bound (l:List UInt8) (h:l.all isDig=true):dval l < 10 ^ l.length:=by
  have key:∀ (r:List UInt8),r.all isDig=true→dval r.reverse < 10 ^ r.length:=by
    intro r;induction r with
    | nil=>intro _;decide
    | cons c r ih =>
      intro h;rw [List.all_cons,Bool.and_eq_true] at h;have:=ih h.2;have hc:=(isDig_range c).mp h.1;rw [List.reverse_cons,dval_snoc,List.length_cons,Nat.pow_succ];omega
  have:=key l.reverse (by rw [List.all_reverse];exact h);rw [List.reverse_reverse,List.length_reverse] at this;exact this
theorem days_number_l0 (L:List UInt8) (hL:L.length≤10) (R:List UInt8):∀ P:List UInt8,P++R=L→P.all isDig=true →
    Ev (fun k=>days_number.l0 k (oL L) (dval P:Int) (L.length:Int) (P.length:Int)) (if R.all isDig=true then ((dval L:Int),true) else (0,false)):=by
  induction R with
  | nil =>
    intro P h hP;rw [List.append_nil] at h;subst h;refine Ev.step (fun k=>by rw [days_number.l0]) ?_;exact Ev.no (by omega) (Ev.is rfl)
  | cons c r ih =>
    intro P h hP;have hl:P.length+(r.length+1)=L.length:=by rw [← h,List.length_append,List.length_cons]
    have hg:L.getD P.length 0=c:=by rw [← h,List.getD_eq_getElem?_getD,List.getElem?_append_right (Nat.le_refl _),Nat.sub_self];rfl
    refine Ev.step (fun k=>by rw [days_number.l0]) (Ev.yes (by omega) (Ev.yes (by omega) (Ev.yes (by rw [oL_size];omega) ?_)));rw [bt_oL,hg,w_next P.length (by omega),List.all_cons];by_cases d:isDig c=true
    · have dr:=(isDig_range c).mp d
      refine Ev.no (by omega) (Ev.no (by omega) ?_);rw [dig_byte d,d,Bool.true_and];have hb:=dval_bound P hP;have:=pow_ten_le (show P.length≤10 by omega)
      have e:wrap64 (wrap64 (10 * (dval P:Int))+((c.toNat - 48:Nat):Int))=(dval (P++[c]):Int):=by
        rw [dval_snoc,w_in (x:=10 * (dval P:Int)) (by omega),w_in (by omega)];omega
      rw [e];have key:=ih (P++[c]) (by rw [List.append_assoc];exact h) (by rw [List.all_append,hP,List.all_cons,d];rfl);rw [List.length_append,List.length_singleton] at key;exact key
    · have dr:=mt (isDig_range c).mpr d
      rw [Bool.eq_false_iff.mpr d,Bool.false_and,if_neg (by decide)];exact Ev.both (fun _=>Ev.is rfl) (fun h1=>Ev.yes (by omega) (Ev.is rfl))
theorem days_number_ev (L:List UInt8) (hL:L.length≤10):Ev (fun k=>days_number.f k (oL L)) (if L.all isDig=true then ((dval L:Int),true) else (0,false)):=by
  unfold days_number.f;rw [oL_size];exact days_number_l0 L hL L [] rfl rfl
theorem days_Parse_ev (l:List UInt8) (hl:l.length≤140737488351232):Ev (fun k=>days_Parse.f k (oL l)) (dparse l):=by
  unfold days_Parse.f;rw [oL_size];have b4:=bt45 l 4;have b7:=bt45 l 7;have no:¬ DP l→Ev (fun _=>some ((0:Int),(5:Int))) (dparse l):=fun h=>Ev.is (dparse_no h)
  refine Ev.yes hl (Ev.both (fun h=>?_) (fun h=>no (fun x=>h x.1)));refine Ev.both (fun h4=>?_) (fun h4=>no (fun x=>h4 (b4.mpr x.2.1)));refine Ev.both (fun h7=>?_) (fun h7=>no (fun x=>h7 (b7.mpr x.2.2.1)));rw [show (fun k=>days_Parse.rem k (oL l) 3 0 0 0)=(fun k=>(days_number.f k ((oL l).extract 0 4)).bind fun c=>if c.2=true then days_Parse.rem k (oL l) 2 c.1 0 0 else some (0,5)) from funext fun k=>by rw [days_Parse.rem]];rw [oL_extract,List.drop_zero];refine Ev.bind (days_number_ev (l.take 4) (by rw [List.length_take];omega)) ?_;by_cases a1:(l.take 4).all isDig=true
  · rw [if_pos a1]
    refine Ev.yes rfl ?_;rw [show (fun k=>days_Parse.rem k (oL l) 2 (dval (l.take 4)) 0 0)=(fun k=>(days_number.f k ((oL l).extract 5 7)).bind fun c=>if c.2=true then days_Parse.rem k (oL l) 1 (dval (l.take 4)) c.1 0 else some (0,5)) from funext fun k=>by rw [days_Parse.rem]];rw [oL_extract];refine Ev.bind (days_number_ev ((l.take 7).drop 5) (by rw [List.length_drop,List.length_take];omega)) ?_;by_cases a2:((l.take 7).drop 5).all isDig=true
    · rw [if_pos a2]
      refine Ev.yes rfl ?_;rw [show (fun k=>days_Parse.rem k (oL l) 1 (dval (l.take 4)) (dval ((l.take 7).drop 5)) 0)=(fun k=>(days_number.f k ((oL l).extract 8 10)).bind fun c=>if c.2=true then days_Of.f k (dval (l.take 4)) (dval ((l.take 7).drop 5)) c.1 else some (0,5)) from funext fun k=>by rw [days_Parse.rem]];rw [oL_extract,show l.take 10=l by rw [← h,List.take_length]];refine Ev.bind (days_number_ev (l.drop 8) (by rw [List.length_drop];omega)) ?_;by_cases a3:(l.drop 8).all isDig=true
      · rw [if_pos a3,show dparse l=ofS (dval (l.take 4)) (dval ((l.take 7).drop 5)) (dval (l.drop 8)) from if_pos ⟨h,b4.mp h4,b7.mp h7,a1,a2,a3⟩]
        exact Ev.yes rfl (days_Of_any _ _ _)
      · rw [if_neg a3]
        exact Ev.no (by decide) (no (fun x=>a3 x.2.2.2.2.2))
    · rw [if_neg a2]
      exact Ev.no (by decide) (no (fun x=>a2 x.2.2.2.2.1))
  · rw [if_neg a1]
    exact Ev.no (by decide) (no (fun x=>a1 x.2.2.2.1))
theorem ref04_two_ev (u:Nat) (h:u < 100):Ev (fun k=>rf04_two.f k (u:Int)) (oL (digs 2 u)):=by
  unfold rf04_two.f;rw [show Int.tdiv (u:Int) 10=((u / 10:Nat):Int) from rfl,show Int.tmod (u:Int) 10=((u % 10:Nat):Int) from rfl,w_in (x:=((u / 10:Nat):Int)) (by omega)];have a:=ref01_Text ((u / 10:Nat):Int) (by unfold I64;omega);have b:=ref01_Text ((u % 10:Nat):Int) (by unfold I64;omega);rw [itoa_nat,decDigits_small (by omega)] at a b;refine Ev.bind a (Ev.bind b (Ev.yes (by show 1+1≤_;omega) (Ev.is ?_)));show oL [UInt8.ofNat (48+u / 10)]++oL [UInt8.ofNat (48+u % 10)]=oL (digs 2 u)
  rw [oL_append];show _=oL (([]++[UInt8.ofNat (48+u / 10 % 10)])++[UInt8.ofNat (48+u % 10)])
  rw [Nat.mod_eq_of_lt (show u / 10 < 10 by omega)];rfl
theorem isPrn_iff (c:UInt8):isPrn c=true ↔ 32≤c.toNat∧c.toNat≤126:=by unfold isPrn;simp only [Bool.and_eq_true,decide_eq_true_iff]
theorem r6Plain_l0 (L:List UInt8) (hL:L.length≤1000000) (R:List UInt8):∀ P:List UInt8,P++R=L→P.all isPrn=true→Ev (fun k=>rf06_Plain.l0 k (oL L) (P.length:Int)) (plainW L):=by
  induction R with
  | nil =>
    intro P h hP;rw [List.append_nil] at h;subst h;refine Ev.step (fun k=>by rw [rf06_Plain.l0]) (Ev.no (by rw [oL_size];omega) (Ev.is ?_));rw [oL_size];unfold plainW;rw [hP,Bool.and_true,Bool.eq_iff_iff,decide_eq_true_iff,decide_eq_true_iff];omega
  | cons c r ih =>
    intro P h hP;have hl:P.length+(r.length+1)=L.length:=by rw [← h,List.length_append,List.length_cons]
    have hg:L.getD P.length 0=c:=by rw [← h,List.getD_eq_getElem?_getD,List.getElem?_append_right (Nat.le_refl _),Nat.sub_self];rfl
    refine Ev.step (fun k=>by rw [rf06_Plain.l0]) (Ev.yes (by rw [oL_size];omega) (Ev.yes (by omega) ?_));rw [bt_oL,hg,w_next P.length (by omega)]
    have bad:¬ isPrn c=true→plainW L=false:=fun hc=>by
      unfold plainW;rw [← h,List.all_append,List.all_cons,Bool.eq_false_iff.mpr hc];simp
    refine Ev.both (fun a=>Ev.is (bad (by rw [isPrn_iff];omega)).symm) (fun a=>Ev.both (fun b=>Ev.is (bad (by rw [isPrn_iff];omega)).symm) (fun b=>?_));have:=ih (P++[c]) (by rw [List.append_assoc];exact h) (by rw [List.all_append,hP,List.all_cons,show isPrn c=true from (isPrn_iff c).mpr (by omega)];rfl);rw [List.length_append,List.length_singleton] at this;exact this
theorem ref06_Plain_ev (L:List UInt8) (hL:L.length≤1000000):Ev (fun k=>rf06_Plain.f k (oL L)) (plainW L):=by
  unfold rf06_Plain.f;exact r6Plain_l0 L hL L [] rfl rfl
theorem ref06_Plain_at (s:ByteArray) (hs:s.size≤1000000):Ev (fun k=>rf06_Plain.f k s) (plainW s.data.toList):=ref06_Plain_ev s.data.toList (by rw [← size_eq'];exact hs)
def rangB (c:S48):Bool:=decide ((c.f0=1→-1000000000000≤c.f3∧c.f3≤1000000000000)∧(c.f0=4→0≤c.f3∧c.f3≤109572)∧(¬ (c.f0=1∨c.f0=4)→c.f3=0))
def formB (c:S48):Bool:=if c.f0=1∨c.f0=4 then c.f2.toList == [] else plainW c.f2.data.toList
def condR (c:S48):Int:=if rangB c=true then (if formB c=true then 0 else 5) else 3
def condS (c:S48):Int:=if suitB c.f0 c.f1=true then condR c else 10
theorem rd50_at {l:List S50} {i:Nat} {x:S50} {r:List S50} (h:l.drop i=x :: r):i < l.length∧rd_T50 l (i:Int)=x∧l.drop (i+1)=r:=by
  have hlt:i < l.length:=by
    rcases Nat.lt_or_ge i l.length with h1 | h1
    · exact h1
    · rw [List.drop_eq_nil_of_le h1] at h;cases h
  rw [List.drop_eq_getElem_cons hlt] at h;obtain ⟨h1,h2⟩:=List.cons.inj h;refine ⟨hlt,?_,h2⟩;unfold rd_T50;rw [Int.toNat_natCast,List.getD_eq_getElem?_getD,List.getElem?_eq_getElem hlt,← h1];rfl
theorem condS_ok {c:S48} (h:condS c=0):suitB c.f0 c.f1=true∧rangB c=true∧formB c=true:=by
  unfold condS condR at h;split at h
  · split at h
    · split at h
      · exact ⟨by assumption,by assumption,by assumption⟩
      · exact absurd h (by decide)
    · exact absurd h (by decide)
  · exact absurd h (by decide)
def tagsW:List S50→List (List UInt8)
  | []=>[]
  | t :: r=>[116,97,103] :: t.f0.data.toList :: [61] :: t.f1.data.toList :: tagsW r
theorem tagsW_len {tg:List S50} (h:∀ x∈tg,x.f0.size+x.f1.size≤400):(tailW (tagsW tg)).length≤410 * tg.length:=by
  induction tg with
  | nil=>exact Nat.zero_le _
  | cons t r ih =>
    have h1:=h t List.mem_cons_self;have h2:=ih (fun x hx=>h x (List.mem_cons_of_mem _ hx));rw [size_eq',size_eq'] at h1;rw [tagsW,tailW_cons,tailW_cons,tailW_cons,tailW_cons];simp only [List.length_cons,List.length_append,List.length_nil]
    omega
theorem r48_Text_l1 (nm:ByteArray) (cs:List S48) (acc par:ByteArray) (tg:List S50) (hz:∀ x∈tg,x.f0.size+x.f1.size≤400) (hl:tg.length≤1000) (R:List S50):∀ (i:Nat) (P:List UInt8),tg.drop i=R→P.length≤100000+1000 * i→Ev (fun k=>rf48_Text.l1 k (oL P) (i:Int) nm cs acc par tg) (endS (P++tailW (tagsW R))):=by
  induction R with
  | nil =>
    intro i P h hP;have:=List.drop_eq_nil_iff.mp h;refine Ev.step (fun k=>by rw [rf48_Text.l1]) (Ev.no (by omega) ?_);rw [oL_size,tagsW,tailW_nil,List.append_nil];unfold endS;exact Ev.both (fun a=>Ev.is (by rw [if_pos (by omega)])) (fun a=>Ev.is (by rw [if_neg (by omega)]))
  | cons t r ih =>
    intro i P h hP;obtain ⟨hi,hx,hr⟩:=rd50_at h;have hm:=hz t (List.mem_of_mem_drop (i:=i) (by rw [h];exact List.mem_cons_self));have s0:=size_eq' t.f0;have s1:=size_eq' t.f1;refine Ev.step (fun k=>by rw [rf48_Text.l1]) (Ev.yes (by omega) ?_);rw [hx,w_next i (by omega)];simp only [ap_tag,ap_eq,ap_ba,oL_size]
    have:=ih (i+1) (P++[32,116,97,103,32]++t.f0.data.toList++[32,61,32]++t.f1.data.toList) hr (by simp only [List.length_append,List.length_cons,List.length_nil];omega);rw [show P++[32,116,97,103,32]++t.f0.data.toList++[32,61,32]++t.f1.data.toList++tailW (tagsW r)=P++tailW (tagsW (t :: r)) by rw [tagsW,tailW_cons,tailW_cons,tailW_cons,tailW_cons];simp] at this;exact Ev.yes (by omega) (Ev.yes (by omega) (Ev.yes (by simp only [List.length_append,List.length_cons,List.length_nil];omega) (Ev.yes (by simp only [List.length_append,List.length_cons,List.length_nil];omega) (Ev.yes (by simp only [List.length_append,List.length_cons,List.length_nil];omega) this))))
theorem Brk.nil:Brk []:=Or.inl rfl
theorem headDig_app {w:List UInt8} (r:List UInt8) (hw:headDig w=true):headDig (w++r)=true:=by
  cases w with
  | nil=>cases hw
  | cons c w=>exact hw
theorem headDig_all {w:List UInt8} (hw:w.all isDig=true) (hn:w≠[]):headDig w=true:=by
  cases w with
  | nil=>exact absurd rfl hn
  | cons c w=>rw [List.all_cons,Bool.and_eq_true] at hw;exact hw.1
theorem num_app (w:List UInt8):numN w=w.length→∀ r,Brk r→numN (w++r)=w.length:=by
  induction w with
  | nil=>intro _ r h;exact num_brk h
  | cons c w ih =>
    intro h r hr;show numN (c :: (w++r))=_
    rw [numN] at h ⊢;rw [List.length_cons] at h ⊢;by_cases p:isPt c=true
    · rw [if_pos p] at h ⊢
      by_cases d:headDig w=true
      · rw [if_pos d] at h
        rw [if_pos (headDig_app r d),ih (by omega) r hr]
      · rw [if_neg d] at h;omega
    · rw [if_neg p] at h ⊢
      by_cases d:isLet c=true∨isDig c=true
      · rw [if_pos d] at h ⊢
        rw [ih (by omega) r hr]
      · rw [if_neg d] at h;omega
theorem IsW.num {c:UInt8} {w:List UInt8} (hc:isDig c=true∨(c.toNat=45∧headDig w=true)) (hw:numN w=w.length) (hl:w.length≤59):IsW (c :: w) 2 (c :: w):=by
  have hx:c.toNat≠35∧c.toNat≠32:=by
    rcases hc with hc | hc
    · have:=(isDig_range c).mp hc;omega
    · omega
  have hnl:¬ isLet c=true:=by
    intro h;unfold isLet at h;simp only [Bool.or_eq_true,Bool.and_eq_true,decide_eq_true_iff] at h
    rcases hc with hc | hc
    · have:=(isDig_range c).mp hc;omega
    · omega
  refine ⟨by simp,fun a r h=>(by obtain ⟨rfl,rfl⟩:=List.cons.inj h;exact hx),fun r i hr=>⟨0,?_⟩⟩;show wordS (c :: (w++r)) i=_
  have hc':isDig c=true∨(c.toNat=45∧headDig (w++r)=true):=hc.imp id (fun h=>⟨h.1,headDig_app r h.2⟩);rw [wordS_cons,if_neg hnl,if_pos hc',num_app w hw r hr,gS,if_neg (by omega),if_neg (by omega)];rw [show (c :: (w++r)).take (w.length+1)=c :: w from by rw [List.take_succ_cons,List.take_left]];rfl
theorem quoS_esc (a:Nat) (t:List UInt8):∀ (r:List UInt8) (i:Nat) (acc:List UInt8),t.all isPrn=true→quoS a (escL t++34 :: r) i acc=(acc++t,i+(escL t).length+1,0,0):=by
  induction t with
  | nil =>
    intro r i acc h;show quoS a (34 :: r) i acc=_
    rw [quoS.eq_def];dsimp only;rw [if_pos (by decide),List.append_nil];rfl
  | cons c t ih =>
    intro r i acc h;rw [List.all_cons,Bool.and_eq_true] at h;rw [escL];by_cases q:c.toNat=34∨c.toNat=92
    · rw [if_pos q]
      show quoS a (92 :: c :: (escL t++34 :: r)) i acc=_
      rw [quoS.eq_def];dsimp only;rw [if_neg (by decide),if_pos (by decide)];show (if c.toNat=34∨c.toNat=92 then quoS a (escL t++34 :: r) (i+2) (acc++[c]) else ([],0,i,5))=_
      rw [if_pos q,ih r (i+2) (acc++[c]) h.2,List.append_assoc];simp only [List.length_cons]
      rw [show i+2+(escL t).length+1=i+((escL t).length+1+1)+1 from by omega];rfl
    · rw [if_neg q]
      show quoS a (c :: (escL t++34 :: r)) i acc=_
      rw [quoS.eq_def];dsimp only;rw [if_neg (by omega),if_neg (by omega),if_pos (show isPrint c=true from h.1),ih r (i+1) (acc++[c]) h.2,List.append_assoc];simp only [List.length_cons]
      rw [show i+1+(escL t).length+1=i+((escL t).length+1)+1 from by omega];rfl
theorem IsW.quo {t:List UInt8} (h:plainW t=true):IsW (quoL t) 3 t:=by
  unfold plainW at h;rw [Bool.and_eq_true,decide_eq_true_iff] at h;refine ⟨by unfold quoL;simp,fun a r e=>(by unfold quoL at e;obtain ⟨rfl,rfl⟩:=List.cons.inj e;decide),fun r i hr=>⟨0,?_⟩⟩;show wordS (34 :: (escL t++[34]++r)) i=_
  rw [wordS_cons,if_neg (by decide),if_neg (fun x=>x.elim (fun y=>absurd y (by decide)) (fun y=>absurd y.1 (by decide))),if_pos (by decide),List.append_assoc];show qS i (quoS i (escL t++34 :: r) (i+1) [])=_
  rw [quoS_esc i t r (i+1) [] h.2,qS,if_pos rfl,if_neg (by show ¬ 60 < ([]++t).length;rw [List.nil_append];omega),if_neg (by show ¬ 60 < ([]++t).length;rw [List.nil_append];omega)];unfold quoL;simp only [List.length_cons,List.length_append,List.length_nil,List.nil_append]
  rw [show i+1+(escL t).length+1=i+((escL t).length+(0+1)+1) from by omega]
theorem IsW.numM {w:List UInt8} (hd:headDig w=true) (hw:numN w=w.length) (hl:w.length≤59):IsW (45 :: w) 2 (45 :: w):=IsW.num (Or.inr ⟨rfl,hd⟩) hw hl
end Go.Proofs.YtkbgkekegjfkfaaGreatDoor.A
namespace Go.Proofs.YtkbgkekegjfkfaaGreatDoor.A
open Go.RowKit B WW WL WM
attribute [local go_sem] max2_int min2_int max_two min_two max_three min_three max_four min_four
set_option maxHeartbeats 8000000
set_option maxRecDepth 100000
theorem tail_all (k bd g:Nat) (p:PR) (vC vT vW:Value) (x:S73) (code:Bool) (p':PR) (r:Int) (w:World) (hp:RP w bd g p vC vT vW) (hbd:bd≤w.heap.size) (h5:5≤p.st) (h:moveR k p x code=some (p',r)) :
    Calls Tryz.prog 115 #[.pointer (some ⟨g,0,none⟩),.agg #[.int .i64 x.f0,.string x.f1,.int .i64 x.f2],.bool code] w (StepPost bd g vC vT vW p' r w):=by
  unfold moveR at h;rw [if_neg (by omega),if_neg (by omega),if_neg (by omega),if_neg (by omega),if_neg (by omega)] at h;split at h
  · rename_i e
    split at h
    · rename_i c
      obtain ⟨rfl,rfl⟩:=Prod.mk.inj (Option.some.inj h);exact tail_5 bd g p vC vT vW x code w hp hbd e c.1 c.2
    · cases h
  split at h
  · rename_i e;obtain ⟨rfl,rfl⟩:=Prod.mk.inj (Option.some.inj h);exact tail_6 bd g p vC vT vW x code w hp hbd e
  split at h
  · rename_i e;obtain ⟨rfl,rfl⟩:=Prod.mk.inj (Option.some.inj h);exact tail_7 bd g p vC vT vW x code w hp hbd e
  split at h
  · rename_i e;obtain ⟨rfl,rfl⟩:=Prod.mk.inj (Option.some.inj h);exact tail_8 bd g p vC vT vW x code w hp hbd e
  split at h
  · rename_i e;obtain ⟨rfl,rfl⟩:=Prod.mk.inj (Option.some.inj h);exact tail_9 bd g p vC vT vW x code w hp hbd e
  split at h
  · rename_i e
    split at h
    · rename_i c;obtain ⟨rfl,rfl⟩:=Prod.mk.inj (Option.some.inj h);exact tail_10 bd g p vC vT vW x code w hp hbd e c
    · cases h
  split at h
  · rename_i e;obtain ⟨rfl,rfl⟩:=Prod.mk.inj (Option.some.inj h);exact tail_11 bd g p vC vT vW x code w hp hbd e
  split at h
  · rename_i e
    split at h
    · rename_i c;obtain ⟨rfl,rfl⟩:=Prod.mk.inj (Option.some.inj h);exact tail_12 bd g p vC vT vW x code w hp hbd e c
    · cases h
  split at h
  · rename_i e;obtain ⟨rfl,rfl⟩:=Prod.mk.inj (Option.some.inj h);exact tail_13 bd g p vC vT vW x code w hp hbd e
  · cases h
def rules_Parse.f (k:Nat) (s:ByteArray):Option RRes :=
  (words_Cut.f k s).bind fun c=>if c.2.2=0 then (parL k c.1 pr0).bind fun y =>
    if y.2.2=0 then (if y.1.st=8∨y.1.st=13 then (if 0 < y.1.cs.length∧y.1.ws.length≤1000000 then (valL k y.1.ws 0 y.1.cs).bind fun v =>
      if v.2.2=0 then (rules_Check.f k y.1.nm v.1 y.1.acc y.1.par y.1.tg).bind fun e=>if e=0 then some (y.1.nm,v.1,y.1.acc,y.1.par,y.1.tg,0,0) else some (noR 0 e) else some (noR v.2.1 v.2.2) else none)
    else some (noR (s.size:Int) 27)) else some (noR y.2.1 y.2.2) else some (noR c.2.1 c.2.2)
theorem lw48_example.calls  (r1:ByteArray) (r2:List (S48)) (r3:ByteArray) (r4:ByteArray) (r5:List (S50)) (w:World) (h:lw48_example.f =some (r1,r2,r3,r4,r5)) :
  Calls Tryz.prog 27 #[] w fun e w'=>∃ v1_ v4_:Value,e=.returned (.agg #[.string r1,v1_,.string r3,.string r4,v4_])∧Kd.R k48 48 w' w.heap.size (fun _=>True) v1_ r2∧Kd.R k50 50 w' w.heap.size (fun _=>True) v4_ r5∧Below w.heap.size w w':=by
 have hu25:=Tryz.underlying25;have hu48:=Tryz.underlying48;have hu50:=Tryz.underlying50;have HB:=sd (Below.refl w.heap.size w);have H:=h;clear h;unfold lw48_example.f at H;obtain ⟨y251,hy251⟩:∃ y_:List (S48),y_=(([(⟨1,3,(⟨#[]⟩:ByteArray),(-100)⟩:S48),(⟨3,4,(⟨#[114,101,110,116]⟩:ByteArray),0⟩:S48)]:List (S48))):=⟨_,rfl⟩
 replace H:(some ((⟨#[114,101,110,116]⟩:ByteArray),y251,(⟨#[53,49]⟩:ByteArray),(⟨#[112]⟩:ByteArray),(([(⟨(⟨#[100,101,112,116]⟩:ByteArray),(⟨#[120]⟩:ByteArray)⟩:S50)]:List (S50)))))=some (r1,r2,r3,r4,r5):=by first | (rw [hy251];with_reducible exact H) | (have H2_:=(Option.bind_some _ _).symm.trans H;rw [hy251];with_reducible exact H2_) | (have H2_:=(Option.bind_some _ _).symm.trans H;with_reducible exact H2_) | with_reducible exact H | (rw [hy251];exact H) | exact H
 have Ny251:=sd hy251;clear hy251;obtain ⟨y254,hy254⟩:∃ y_:List (S50),y_=(([(⟨(⟨#[100,101,112,116]⟩:ByteArray),(⟨#[120]⟩:ByteArray)⟩:S50)]:List (S50))):=⟨_,rfl⟩
 replace H:(some ((⟨#[114,101,110,116]⟩:ByteArray),y251,(⟨#[53,49]⟩:ByteArray),(⟨#[112]⟩:ByteArray),y254))=some (r1,r2,r3,r4,r5):=by first | (rw [hy254];with_reducible exact H) | (have H2_:=(Option.bind_some _ _).symm.trans H;rw [hy254];with_reducible exact H2_) | (have H2_:=(Option.bind_some _ _).symm.trans H;with_reducible exact H2_) | with_reducible exact H | (rw [hy254];exact H) | exact H
 have Ny254:=sd hy254;clear hy254;simp only [Option.some.injEq,Prod.mk.injEq] at H
 obtain ⟨rfl,rfl,rfl,rfl,rfl⟩:=H;go_enter Tryz.func27,Tryz.ntmps27
 go_wp2_with (first | ((with_reducible refine gate_dst (N:=0) rfl ?_);refine bxA 0 #[.string (⟨#[]⟩:ByteArray),.slice none 0 0,.string (⟨#[]⟩:ByteArray),.string (⟨#[]⟩:ByteArray),.slice none 0 0] 25 ?_;intro gb250 hg w1 hbox hb;have BK250:=sd (hbox);have GW250:=gem hg HB;have GE250:=GW250;replace HB:=hbm HB hb;clear hb hbox hg) | ((with_reducible refine gate_dst (N:=3) rfl ?_);refine Kd.R_lit k48 _ 48 ?hg (N:=3) ?hd (xs:=([(⟨1,3,(⟨#[]⟩:ByteArray),(-100)⟩:S48),(⟨3,4,(⟨#[114,101,110,116]⟩:ByteArray),0⟩:S48)]:List (S48))) (inner:=[.int .i64 1,.int .i64 3,.string (⟨#[]⟩:ByteArray),.int .i64 (-100),.int .i64 3,.int .i64 4,.string (⟨#[114,101,110,116]⟩:ByteArray),.int .i64 0]) (ok:=fun _=>True) (okp:=fun _=>True) ?hr ?hp (fun _ hk=>hk) trivial (Below.refl _ _) (Nat.le_refl _) (by simp) ?_;(case hd=>rfl);(case hg=>rfl);(case hr=>first | (go_simp;done) | (go_simp;rfl));(case hp=>exact (Reps.c4 (show Kd.M k48 _ _ _ (⟨1,3,(⟨#[]⟩:ByteArray),(-100)⟩:S48) [.int .i64 1,.int .i64 3,.string (⟨#[]⟩:ByteArray),.int .i64 (-100)] from (k48_mkM _ _ _ (⟨1,3,(⟨#[]⟩:ByteArray),(-100)⟩:S48) )) (Reps.c4 (show Kd.M k48 _ _ _ (⟨3,4,(⟨#[114,101,110,116]⟩:ByteArray),0⟩:S48) [.int .i64 3,.int .i64 4,.string (⟨#[114,101,110,116]⟩:ByteArray),.int .i64 0] from (k48_mkM _ _ _ (⟨3,4,(⟨#[114,101,110,116]⟩:ByteArray),0⟩:S48) )) (Reps.none _ _))));intro v252 w2 ho3 hb hg_ hnew_;clear hg_ hnew_;(first | rw [← Ny251.out] at ho3 | (simp only [Int.reduceToNat] at ho3;rw [← Ny251.out] at ho3));have HO253:=sd (Kd.R_lower ho3 (below_size zq29));replace BK250:=bkm BK250 hb;replace HB:=hbm HB hb;clear hb ho3) | ((with_reducible refine gate_dst (N:=5) rfl ?_);refine Kd.R_lit k50 _ 50 ?hg (N:=5) ?hd (xs:=([(⟨(⟨#[100,101,112,116]⟩:ByteArray),(⟨#[120]⟩:ByteArray)⟩:S50)]:List (S50))) (inner:=[.string (⟨#[100,101,112,116]⟩:ByteArray),.string (⟨#[120]⟩:ByteArray)]) (ok:=fun _=>True) (okp:=fun _=>True) ?hr ?hp (fun _ hk=>hk) trivial (Below.refl _ _) (Nat.le_refl _) (by simp) ?_;(case hd=>rfl);(case hg=>rfl);(case hr=>first | (go_simp;done) | (go_simp;rfl));(case hp=>exact (Reps.c2 (show Kd.M k50 _ _ _ (⟨(⟨#[100,101,112,116]⟩:ByteArray),(⟨#[120]⟩:ByteArray)⟩:S50) [.string (⟨#[100,101,112,116]⟩:ByteArray),.string (⟨#[120]⟩:ByteArray)] from (k50_mkM _ _ _ (⟨(⟨#[100,101,112,116]⟩:ByteArray),(⟨#[120]⟩:ByteArray)⟩:S50) )) (Reps.none _ _)));intro v255 w4 ho5 hb hg_ hnew_;clear hg_ hnew_;(first | rw [← Ny254.out] at ho5 | (simp only [Int.reduceToNat] at ho5;rw [← Ny254.out] at ho5));have HO256:=sd (Kd.R_lower ho5 (below_size zq29));replace HO253:=rbm HO253 hb;replace BK250:=bkm BK250 hb;replace HB:=hbm HB hb;clear hb ho5;obtain ⟨Ao6,co6,eo6⟩:=Kd.R_slice HO256.out;subst eo6;obtain ⟨Ao7,co7,eo7⟩:=Kd.R_slice HO253.out;subst eo7;obtain ⟨_,_,_,_,_,_,_,_,_,_⟩:=bk5 BK250))
 refine bodyPost_ret (results_cell_row rfl _ _ gb250 25 #[.string (⟨#[114,101,110,116]⟩:ByteArray),.slice Ao7 y251.length co7,.string (⟨#[53,49]⟩:ByteArray),.string (⟨#[112]⟩:ByteArray),.slice Ao6 y254.length co6] (0,0) _ rfl (by (with_reducible repeat (first | refine blk_drewN ?_ _ | refine blk_drew ?_ | refine blk_alloc ?_ _));refine blk_put (cs:=#[.string (⟨#[114,101,110,116]⟩:ByteArray),.slice Ao7 y251.length co7,.string (⟨#[53,49]⟩:ByteArray),.string (⟨#[112]⟩:ByteArray),.slice none 0 0]) ?_ 4 _ rfl;(with_reducible repeat (first | refine blk_drewN ?_ _ | refine blk_drew ?_ | refine blk_alloc ?_ _));refine blk_put (cs:=#[.string (⟨#[114,101,110,116]⟩:ByteArray),.slice Ao7 y251.length co7,.string (⟨#[53,49]⟩:ByteArray),.string (⟨#[]⟩:ByteArray),.slice none 0 0]) ?_ 3 _ rfl;(with_reducible repeat (first | refine blk_drewN ?_ _ | refine blk_drew ?_ | refine blk_alloc ?_ _));refine blk_put (cs:=#[.string (⟨#[114,101,110,116]⟩:ByteArray),.slice Ao7 y251.length co7,.string (⟨#[]⟩:ByteArray),.string (⟨#[]⟩:ByteArray),.slice none 0 0]) ?_ 2 _ rfl;(with_reducible repeat (first | refine blk_drewN ?_ _ | refine blk_drew ?_ | refine blk_alloc ?_ _));refine blk_put (cs:=#[.string (⟨#[114,101,110,116]⟩:ByteArray),.slice none 0 0,.string (⟨#[]⟩:ByteArray),.string (⟨#[]⟩:ByteArray),.slice none 0 0]) ?_ 1 _ rfl;(with_reducible repeat (first | refine blk_drewN ?_ _ | refine blk_drew ?_ | refine blk_alloc ?_ _));refine blk_put (cs:=#[.string (⟨#[]⟩:ByteArray),.slice none 0 0,.string (⟨#[]⟩:ByteArray),.string (⟨#[]⟩:ByteArray),.slice none 0 0]) ?_ 0 _ rfl;(with_reducible repeat (first | refine blk_drewN ?_ _ | refine blk_drew ?_ | refine blk_alloc ?_ _));exact BK250.out) Tryz.underlying25 rfl (by kernel_rfl)) rfl ?_;exact ⟨_,_,zq4,by (with_reducible repeat (first | apply Kd.R_alloc | apply Kd.R_drewN | apply Kd.R_drew));exact Kd.R_mono (Kd.R_far (p:=⟨gb250,4,none⟩) (Kd.R_far (p:=⟨gb250,3,none⟩) (Kd.R_far (p:=⟨gb250,2,none⟩) (Kd.R_far (p:=⟨gb250,1,none⟩) (Kd.R_far (p:=⟨gb250,0,none⟩) (Kd.R_types HO253.out BK250.out (by decide)) (fun _ hk=>hk.2) (.string (⟨#[114,101,110,116]⟩:ByteArray))) (fun _ hk=>hk.2) (.slice Ao7 y251.length co7)) (fun _ hk=>hk.2) (.string (⟨#[53,49]⟩:ByteArray))) (fun _ hk=>hk.2) (.string (⟨#[112]⟩:ByteArray))) (fun _ hk=>hk.2) (.slice Ao6 y254.length co6)) (fun _ hk=>trivial),by (with_reducible repeat (first | apply Kd.R_alloc | apply Kd.R_drewN | apply Kd.R_drew));exact Kd.R_mono (Kd.R_far (p:=⟨gb250,4,none⟩) (Kd.R_far (p:=⟨gb250,3,none⟩) (Kd.R_far (p:=⟨gb250,2,none⟩) (Kd.R_far (p:=⟨gb250,1,none⟩) (Kd.R_far (p:=⟨gb250,0,none⟩) (Kd.R_types HO256.out BK250.out (by decide)) (fun _ hk=>hk.2) (.string (⟨#[114,101,110,116]⟩:ByteArray))) (fun _ hk=>hk.2) (.slice Ao7 y251.length co7)) (fun _ hk=>hk.2) (.string (⟨#[53,49]⟩:ByteArray))) (fun _ hk=>hk.2) (.string (⟨#[112]⟩:ByteArray))) (fun _ hk=>hk.2) (.slice Ao6 y254.length co6)) (fun _ hk=>trivial),zq29⟩
theorem IsS82.at_ {w0 W:World} {g:Nat} {f0:List (S73)} {f1:Int} {f2:Bool} {w':World} {m:Nat} (hq:W.drewN m=w') (h:IsS82 w0 W g f0 f1 f2):IsS82 w0 w' g f0 f1 f2:=by subst hq;exact IsS82.drewN h m
theorem IsS82.ne_blk {w0 W:World} {g:Nat} {f0:List (S73)} {f1:Int} {f2:Bool} {a:Nat} {cs:Array Value} {t:TypeId} {fr:Nat×Nat} (h:IsS82 w0 W g f0 f1 f2) (hb2:W.heap[a]?=some (.cells cs t fr)) (ht:t≠82):g≠a:=by
 obtain ⟨A0,c0,hb,hg,hr0⟩:=h;rintro rfl;rw [hb] at hb2;injection hb2 with hb2
 injection hb2 with _ ht2
 exact ht ht2.symm
theorem IsS82.far {w0 W:World} {g:Nat} {f0:List (S73)} {f1:Int} {f2:Bool} {p:Addr} (h:IsS82 w0 W g f0 f1 f2) (hne:g≠p.block) (u:Value):IsS82 w0 (W.setCell p u) g f0 f1 f2:=by
 obtain ⟨A0,c0,hb,hg,hr0⟩:=h;exact ⟨A0,c0,blk_far hb hne u,hg,hr0⟩
def lw48_RulesTexts.j0:Nat→ByteArray→Int→Bool→ByteArray→List (S48)→ByteArray→ByteArray→List (S50)→Option (Bool)
 | 0,_,_,_,_,_,_,_,_=>none
 | k+1,x3,x6,x33,x358000,x358001,x358002,x358003,x358004=>if x33=true then (some false) else (if x6=0 then ((rules_Parse.f k x3).bind fun bt364=>((rf48_Same.f k bt364.1 bt364.2.1 bt364.2.2.1 bt364.2.2.2.1 bt364.2.2.2.2.1 x358000 x358001 x358002 x358003 x358004).bind fun t376=>(if t376=true then (if bt364.2.2.2.2.2.1=0 then (some (bt364.2.2.2.2.2.2 == 0)) else (some false)) else (some false)))) else (some true))
def lw48_RulesTexts.f (k:Nat) (a0_0:ByteArray) (l0_1:List (S48)) (a0_2:ByteArray) (a0_3:ByteArray) (l0_4:List (S50)):Option (Bool):=(lw48_large.f k a0_0 l0_1 a0_2 a0_3 l0_4).bind fun t358=>(if t358=true then (some true) else ((rules_Text.f k a0_0 l0_1 a0_2 a0_3 l0_4).bind fun bt359=>((rf48_Text.f k a0_0 l0_1 a0_2 a0_3 l0_4).bind fun bt361=>(if bt359.1.toList=bt361.1.toList then (if bt359.2=bt361.2 then ((lw48_lives.f).bind fun t363=>(lw48_RulesTexts.j0 k bt359.1 bt361.2 (!t363) a0_0 l0_1 a0_2 a0_3 l0_4)) else (lw48_RulesTexts.j0 k bt359.1 bt361.2 true a0_0 l0_1 a0_2 a0_3 l0_4)) else (lw48_RulesTexts.j0 k bt359.1 bt361.2 true a0_0 l0_1 a0_2 a0_3 l0_4)))))
structure S87 where
  f0:Int
  f1:ByteArray
  f2:Int
def k87:Kd S87:=Kd.iso (Kd.pair (Kd.int .i64) (Kd.pair Kd.string (Kd.int .i64))) (fun x:S87=>(x.f0,x.f1,x.f2))
abbrev cells25Z:Array Value:=#[.string ⟨#[]⟩,.slice none 0 0,.string ⟨#[]⟩,.string ⟨#[]⟩,.slice none 0 0]
structure RL (ok:Nat→Prop) (w0 w wr:World) (g g2 g4:Nat) (L:List S73) (at_:Int) (fl:Bool) (nm:ByteArray) (cs:List S48) (acc par:ByteArray) (tg:List S50) (vs:List S87) (vC vT vV:Value):Prop where
  hI:IsS82 w0 wr g L at_ fl
  hB:Below w0.heap.size w0 wr
  hK:KeepBut w wr g none
  b4:wr.heap[g4]?=some (.cells #[.string nm,vC,.string acc,.string par,vT] 25 (0,0))
  b2:wr.heap[g2]?=some (.cells cells25Z 25 (0,0))
  rC:Kd.R k48 48 wr w.heap.size ok vC cs
  rT:Kd.R k50 50 wr w.heap.size ok vT tg
  rV:Kd.R k87 87 wr w.heap.size ok vV vs
  e2:w.heap.size≤g2
  e4:w.heap.size≤g4
  ne:g2≠g4
  hw0:w0.heap.size≤w.heap.size
end Go.Proofs.YtkbgkekegjfkfaaGreatDoor.A
namespace Go.Proofs.YtkbgkekegjfkfaaGreatDoor.A
open Go.RowKit B WW WL WM
attribute [local go_sem] max2_int min2_int max_two min_two max_three min_three max_four min_four
set_option maxHeartbeats 8000000
set_option maxRecDepth 100000
section
variable {ok:Nat→Prop} {w0 w wr w1:World} {g g2 g4:Nat} {L:List S73} {at_:Int} {fl:Bool} {nm:ByteArray} {cs:List S48} {acc par:ByteArray} {tg:List S50} {vs:List S87} {vC vT vV:Value}
theorem q48_25:∀ q,q∈(48:Nat) :: k48.E→q≠25:=by decide
theorem q50_25:∀ q,q∈(50:Nat) :: k50.E→q≠25:=by decide
theorem q87_25:∀ q,q∈(87:Nat) :: k87.E→q≠25:=by decide
theorem RL.set (h:RL ok w0 w wr g g2 g4 L at_ fl nm cs acc par tg vs vC vT vV) (j:Nat) (u:Value) {nm' acc' par':ByteArray} {vC' vT':Value} {cs':List S48} {tg':List S50} (hc:(#[Value.string nm,vC,.string acc,.string par,vT]:Array Value).setIfInBounds j u=#[.string nm',vC',.string acc',.string par',vT'])
    (rC:Kd.R k48 48 wr w.heap.size ok vC' cs') (rT:Kd.R k50 50 wr w.heap.size ok vT' tg'):RL ok w0 w (wr.setCell ⟨g4,j,none⟩ u) g g2 g4 L at_ fl nm' cs' acc' par' tg' vs vC' vT' vV :=
  ⟨h.hI.far (p:=⟨g4,j,none⟩) (h.hI.ne_blk h.b4 (by decide)) u,below_setN h.hB (Nat.le_trans h.hw0 h.e4) u,keep_far h.hK (p:=⟨g4,j,none⟩) h.e4 u,blk_put h.b4 j u hc,blk_far (p:=⟨g4,j,none⟩) h.b2 h.ne u,
   Kd.R_set rC h.b4 q48_25 j u,Kd.R_set rT h.b4 q50_25 j u,Kd.R_set h.rV h.b4 q87_25 j u,h.e2,h.e4,h.ne,h.hw0⟩
theorem RL.mono (h:RL ok w0 w wr g g2 g4 L at_ fl nm cs acc par tg vs vC vT vV) {ok':Nat→Prop} (hm:∀ k,ok k→ok' k):RL ok' w0 w wr g g2 g4 L at_ fl nm cs acc par tg vs vC vT vV :=
  ⟨h.hI,h.hB,h.hK,h.b4,h.b2,Kd.R_mono h.rC hm,Kd.R_mono h.rT hm,Kd.R_mono h.rV hm,h.e2,h.e4,h.ne,h.hw0⟩
theorem RL.far {gt:Nat} (h:RL (fun k=>k≠gt) w0 w wr g g2 g4 L at_ fl nm cs acc par tg vs vC vT vV) (hg:g≠gt) (h2:g2≠gt) (h4:g4≠gt) (hge:w.heap.size≤gt) (j:Nat) (u:Value):RL (fun k=>k≠gt) w0 w (wr.setCell ⟨gt,j,none⟩ u) g g2 g4 L at_ fl nm cs acc par tg vs vC vT vV :=
  ⟨h.hI.far (p:=⟨gt,j,none⟩) hg u,below_setN h.hB (Nat.le_trans h.hw0 hge) u,keep_far h.hK (p:=⟨gt,j,none⟩) hge u,blk_far (p:=⟨gt,j,none⟩) h.b4 h4 u,blk_far (p:=⟨gt,j,none⟩) h.b2 h2 u,
   Kd.R_move h.rC (fun k hk=>Below.heap_setCell _ _ _ k hk),Kd.R_move h.rT (fun k hk=>Below.heap_setCell _ _ _ k hk),Kd.R_move h.rV (fun k hk=>Below.heap_setCell _ _ _ k hk),h.e2,h.e4,h.ne,h.hw0⟩
theorem RL.fin (h:RL ok w0 w wr g g2 g4 L at_ fl nm cs acc par tg vs vC vT vV) {W:World} (hW:W=(((((wr.setCell ⟨g2,0,none⟩ (.string nm)).setCell ⟨g2,1,none⟩ (vC)).setCell ⟨g2,2,none⟩ (.string acc)).setCell ⟨g2,3,none⟩ (.string par)).setCell ⟨g2,4,none⟩ (vT))) :
    W.heap[g2]?=some (.cells #[.string nm,vC,.string acc,.string par,vT] 25 (0,0))∧Kd.R k48 48 W w.heap.size ok vC cs∧Kd.R k50 50 W w.heap.size ok vT tg∧Kd.R k87 87 W w.heap.size ok vV vs∧IsS82 w0 W g L at_ fl∧Below w0.heap.size w0 W∧KeepBut w W g none:=by
  subst hW;have hg:g≠g2:=h.hI.ne_blk h.b2 (by decide);have hge:w0.heap.size≤g2:=Nat.le_trans h.hw0 h.e2;have b0:=blk_put (cs':=#[.string nm,.slice none 0 0,.string ⟨#[]⟩,.string ⟨#[]⟩,.slice none 0 0]) h.b2 0 (.string nm) rfl;have c0:=Kd.R_set h.rC h.b2 q48_25 0 (.string nm);have d0:=Kd.R_set h.rT h.b2 q50_25 0 (.string nm);have f0:=Kd.R_set h.rV h.b2 q87_25 0 (.string nm);have i0:=h.hI.far (p:=⟨g2,0,none⟩) hg (.string nm);have k0:=keep_far h.hK (p:=⟨g2,0,none⟩) h.e2 (.string nm);have l0:=below_setN (o:=0) h.hB hge (.string nm);have b1:=blk_put (cs':=#[.string nm,vC,.string ⟨#[]⟩,.string ⟨#[]⟩,.slice none 0 0]) b0 1 (vC) rfl;have c1:=Kd.R_set c0 b0 q48_25 1 (vC);have d1:=Kd.R_set d0 b0 q50_25 1 (vC);have f1:=Kd.R_set f0 b0 q87_25 1 (vC);have i1:=i0.far (p:=⟨g2,1,none⟩) hg (vC);have k1:=keep_far k0 (p:=⟨g2,1,none⟩) h.e2 (vC);have l1:=below_setN (o:=1) l0 hge (vC);have b2:=blk_put (cs':=#[.string nm,vC,.string acc,.string ⟨#[]⟩,.slice none 0 0]) b1 2 (.string acc) rfl;have c2:=Kd.R_set c1 b1 q48_25 2 (.string acc);have d2:=Kd.R_set d1 b1 q50_25 2 (.string acc);have f2:=Kd.R_set f1 b1 q87_25 2 (.string acc);have i2:=i1.far (p:=⟨g2,2,none⟩) hg (.string acc);have k2:=keep_far k1 (p:=⟨g2,2,none⟩) h.e2 (.string acc);have l2:=below_setN (o:=2) l1 hge (.string acc);have b3:=blk_put (cs':=#[.string nm,vC,.string acc,.string par,.slice none 0 0]) b2 3 (.string par) rfl;have c3:=Kd.R_set c2 b2 q48_25 3 (.string par);have d3:=Kd.R_set d2 b2 q50_25 3 (.string par);have f3:=Kd.R_set f2 b2 q87_25 3 (.string par);have i3:=i2.far (p:=⟨g2,3,none⟩) hg (.string par);have k3:=keep_far k2 (p:=⟨g2,3,none⟩) h.e2 (.string par);have l3:=below_setN (o:=3) l2 hge (.string par);have b4:=blk_put (cs':=#[.string nm,vC,.string acc,.string par,vT]) b3 4 (vT) rfl;have c4:=Kd.R_set c3 b3 q48_25 4 (vT);have d4:=Kd.R_set d3 b3 q50_25 4 (vT);have f4:=Kd.R_set f3 b3 q87_25 4 (vT);have i4:=i3.far (p:=⟨g2,4,none⟩) hg (vT);have k4:=keep_far k3 (p:=⟨g2,4,none⟩) h.e2 (vT);have l4:=below_setN (o:=4) l3 hge (vT);exact ⟨b4,c4,d4,f4,i4,l4,k4⟩
end
end Go.Proofs.YtkbgkekegjfkfaaGreatDoor.A
namespace Go.Proofs.YtkbgkekegjfkfaaGreatDoor.A
open Go.RowKit B WW WL WM
theorem ref04_Is_eq (n:Int):rf04_Is.f n=some (decide (0≤n∧n≤109572)):=by
  unfold rf04_Is.f;by_cases h:0≤n
  · rw [if_pos h];congr 1;exact decide_eq_decide.mpr ⟨fun x=>⟨h,x⟩,fun x=>x.2⟩
  · rw [if_neg h,decide_eq_false (by omega)]
theorem days_is_eq (n:Int):days_is.f n=some (decide (0≤n∧n≤109572)):=ref04_Is_eq n
theorem ref04_Date_ev (K:Nat) (n:Int) (hK:K < 3600) (hn:n≤109572) (ha:first K≤n) (hb:n < first (K+1)):Ev (fun k=>rf04_Date.f k n) (dateR K n):=by
  have h0:=first_nonneg K;unfold rf04_Date.f;rw [ref04_Is_eq,decide_eq_true ⟨by omega,hn⟩];have h:=ref04_Date_loop K n hK hn ha hb K 0 (by omega);rw [show n - first 0=n from Int.sub_zero n] at h;exact h
theorem days_Date_years (K:Nat) (n:Int) (y z:Int) (hK:K < 3600) (hn:n≤109572) (ha:first K≤n) (hb:n < first (K+1)):∀ d j:Nat,j+d=K / 12→Ev (fun k=>days_Date.l0 k n ((1900+j:Nat):Int) y z) (dateR K n)
  | d,j,e=>by
    have hj:j≤299:=by omega
    have h0:=first_nonneg (12 * (K / 12));have h1:=first_le (show 12 * (K / 12)≤K by omega);have h2:=first_le (show K+1≤12 * (K / 12+1) by omega);have w1:wrap64 (((1900+j:Nat):Int)+1)=((1900+(j+1):Nat):Int):=by unfold wrap64;omega
    have fin:j=K / 12→Ev (fun k=>days_Date.j1 k n ((1900+j:Nat):Int) y z) (dateR K n):=by
      intro ej;subst ej;refine Ev.step (fun k=>by rw [days_Date.j1,days_before_eq _ (by omega),Option.bind_some,befN_first]) ?_;rw [show wrap64 (n - first (12 * (K / 12)))=n - first (12 * (K / 12)+0) by show _=n - first (12 * (K / 12));unfold wrap64;omega];exact days_Date_months K n z hK hn ha hb (K % 12) 0 (by omega)
    refine Ev.step (fun k=>by rw [days_Date.l0,w1]) ?_
    cases d with
    | zero =>
      have ej:j=K / 12:=by omega
      refine Ev.both (fun h=>?_) (fun h=>fin ej);rw [days_before_eq _ (by omega),befN_first];simp only [Option.bind_some]
      refine Ev.no ?_ (fin ej);rw [ej];omega
    | succ d =>
      refine Ev.yes (by omega) ?_;rw [days_before_eq _ (by omega),befN_first];simp only [Option.bind_some]
      have h3:=first_le (show 12 * (j+1)≤12 * (K / 12) by omega);exact Ev.yes (by omega) (days_Date_years K n y z hK hn ha hb d (j+1) (by omega))
theorem days_Date_ev (K:Nat) (n:Int) (hK:K < 3600) (hn:n≤109572) (ha:first K≤n) (hb:n < first (K+1)):Ev (fun k=>days_Date.f k n) (dateR K n):=by
  have h0:=first_nonneg K;unfold days_Date.f;rw [days_is_eq,decide_eq_true ⟨by omega,hn⟩]
  have ht:wrap64 (1900+wrap64 (Int.tdiv n 366))=((1900+n.toNat / 366:Nat):Int):=by
    have:n=(n.toNat:Int):=by omega
    rw [this,show Int.tdiv (n.toNat:Int) 366=((n.toNat / 366:Nat):Int) from rfl,Int.toNat_natCast];have:n.toNat≤109572:=by omega
    generalize n.toNat=q at *;unfold wrap64;omega
  have hj:n.toNat / 366≤K / 12:=by
    have h2:=first_le (show K+1≤12 * (K / 12+1) by omega);have h3:=first_small (K / 12+1);omega
  show Ev (fun k=>days_Date.l0 k n (wrap64 (1900+wrap64 (Int.tdiv n 366))) 0 0) _
  rw [ht];exact days_Date_years K n 0 0 hK hn ha hb (K / 12 - n.toNat / 366) _ (by omega)
end Go.Proofs.YtkbgkekegjfkfaaGreatDoor.A
namespace Go.Proofs.YtkbgkekegjfkfaaGreatDoor.A
open Go.RowKit B WW WL WM
theorem ref04_Text_ev (K:Nat) (n:Int) (hK:K < 3600) (hn:n≤109572) (ha:first K≤n) (hb:n < first (K+1)):Ev (fun k=>rf04_Text.f k n) (oL (dtext K n),0):=by
  have hd:=day_small hK ha hb;have s:∀ a b:ByteArray,(a++b).size=a.size+b.size:=fun a b=>ByteArray.size_append
  have h1:(⟨#[45]⟩:ByteArray).size=1:=rfl;have t1:=ref01_Text ((1900+K / 12:Nat):Int) (by unfold I64;omega);rw [itoa_nat,dec_four (by omega) (by omega)] at t1;have t3:=ref04_two_ev (n - first K+1).toNat (by omega);rw [show ((n - first K+1).toNat:Int)=n - first K+1 by omega] at t3;unfold rf04_Text.f;refine Ev.bind (ref04_Date_ev K n hK hn ha hb) (Ev.yes rfl ?_);unfold dateR;dsimp only
  refine Ev.bind t1 ?_;show Ev (fun k=>if (oL (digs 4 (1900+K / 12))).size+1≤_ then _ else none) _
  refine Ev.yes (by rw [oL_size,digs_length];omega) (Ev.bind (ref04_two_ev (K % 12+1) (by omega)) ?_);refine Ev.yes (by show ((oL _)++_).size+_≤_;rw [s,oL_size,oL_size,digs_length,digs_length,h1];omega) (Ev.yes (by show (((oL _)++_)++_).size+_≤_;rw [s,s,oL_size,oL_size,digs_length,digs_length,h1];omega) (Ev.bind t3 ?_));refine Ev.yes (by show ((((oL _)++_)++_)++_).size+_≤_;rw [s,s,s,oL_size,oL_size,oL_size,digs_length,digs_length,digs_length,h1];omega) (Ev.is ?_);rw [← dtext_oL];rfl
theorem set_last {α:Type} (C:List α) (b b':α):(C++[b]).set ((C++[b]).length - 1) b'=C++[b']:=by
  rw [List.length_append,List.length_singleton,Nat.add_sub_cancel,List.set_append_right _ _ (Nat.le_refl _),Nat.sub_self];rfl
end Go.Proofs.YtkbgkekegjfkfaaGreatDoor.A
