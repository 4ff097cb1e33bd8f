-- By pack.py, a program of this session's.
import Derived.Deep.Slices
import Derived.Lib.SmallJoins
import Derived.SizedLaws
import Derived.Test.YtmlcdpfcafmmcaaDoorX6
import Derived.Test.YtmlcdpfcafmmcaaDoorX7
import Derived.Test.YtmlcdpfcafmmcaaDoorX8
set_option linter.unusedVariables false
set_option linter.unusedSimpArgs false
namespace Go.Proofs.YtmlcdpfcafmmcaaDoor.A
open Go.RowKit B WW WL WM
def pre (x:S93) (q:List S93×Nat×Nat):List S93×Nat×Nat:=if q.2.2=0 then (x :: q.1,q.2.1,0) else ([],q.2.1,q.2.2)
theorem isWdB_eq (c:UInt8):isWdB c=(isLet c || isDig c):=by
  have h:∀ n:Nat,n < 256→isWdB (UInt8.ofNat n)=(isLet (UInt8.ofNat n) || isDig (UInt8.ofNat n)):=by decide +kernel
  have:=h c.toNat c.toNat_lt;rwa [UInt8.ofNat_toNat] at this
theorem words_Code_at (s:ByteArray) (hs:s.size≤1000000):words_Code.f s=some (codeW s.data.toList):=by unfold words_Code.f;rw [if_pos (by omega)]
theorem words_Plain_at (s:ByteArray) (hs:s.size≤1000000):words_Plain.f s=some (plainW s.data.toList):=by unfold words_Plain.f;rw [if_pos (by omega)]
def lineS (l:S44) (last:Int):Int:=if dayB l.f0=true then (if l.f0 < last then 17 else if l.f1=0 then 2 else if inS l.f1 1000000000000=true then (if plainW l.f2.data.toList=true then (if plainW l.f3.data.toList=true then 0 else 5) else 5) else 4) else 11
def checkL (cl:Int):List S44→Int→Int→Int
  | [],_,n=>if n=cl then 0 else 15
  | l :: r,last,n=>if lineS l last=0 then checkL cl r l.f0 (n+l.f1) else lineS l last
def checkS (acc cur:ByteArray) (no op cl:Int) (ls:List S44):Int:=if codeW acc.data.toList=true then (if codeL cur.data.toList=true then (if 1≤no∧no≤4000 then (if inS op 1000000000000000=true∧inS cl 1000000000000000=true then (if 200 < ls.length then 9 else checkL cl ls 0 op) else 4) else 3) else 13) else 7
def Short (ls:List S44):Prop:=∀ x∈ls,x.f2.size≤1000000∧x.f3.size≤1000000
theorem stmt_within_eq (n b:Int) (h0:0≤b) (h:b≤1000000000000000):stmt_within.f n b=some (inS n b):=by
  unfold stmt_within.f inS;rw [w_in (by omega)];by_cases a:n ≥ -b
  · rw [if_pos a];congr 1;rw [Bool.eq_iff_iff,decide_eq_true_iff,decide_eq_true_iff];omega
  · rw [if_neg a,decide_eq_false (by omega)]
theorem rd44_at {l:List S44} {i:Nat} {x:S44} {r:List S44} (h:l.drop i=x :: r):i < l.length∧rd_T44 l (i:Int)=x∧l.drop (i+1)=r:=by
  have hlt:i < l.length:=by
    rcases Nat.lt_or_ge i l.length with h1 | h1
    · exact h1
    · rw [List.drop_eq_nil_of_le h1] at h;cases h
  rw [List.drop_eq_getElem_cons hlt] at h;obtain ⟨h1,h2⟩:=List.cons.inj h;refine ⟨hlt,?_,h2⟩;unfold rd_T44;rw [Int.toNat_natCast,List.getD_eq_getElem?_getD,List.getElem?_eq_getElem hlt,← h1];rfl
theorem lineS_in {l:S44} {last:Int} (h:lineS l last=0):-1000000000000≤l.f1∧l.f1≤1000000000000:=by
  unfold lineS at h;split at h
  · split at h
    · exact absurd h (by decide)
    split at h
    · exact absurd h (by decide)
    split at h
    · rename_i c;unfold inS at c;rwa [decide_eq_true_iff] at c
    · exact absurd h (by decide)
  · exact absurd h (by decide)
def EvP (F:Nat→Option (PSt×Int)) (r:PSt×Int):Prop:=∃ q,Ev F (q,r.2)∧(r.2=0→q=r.1)
theorem EvP.of {F:Nat→Option (PSt×Int)} {r:PSt×Int} (h:Ev F r):EvP F r:=⟨r.1,h,fun _=>rfl⟩
theorem EvP.no {F:Nat→Option (PSt×Int)} {q p:PSt} {e:Int} (h:Ev F (q,e)) (he:e≠0):EvP F (p,e):=⟨q,h,fun x=>absurd x he⟩
theorem EvP.both {F:Nat→Option Bool} {b:Bool} {p:PSt} {X Y:Nat→Option (PSt×Int)} {x y:PSt×Int} (m:Int) (hF:Ev F b) (hx:p.part=m→b=true→EvP X x) (hy:EvP Y y) :
    EvP (fun k=>(if p.part=m then F k else some false).bind fun t=>if t=true then X k else Y k) (if p.part=m∧b=true then x else y):=by
  by_cases c:p.part=m
  · by_cases d:b=true
    · rw [if_pos ⟨c,d⟩]
      obtain ⟨q,h1,h2⟩:=hx c d;refine ⟨q,?_,h2⟩;exact Ev.bind (Ev.yes c hF) (Ev.yes d h1)
    · rw [if_neg (fun h=>d h.2)]
      obtain ⟨q,h1,h2⟩:=hy;refine ⟨q,?_,h2⟩;exact Ev.bind (Ev.yes c hF) (Ev.no d h1)
  · rw [if_neg (fun h=>c h.1)]
    obtain ⟨q,h1,h2⟩:=hy;refine ⟨q,?_,h2⟩;exact Ev.bind (a:=false) (Ev.no c (Ev.is rfl)) (Ev.no (by decide) h1)
end Go.Proofs.YtmlcdpfcafmmcaaDoor.A
namespace Go.Proofs.YtmlcdpfcafmmcaaDoor.A
open Go.RowKit B WW WL WM
attribute [local go_sem] max2_int min2_int max_two min_two max_three min_three max_four min_four
set_option maxHeartbeats 8000000
set_option maxRecDepth 100000
abbrev SRes:=ByteArray×ByteArray×Int×Int×Int×List S44×Int×Int
def noS (i e:Int):SRes:=(⟨#[]⟩,⟨#[]⟩,0,0,0,[],i,e)
def pst0:PSt:=⟨0,0,⟨#[]⟩,⟨#[]⟩,0,0,0,[]⟩
theorem FB.row {α:Type} {d:Kd α} {e bd g base:Nat} {ok:Nat→Prop} {C v u:Value} {p:PSt} {xs:List α} {w w':World} (fb:FB bd g v w w') (hp:PB w bd g C p v) (h:d.R e w base ok u xs) (ht:∀ q,q∈e :: d.E→q≠63∧q≠44):d.R e w' base ok u xs:=by
 refine Kd.R_mono (Kd.R_move (Kd.R_bound h) fun k hk=>?_) (fun k hk=>hk.1);obtain ⟨_,_,hlt,q,hq,cells,hc⟩:=hk;refine fb.fr k hlt (fun e1=>?_) (fun e1=>?_)
 ·subst e1;rw [hp.blk] at hc;injection hc with hc;injection hc with _ h2;exact (ht q hq).1 h2.symm
 ·obtain ⟨inner,ho⟩:=Kd.R_own hp.row;obtain ⟨c2,h2⟩:=own_typed ho k e1.symm;rw [h2] at hc;injection hc with hc;injection hc with _ h3;exact (ht q hq).2 h3.symm
theorem FB.blk {bd g gz t:Nat} {C v:Value} {p:PSt} {cs:Array Value} {w w':World} (fb:FB bd g v w w') (hp:PB w bd g C p v) (h:w.heap[gz]?=some (.cells cs t (0,0))) (h1:t≠63) (h2:t≠44):w'.heap[gz]?=some (.cells cs t (0,0)):=by
 rw [fb.fr gz (Array.getElem?_eq_some_iff.1 h).1 (fun e1=>?_) (fun e1=>?_)]
 ·exact h
 ·subst e1;rw [hp.blk] at h;injection h with h;injection h with _ h3;exact h1 h3.symm
 ·obtain ⟨inner,ho⟩:=Kd.R_own hp.row;obtain ⟨c2,h3⟩:=own_typed ho gz e1.symm;rw [h3] at h;injection h with h;injection h with _ h4;exact h2 h4.symm
theorem ne24:∀ q,q∈(44:Nat) :: k44.E→q≠24:=by decide
def lw47_table.f :Option ((List (S77))):=some (([(⟨(⟨#[69,85,82]⟩:ByteArray),2⟩:S77),(⟨(⟨#[74,80,89]⟩:ByteArray),0⟩:S77)]:List (S77)))
def lw47_lives.f:Option Bool:=some true
theorem n44 (W:World):Kd.C k44 W none ([]:List S44).length []:=⟨rfl,Nat.zero_le _,fun h=>absurd h (Nat.lt_irrefl _)⟩
def rf04_Is.f (a0:Int):Option (Bool):=if a0 ≥ 0 then (some (decide (a0≤109572))) else (some false)
end Go.Proofs.YtmlcdpfcafmmcaaDoor.A
namespace Go.Proofs.YtmlcdpfcafmmcaaDoor.A
open Go.RowKit B WW WL WM
theorem code_ev (s:ByteArray) (h:s.size≤140737488351232):money_Code.f s=some (codeL s.data.toList):=by unfold money_Code.f;rw [if_pos h]
theorem first_year (j:Nat):first (12 * (j+1))=first (12 * j)+365+(if leapN (1900+j)=true then 1 else 0):=by
  have e (m:Nat) (h:m < 12):first (12 * j+(m+1))=first (12 * j+m)+lenYM j m:=by
    rw [← lenK_at j m h];rfl
  have l0:lenYM j 0=31:=rfl;have l1:lenYM j 1=28+(if leapN (1900+j)=true then 1 else 0):=by unfold lenYM;rw [if_pos rfl];split <;> rfl
  have l2:lenYM j 2=31:=rfl;have l3:lenYM j 3=30:=rfl;have l4:lenYM j 4=31:=rfl;have l5:lenYM j 5=30:=rfl;have l6:lenYM j 6=31:=rfl;have l7:lenYM j 7=31:=rfl;have l8:lenYM j 8=30:=rfl;have l9:lenYM j 9=31:=rfl;have l10:lenYM j 10=30:=rfl;have l11:lenYM j 11=31:=rfl;have z:first (12 * j+0)=first (12 * j):=rfl
  have e0:first (12 * j+1)=first (12 * j+0)+lenYM j 0:=e 0 (by omega)
  have e1:first (12 * j+2)=first (12 * j+1)+lenYM j 1:=e 1 (by omega)
  have e2:first (12 * j+3)=first (12 * j+2)+lenYM j 2:=e 2 (by omega)
  have e3:first (12 * j+4)=first (12 * j+3)+lenYM j 3:=e 3 (by omega)
  have e4:first (12 * j+5)=first (12 * j+4)+lenYM j 4:=e 4 (by omega)
  have e5:first (12 * j+6)=first (12 * j+5)+lenYM j 5:=e 5 (by omega)
  have e6:first (12 * j+7)=first (12 * j+6)+lenYM j 6:=e 6 (by omega)
  have e7:first (12 * j+8)=first (12 * j+7)+lenYM j 7:=e 7 (by omega)
  have e8:first (12 * j+9)=first (12 * j+8)+lenYM j 8:=e 8 (by omega)
  have e9:first (12 * j+10)=first (12 * j+9)+lenYM j 9:=e 9 (by omega)
  have e10:first (12 * j+11)=first (12 * j+10)+lenYM j 10:=e 10 (by omega)
  have e11:first (12 * j+12)=first (12 * j+11)+lenYM j 11:=e 11 (by omega)
  rw [show 12 * (j+1)=12 * j+12 by omega];omega
theorem befN_succ (j:Nat):befN (j+1)=befN j+365+(if leapN (1900+j)=true then 1 else 0):=by
  unfold befN leapN;by_cases a:(1900+j) % 4=0
  · by_cases b:(1900+j) % 100=0
    · by_cases c:(1900+j) % 400=0
      · rw [if_pos (by simp [a,b,c])];omega
      · rw [if_neg (by simp [a,b,c])];omega
    · have c:¬ (1900+j) % 400=0:=by omega
      rw [if_pos (by simp [a,b,c])];omega
  · have b:¬ (1900+j) % 100=0:=by omega
    have c:¬ (1900+j) % 400=0:=by omega
    rw [if_neg (by simp [a,b,c])];omega
theorem befN_first (j:Nat):befN j=first (12 * j):=by
  induction j with
  | zero=>rfl
  | succ j ih=>rw [befN_succ,first_year,ih]
theorem first_lt {K L:Nat} (h:K < L):first K+28≤first L:=by
  induction L with
  | zero=>omega
  | succ L ih =>
    have:=(lenK_in L).1;show first K+28≤first L+lenK L
    by_cases e:K=L
    · subst e;omega
    · have:=ih (by omega);omega
theorem first_le {K L:Nat} (h:K≤L):first K≤first L:=by
  by_cases e:K=L
  · rw [e];exact Int.le_refl _
  · have:=first_lt (show K < L by omega);omega
theorem first_end:first 3600=109573:=by
  have:=befN_first 300;rw [show 12 * 300=3600 from rfl] at this;rw [← this];rfl
theorem first_has (N:Nat) (n:Int) (h0:0≤n) (h:n < first N):∃ K,K < N∧first K≤n∧n < first (K+1):=by
  induction N with
  | zero=>exact absurd h (by show ¬ n < 0;omega)
  | succ N ih =>
    by_cases e:n < first N
    · obtain ⟨K,a,b⟩:=ih e
      exact ⟨K,by omega,b⟩
    · exact ⟨N,by omega,by omega,h⟩
theorem month_of (n:Int) (h0:0≤n) (h:n≤109572):∃ K,K < 3600∧first K≤n∧n < first (K+1) :=
  first_has 3600 n h0 (by rw [first_end];omega)
theorem first_nonneg (K:Nat):0≤first K:=first_le (Nat.zero_le K)
theorem days_Leap_eq (y:Nat):days_Leap.f (y:Int)=some (leapN y):=by
  unfold days_Leap.f leapN;rw [show Int.tmod (y:Int) 4=((y % 4:Nat):Int) from rfl,show Int.tmod (y:Int) 100=((y % 100:Nat):Int) from rfl,show Int.tmod (y:Int) 400=((y % 400:Nat):Int) from rfl]
  have e:(((y % 400:Nat):Int) == 0)=decide (y % 400=0):=by
    by_cases c:y % 400=0
    · rw [c];rfl
    · rw [decide_eq_false c,beq_eq_false_iff_ne];omega
  rw [e];by_cases a:y % 4=0
  · rw [if_pos (by omega),decide_eq_true a,Bool.true_and]
    by_cases b:y % 100=0
    · have c:=e
      rw [if_pos (by omega),decide_eq_false (show ¬ y % 100≠0 by omega),Bool.false_or]
    · have c:¬ y % 400=0:=by omega
      rw [if_neg (by omega),decide_eq_true (show y % 100≠0 by omega),Bool.true_or]
  · rw [if_neg (by omega),decide_eq_false a,Bool.false_and,Bool.false_or]
theorem days_Length_eq (j m:Nat) (h:m < 12):days_Length.f ((1900+j:Nat):Int) (((m+1:Nat)):Int)=some (lenYM j m):=by
  unfold days_Length.f lenYM;rw [if_neg (by omega)];by_cases c:m=1
  · subst c
    rw [if_pos (by rfl),if_pos rfl,days_Leap_eq];rfl
  · rw [if_neg (by omega),if_neg c,show ((((m+1:Nat):Int) - 1).toNat)=m by omega,monLen_eq m h]
theorem days_before_eq (j:Nat) (h:j≤300):days_before.f ((1900+j:Nat):Int)=some (befN j):=by
  unfold days_before.f befN;have w (n:Int) (a:-1000000 < n) (b:n < 1000000):wrap64 n=n:=by unfold wrap64;omega
  rw [show wrap64 (((1900+j:Nat):Int) - 1900)=(j:Int) by rw [w _ (by omega) (by omega)];omega,show wrap64 (((1900+j:Nat):Int) - 1)=((1899+j:Nat):Int) by rw [w _ (by omega) (by omega)];omega];rw [show Int.tdiv ((1899+j:Nat):Int) 4=(((1899+j) / 4:Nat):Int) from rfl,show Int.tdiv ((1899+j:Nat):Int) 100=(((1899+j) / 100:Nat):Int) from rfl,show Int.tdiv ((1899+j:Nat):Int) 400=(((1899+j) / 400:Nat):Int) from rfl];have x4:(1899+j) / 4≤600:=by omega
  have x1:(1899+j) / 100≤600:=by omega
  have x2:(1899+j) / 400≤600:=by omega
  generalize (1899+j) / 4=a at *;generalize (1899+j) / 100=b at *;generalize (1899+j) / 400=c at *;rw [w (a:Int) (by omega) (by omega),w (b:Int) (by omega) (by omega),w (c:Int) (by omega) (by omega),w (365 * (j:Int)) (by omega) (by omega)];rw [w ((a:Int) - b) (by omega) (by omega),w ((a:Int) - b+c) (by omega) (by omega),w ((a:Int) - b+c - 474) (by omega) (by omega),w ((a:Int) - b+c - 474+18) (by omega) (by omega),w ((a:Int) - b+c - 474+18 - 4) (by omega) (by omega),w _ (by omega) (by omega)];congr 1
  omega
theorem first_small (j:Nat):first (12 * j)≤366 * (j:Int):=by
  induction j with
  | zero=>exact Int.le_refl _
  | succ j ih=>rw [first_year];split <;> omega
theorem ref04_Is_eq (n:Int):rf04_Is.f n=some (decide (0≤n∧n≤109572)):=by
  unfold rf04_Is.f;by_cases h:0≤n
  · rw [if_pos h];congr 1;exact decide_eq_decide.mpr ⟨fun x=>⟨h,x⟩,fun x=>x.2⟩
  · rw [if_neg h,decide_eq_false (by omega)]
theorem days_is_eq (n:Int):days_is.f n=some (decide (0≤n∧n≤109572)):=ref04_Is_eq n
theorem days_Date_no (n:Int) (h:¬ (0≤n∧n≤109572)):Ev (fun k=>days_Date.f k n) (0,0,0,11):=by
  unfold days_Date.f;rw [days_is_eq,decide_eq_false h];exact Ev.is rfl
theorem days_Date_months (K:Nat) (n:Int) (z:Int) (hK:K < 3600) (hn:n≤109572) (ha:first K≤n) (hb:n < first (K+1)):∀ d m:Nat,m+d=K % 12→Ev (fun k=>days_Date.l1 k (n - first (12 * (K / 12)+m)) ((1900+K / 12:Nat):Int) ((m+1:Nat):Int) z) (dateR K n)
  | d,m,e=>by
    have hm:m < 12:=by omega
    have hL:=first_le (show 12 * (K / 12)+m≤K by omega);have h0:=first_nonneg (12 * (K / 12)+m);have hl:=lenYM_in (K / 12) m hm;have hs:first (12 * (K / 12)+m+1)=first (12 * (K / 12)+m)+lenYM (K / 12) m:=by rw [← lenK_at (K / 12) m hm];rfl
    refine Ev.step (fun k=>by rw [days_Date.l1,days_Length_eq _ _ hm,Option.bind_some,Option.bind_some]) ?_
    cases d with
    | zero =>
      have e':12 * (K / 12)+m=K:=by omega
      rw [e'] at hs ⊢;refine Ev.no (by omega) (Ev.is ?_);unfold dateR;rw [show wrap64 (n - first K+1)=n - first K+1 by unfold wrap64;omega,show m=K % 12 by omega]
    | succ d =>
      have:=first_le (show 12 * (K / 12)+m+1≤K by omega);refine Ev.yes (by omega) ?_;rw [show wrap64 (((m+1:Nat):Int)+1)=((m+1+1:Nat):Int) by unfold wrap64;omega,show wrap64 (n - first (12 * (K / 12)+m) - lenYM (K / 12) m)=n - first (12 * (K / 12)+(m+1)) by rw [show 12 * (K / 12)+(m+1)=12 * (K / 12)+m+1 by omega,hs];unfold wrap64;omega];exact days_Date_months K n z hK hn ha hb d (m+1) (by omega)
theorem days_Date_years (K:Nat) (n:Int) (y z:Int) (hK:K < 3600) (hn:n≤109572) (ha:first K≤n) (hb:n < first (K+1)):∀ d j:Nat,j+d=K / 12→Ev (fun k=>days_Date.l0 k n ((1900+j:Nat):Int) y z) (dateR K n)
  | d,j,e=>by
    have hj:j≤299:=by omega
    have h0:=first_nonneg (12 * (K / 12));have h1:=first_le (show 12 * (K / 12)≤K by omega);have h2:=first_le (show K+1≤12 * (K / 12+1) by omega);have w1:wrap64 (((1900+j:Nat):Int)+1)=((1900+(j+1):Nat):Int):=by unfold wrap64;omega
    have fin:j=K / 12→Ev (fun k=>days_Date.j1 k n ((1900+j:Nat):Int) y z) (dateR K n):=by
      intro ej;subst ej;refine Ev.step (fun k=>by rw [days_Date.j1,days_before_eq _ (by omega),Option.bind_some,befN_first]) ?_;rw [show wrap64 (n - first (12 * (K / 12)))=n - first (12 * (K / 12)+0) by show _=n - first (12 * (K / 12));unfold wrap64;omega];exact days_Date_months K n z hK hn ha hb (K % 12) 0 (by omega)
    refine Ev.step (fun k=>by rw [days_Date.l0,w1]) ?_
    cases d with
    | zero =>
      have ej:j=K / 12:=by omega
      refine Ev.both (fun h=>?_) (fun h=>fin ej);rw [days_before_eq _ (by omega),befN_first];simp only [Option.bind_some]
      refine Ev.no ?_ (fin ej);rw [ej];omega
    | succ d =>
      refine Ev.yes (by omega) ?_;rw [days_before_eq _ (by omega),befN_first];simp only [Option.bind_some]
      have h3:=first_le (show 12 * (j+1)≤12 * (K / 12) by omega);exact Ev.yes (by omega) (days_Date_years K n y z hK hn ha hb d (j+1) (by omega))
theorem days_Date_ev (K:Nat) (n:Int) (hK:K < 3600) (hn:n≤109572) (ha:first K≤n) (hb:n < first (K+1)):Ev (fun k=>days_Date.f k n) (dateR K n):=by
  have h0:=first_nonneg K;unfold days_Date.f;rw [days_is_eq,decide_eq_true ⟨by omega,hn⟩]
  have ht:wrap64 (1900+wrap64 (Int.tdiv n 366))=((1900+n.toNat / 366:Nat):Int):=by
    have:n=(n.toNat:Int):=by omega
    rw [this,show Int.tdiv (n.toNat:Int) 366=((n.toNat / 366:Nat):Int) from rfl,Int.toNat_natCast];have:n.toNat≤109572:=by omega
    generalize n.toNat=q at *;unfold wrap64;omega
  have hj:n.toNat / 366≤K / 12:=by
    have h2:=first_le (show K+1≤12 * (K / 12+1) by omega);have h3:=first_small (K / 12+1);omega
  show Ev (fun k=>days_Date.l0 k n (wrap64 (1900+wrap64 (Int.tdiv n 366))) 0 0) _
  rw [ht];exact days_Date_years K n 0 0 hK hn ha hb (K / 12 - n.toNat / 366) _ (by omega)
end Go.Proofs.YtmlcdpfcafmmcaaDoor.A
namespace Go.Proofs.YtmlcdpfcafmmcaaDoor.B
open Go.Deep Go.ChangeShapes Go.WideShapes Go.ChangeAt Go.Joins WW
theorem weights_mem_all {H:Type} {P:Program} {e:TypeId} {l:List (DataW H)} {d:DataW H} (h:d∈l) {x:Nat} (hx:x∈d.weights P e):x∈DataW.weightsAll P e l:=by
  induction l with
  | nil=>cases h
  | cons a l ih =>
    rw [DataW.weightsAll];rcases List.mem_cons.mp h with rfl | h
    · exact List.mem_append_left _ hx
    · exact List.mem_append_right _ (ih h)
theorem arg_weights {H:Type} {P:Program} {ts:List TypeId} {ds:List (DataW H)} {j:Nat} {t:TypeId} {d:DataW H} (hsz:(DataW.weightsEach P ts ds).all (·≤reachBytes)=true) (ht:ts[j]?=some t) (hd:ds[j]?=some d):∀ x∈d.weights P t,x≤reachBytes :=
  fun x hx=>by simpa using List.all_eq_true.1 hsz x (DataW.weights_mem_each ht hd x hx)
structure Opens {α:Type} (P:Program) (t:TypeId) (d:Kd α) (G:α→Prop):Prop where
  size:P.cellsOf t=d.sz
  get:∀ {H:Type} {enc:TypeId×Value→H} {W:World} {base:Nat} {spare:Nat→Bool} {held:Bool} {n:Nat} {cs:List Value} {y:DataW H×List MemPlace},DataW.trod enc P W base spare held n t cs=some y→(∀ x∈y.1.weights P t,x≤reachBytes)→∃ a,d.K W a cs∧G a
theorem Opens.int {P:Program} {t:TypeId} {k:IntKind} (ht:P.underlying t=some (.int k)) (hc:P.cellsOf t=1):Opens P t (Kd.int k) (fun x=>(Lit.int k x).wf=true) where
  size:=hc
  get h _:=by
    obtain ⟨x,rfl,_,hw⟩:=DataW.trod_int ht h;exact ⟨x,rfl,hw⟩
theorem Opens.string {P:Program} {t:TypeId} (ht:P.underlying t=some .string) (hc:P.cellsOf t=1):Opens P t Kd.string (fun s=>s.size≤140737488351232) where
  size:=hc
  get h hw:=by
    obtain ⟨x,rfl,rfl,_⟩:=DataW.trod_string ht h;refine ⟨x,rfl,?_⟩;have:=hw x.data.toList.length (by simp [DataW.weights]);rw [data_length] at this;exact this
theorem Opens.iso {α β:Type} {P:Program} {t:TypeId} {d:Kd α} {G:α→Prop} {G':β→Prop} (h:Opens P t d G) (f:β→α) (g:α→β) (hfg:∀ a,f (g a)=a) (hG:∀ a,G a→G' (g a)):Opens P t (Kd.iso d f) G' where
  size:=h.size
  get hh hw:=by
    obtain ⟨a,ha,hg⟩:=h.get hh hw;refine ⟨g a,?_,hG a hg⟩;show d.K _ (f (g a)) _
    rw [hfg];exact ha
structure OpensF {α:Type} (P:Program) (fs:List Field) (o:Nat) (d:Kd α) (G:α→Prop):Prop where
  get:∀ {H:Type} {enc:TypeId×Value→H} {W:World} {base:Nat} {spare:Nat→Bool} {held:Bool} {n:Nat} {cs:List Value},o+d.sz≤cs.length→(∀ f∈fs,∃ y,DataW.trod enc P W base spare held n f.type ((cs.drop f.offset).take (P.cellsOf f.type))=some y∧∀ x∈y.1.weights P f.type,x≤reachBytes) →
    ∃ a,d.K W a ((cs.drop o).take d.sz)∧G a
theorem OpensF.one {α:Type} {P:Program} {f:Field} {o:Nat} {d:Kd α} {G:α→Prop} (h:Opens P f.type d G) (ho:f.offset=o):OpensF P [f] o d G where
  get _ hf:=by
    obtain ⟨y,hy,hw⟩:=hf f (List.mem_singleton.mpr rfl);rw [ho,h.size] at hy;exact h.get hy hw
theorem OpensF.cons {α β:Type} {P:Program} {f:Field} {fs:List Field} {o o':Nat} {d:Kd α} {e:Kd β} {G:α→Prop} {G':β→Prop} (h:Opens P f.type d G) (ho:f.offset=o) (h':OpensF P fs o' e G') (ho':o'=o+d.sz) :
    OpensF P (f :: fs) o (Kd.pair d e) (fun x=>G x.1∧G' x.2) where
  get:=by
    intro H enc W base spare held n cs hl hf;have hsz:(Kd.pair d e).sz=d.sz+e.sz:=rfl;rw [hsz] at hl ⊢;obtain ⟨y,hy,hw⟩:=hf f (List.mem_cons_self ..);rw [ho,h.size] at hy;obtain ⟨a,ha,hg⟩:=h.get hy hw;obtain ⟨b,hb,hg'⟩:=h'.get (by omega) (fun f' hf'=>hf f' (List.mem_cons_of_mem _ hf'));refine ⟨(a,b),⟨_,_,?_,ha,hb⟩,hg,hg'⟩;rw [ho',← List.drop_drop,List.take_add]
theorem Opens.struct {α:Type} {P:Program} {t:TypeId} {fs:Array Field} {d:Kd α} {G:α→Prop} (ht:P.underlying t=some (.struct fs)) (hc:P.cellsOf t=d.sz) (h:OpensF P fs.toList 0 d G):Opens P t d G where
  size:=hc
  get:=by
    intro H enc W base spare held n cs y hh hw;obtain ⟨xs,n,_,rfl,hl,hlen,hf⟩:=DataW.trod_struct ht hh;rw [hc] at hl
    have hw':∀ x∈DataW.weightsEach P (fs.toList.map (·.type)) (xs.map (·.1)),x≤reachBytes:=by
      intro x hx;refine hw x ?_;show x∈DataW.weights P t (.agg (xs.map (·.1)))
      rw [DataW.weights,ht];exact hx
    obtain ⟨a,ha,hg⟩:=h.get (cs:=cs) (by omega) (fun f hm=>by
      obtain ⟨i,hi,rfl⟩:=List.getElem_of_mem hm;have hi':i < fs.size:=by simpa using hi
      have:=hf i fs[i] (Array.getElem?_eq_getElem hi');rw [Array.getElem_toList];have hx9:xs[i]?=some xs[i]:=List.getElem?_eq_getElem (by omega);refine ⟨_,this.trans hx9,fun x hx=>hw' x (DataW.weights_mem_each (j:=i) (t:=fs[i].type) (d:=xs[i].1) ?_ ?_ x hx)⟩
      · rw [List.getElem?_map,List.getElem?_eq_getElem hi,Array.getElem_toList];rfl
      · rw [List.getElem?_map,hx9];rfl)
    rw [List.drop_zero,← hl,List.take_length] at ha;exact ⟨a,ha,hg⟩
theorem Opens.slice {α:Type} {P:Program} {t e:TypeId} {d:Kd α} {G:α→Prop} (ht:P.underlying t=some (.slice e)) (hc:P.cellsOf t=1) (h:Opens P e d G):Opens P t (Kd.slice e d) (fun xs=>(∀ x∈xs,G x)∧xs.length≤maxLen∧xs.length * P.bytesOf e≤140737488351232) where
  size:=hc
  get:=by
    intro H enc W base spare held n cs y hh hw;rcases open_slice ht hh with ⟨rfl,_⟩ | ⟨a,len,cap,m,n',D,Pl,rfl,_,hlc,hcm,hm,rfl,hel⟩
    · exact ⟨[],⟨none,0,rfl,Nat.le_refl _,rfl,Nat.zero_le _,fun h=>absurd h (Nat.lt_irrefl _)⟩,⟨fun x hx=>(by cases hx),Nat.zero_le _,by simp⟩⟩
    · have hml:len≤m:=by rw [hm];split <;> omega
      have hw1:∀ i,i < len→∀ x∈(D i).weights P e,x≤reachBytes:=by
        intro i hi x hx;refine hw x ?_;show x∈DataW.weights P t (.slice ((List.range len).map D) _)
        rw [DataW.weights,ht];refine List.mem_cons_of_mem _ (List.mem_append_left _ ?_);exact weights_mem_all (List.mem_map.mpr ⟨i,List.mem_range.mpr hi,rfl⟩) hx
      have hw2:len * P.bytesOf e≤140737488351232:=by
        have:=hw ((((List.range len).map D).length+((List.range (m - len)).map fun j=>D (len+j)).length) * P.bytesOf e) (by
          show _∈DataW.weights P t (.slice ((List.range len).map D) _)
          rw [DataW.weights,ht];exact List.mem_cons_self ..)
        rw [List.length_map,List.length_range] at this;exact Nat.le_trans (Nat.mul_le_mul_right _ (Nat.le_add_right _ _)) this
      have key:∀ i,i < len→∃ x:α,∃ cs',W.cells? base (a.add (i * d.sz)) d.sz=some cs'∧d.K W x cs'∧G x:=by
        intro i hi;obtain ⟨cs',h1,h2⟩:=hel i (by omega);obtain ⟨x,hx,hg⟩:=h.get h2 (hw1 i hi);rw [h.size] at h1;exact ⟨x,cs',h1,hx,hg⟩
      have build:∀ k,k≤len→∃ xs:List α,xs.length=k∧∀ j x,xs[j]?=some x→∃ cs',W.cells? base (a.add (j * d.sz)) d.sz=some cs'∧d.K W x cs'∧G x:=by
        intro k;induction k with
        | zero=>intro _;exact ⟨[],rfl,fun j x hj=>by simp at hj⟩
        | succ k ih =>
          intro hk;obtain ⟨xs,hxs,hget⟩:=ih (by omega);obtain ⟨x,hx⟩:=key k (by omega);refine ⟨xs++[x],by rw [List.length_append,hxs];rfl,fun j z hj=>?_⟩;by_cases hjk:j < k
          · rw [List.getElem?_append_left (by omega)] at hj;exact hget j z hj
          · rw [List.getElem?_append_right (by omega)] at hj
            obtain rfl:j=k:=by
              have:=(List.getElem?_eq_some_iff.mp hj).1;rw [List.length_singleton] at this;omega
            rw [hxs,Nat.sub_self] at hj;obtain rfl:x=z:=Option.some.inj hj;exact hx
      obtain ⟨xs,hxs,hget⟩:=build len (Nat.le_refl _);unfold maxLen at hcm;refine ⟨xs,⟨some a,cap,by rw [hxs],by omega,rfl,by omega,fun _=>⟨a,rfl,fun j x hj=>?_⟩⟩,⟨fun x hx=>?_,by unfold maxLen;omega,by rw [hxs];exact hw2⟩⟩
      · obtain ⟨cs',h1,h2,_⟩:=hget j x hj
        refine ⟨cs',d.K_len h2,h2,fun i u hu=>?_⟩;obtain ⟨_,h4,h3⟩:=World.cells?_some h1;have hi:=(List.getElem?_eq_some_iff.mp hu).1;have h5:=h3 i (by omega);rw [← hu,← h5,Deep.add_add]
      · obtain ⟨j,hj⟩:=List.getElem?_of_mem hx
        obtain ⟨_,_,_,hg⟩:=hget j x hj;exact hg
end Go.Proofs.YtmlcdpfcafmmcaaDoor.B
namespace Go.Proofs.YtmlcdpfcafmmcaaDoor.A
open Go.RowKit B WW WL WM
theorem days_Date_at (n:Int):∃ v:Int×Int×Int×Int,v.2.2.2=(if dayB n=true then 0 else 11)∧Ev (fun k=>days_Date.f k n) v:=by
  unfold dayB;by_cases h:0≤n∧n≤109572
  · obtain ⟨K,hK,ha,hb⟩:=month_of n h.1 h.2
    exact ⟨_,by rw [if_pos (decide_eq_true h)];rfl,days_Date_ev K n hK h.2 ha hb⟩
  · exact ⟨_,by rw [if_neg (by rw [decide_eq_true_iff];exact h)],days_Date_no n h⟩
theorem stmt_one_ev (l:S44) (last:Int) (h:l.f2.size≤1000000∧l.f3.size≤1000000):Ev (fun k=>stmt_one.f k l.f0 l.f1 l.f2 l.f3 last) (lineS l last):=by
  obtain ⟨v,hv,he⟩:=days_Date_at l.f0;unfold stmt_one.f lineS;refine Ev.bind he ?_;rw [hv];by_cases d:dayB l.f0=true
  · rw [if_pos d,if_pos d]
    refine Ev.yes rfl (Ev.both (fun a=>Ev.is (by rw [if_pos a])) (fun a=>?_));rw [if_neg a];refine Ev.both (fun b=>Ev.is (by rw [if_pos b])) (fun b=>?_);rw [if_neg b,stmt_within_eq _ _ (by omega) (by omega),words_Plain_at _ h.1,words_Plain_at _ h.2];simp only [Option.bind_some]
    refine Ev.both (fun c=>?_) (fun c=>Ev.is (by rw [if_neg c]));rw [if_pos c];refine Ev.both (fun e=>?_) (fun e=>Ev.is (by rw [if_neg e]));rw [if_pos e];exact Ev.both (fun g=>Ev.is (by rw [if_pos g])) (fun g=>Ev.is (by rw [if_neg g]))
  · rw [if_neg d,if_neg d]
    exact Ev.no (by decide) (Ev.is rfl)
theorem stmt_Check_l0 (acc cur:ByteArray) (no op cl:Int) (ls:List S44) (hs:Short ls) (hl:ls.length≤200) (R:List S44):∀ (i:Nat) (n last:Int),ls.drop i=R→-1000000000000000 - 1000000000000 * (i:Int)≤n→n≤1000000000000000+1000000000000 * (i:Int) →
    Ev (fun k=>stmt_Check.l0 k n last ls (ls.length:Int) (i:Int) acc cur no op cl ls) (checkL cl R last n):=by
  induction R with
  | nil =>
    intro i n last h h0 h1;have:=List.drop_eq_nil_iff.mp h;refine Ev.step (fun k=>by rw [stmt_Check.l0]) (Ev.no (by omega) ?_);rw [checkL];exact Ev.both (fun e=>Ev.is (by rw [if_pos e])) (fun e=>Ev.is (by rw [if_neg e]))
  | cons x r ih =>
    intro i n last h h0 h1;obtain ⟨hi,hx,hr⟩:=rd44_at h;have hm:x∈ls:=List.mem_of_mem_drop (i:=i) (by rw [h];exact List.mem_cons_self);refine Ev.step (fun k=>by rw [stmt_Check.l0]) (Ev.yes (by omega) (Ev.yes (by omega) (Ev.yes (by omega) ?_)));rw [hx,w_next i (by omega),checkL];refine Ev.bind (stmt_one_ev x last (hs x hm)) (Ev.both (fun e=>?_) (fun e=>Ev.is (by rw [if_neg e])));have:=lineS_in e;rw [if_pos e,w_in (x:=n+x.f1) (by omega)];exact ih (i+1) (n+x.f1) x.f0 hr (by omega) (by omega)
theorem stmt_Check_ev (acc cur:ByteArray) (no op cl:Int) (ls:List S44) (ha:acc.size≤1000000) (hc:cur.size≤1000000) (hs:Short ls):Ev (fun k=>stmt_Check.f k acc cur no op cl ls) (checkS acc cur no op cl ls):=by
  have j1:inS op 1000000000000000=true→Ev (fun k=>stmt_Check.j1 k (!(inS cl 1000000000000000)) acc cur no op cl ls) (if inS op 1000000000000000=true∧inS cl 1000000000000000=true then (if 200 < ls.length then 9 else checkL cl ls 0 op) else 4):=fun h=>by
    refine Ev.step (fun k=>by rw [stmt_Check.j1]) ?_
    cases b:inS cl 1000000000000000 with
    | false=>rw [if_neg (by rintro ⟨_,x⟩;cases x)];exact Ev.yes rfl (Ev.is rfl)
    | true =>
      rw [if_pos ⟨h,rfl⟩];refine Ev.no (by decide) (Ev.both (fun e=>Ev.is (by rw [if_pos (by omega)])) (fun e=>?_));rw [if_neg (by omega)];unfold inS at h;rw [decide_eq_true_iff] at h;exact stmt_Check_l0 acc cur no op cl ls hs (by omega) ls 0 op 0 rfl (by omega) (by omega)
  have j0:∀ b:Bool,(b=false ↔ 1≤no∧no≤4000)→Ev (fun k=>stmt_Check.j0 k b acc cur no op cl ls) (if 1≤no∧no≤4000 then (if inS op 1000000000000000=true∧inS cl 1000000000000000=true then (if 200 < ls.length then 9 else checkL cl ls 0 op) else 4) else 3):=fun b hb=>by
    refine Ev.step (fun k=>by rw [stmt_Check.j0]) ?_
    cases b with
    | true=>rw [if_neg (fun x=>by cases hb.mpr x)];exact Ev.yes rfl (Ev.is rfl)
    | false =>
      rw [if_pos (hb.mp rfl),stmt_within_eq _ _ (by omega) (by omega),stmt_within_eq _ _ (by omega) (by omega)];simp only [Option.bind_some]
      refine Ev.no (by decide) (Ev.both (fun e=>j1 e) (fun e=>?_));rw [if_neg (fun x=>e x.1)];refine Ev.step (fun k=>by rw [stmt_Check.j1]) ?_;exact Ev.yes rfl (Ev.is rfl)
  unfold stmt_Check.f checkS;rw [words_Code_at _ ha,code_ev _ (by omega)];simp only [Option.bind_some]
  refine Ev.both (fun e=>?_) (fun e=>Ev.is (by rw [if_neg e]));rw [if_pos e];refine Ev.both (fun e=>?_) (fun e=>Ev.is (by rw [if_neg e]));rw [if_pos e];refine Ev.both (fun e=>j0 true ⟨fun x=>(by cases x),fun x=>(by omega)⟩) (fun e=>j0 _ ?_);rw [decide_eq_false_iff_not];omega
theorem Ev.live:Ev (fun _=>lw47_lives.f.bind fun t=>some t) true:=⟨0,fun _ _=>rfl⟩
end Go.Proofs.YtmlcdpfcafmmcaaDoor.A
namespace Go.Proofs.YtmlcdpfcafmmcaaDoor.WW
open Go.RowKit
namespace Kd
section
variable {α:Type} {d:Kd α} {W:World} {g n:Nat} {S ok:Nat→Prop} {A:Option Addr} {ad:Addr} {xs:List α}
theorem C_not_empty (h:d.C W (some ad) n xs) (hn:0 < n) (hs:0 < d.sz):W.cell? ad≠none:=by
  obtain ⟨ad',he,hc⟩:=h.2.2 hn;injection he with he
  subst he;obtain ⟨c,hcl,_,hcell⟩:=hc 0 _ (List.getElem?_eq_getElem (by rw [h.1];exact hn));have h1:=hcell 0 _ (List.getElem?_eq_getElem (by omega));rw [Nat.zero_mul,Nat.zero_add,Addr.add_zero'] at h1;rw [h1];exact Option.some_ne_none _
theorem C_lt (h:d.C W (some ad) n xs) (hn:0 < n) (hs:0 < d.sz):ad.block < W.heap.size:=by
  cases hc:W.cell? ad with
  | none=>exact absurd hc (C_not_empty h hn hs)
  | some v=>exact World.block_lt_of_cell? W ad hc
end
end Kd
end Go.Proofs.YtmlcdpfcafmmcaaDoor.WW
namespace Go.Proofs.YtmlcdpfcafmmcaaDoor.B
open Go.Lib Go.RowKit WW
theorem tabAt_of {P:Program} {W:World} {name:String} {g:Nat} {zs:List Int} (h:Lib.TabIs P W name .i64 zs) (hg:P.globalNamed name=some g) (hz:0 < zs.length):TabAt g zs W:=by
  refine ⟨lt_of_cell (h.cell hg 0 hz),fun i hi=>?_⟩;rw [h.cell hg i hi,List.getD_eq_getElem?_getD,List.getElem?_eq_getElem hi];rfl
theorem gl_of_laid {W : World} (h : laidMet Tryd.prog [("accounting/days.lengths", Lib.tabData .i64 monthLens), ("accounting/money.powers", Lib.tabData .i64 [1, 10, 100, 1000, 10000])] W) : Gl W :=
  ⟨tabAt_of (Lib.tabIs_of_head (g:=1) (t:=121) (e:=3) (n:=12) (by kernel_rfl) (by kernel_rfl) (by kernel_rfl) Tryd.underlying3 (by kernel_rfl) (by kernel_rfl) h) (by kernel_rfl) (by decide),
   tabAt_of (Lib.tabIs_of_head (g:=0) (t:=85) (e:=3) (n:=5) (by kernel_rfl) (by kernel_rfl) (by kernel_rfl) Tryd.underlying3 (by kernel_rfl) (by kernel_rfl) (laidMet.tail h)) (by kernel_rfl) (by decide)⟩
end Go.Proofs.YtmlcdpfcafmmcaaDoor.B
namespace Go.Proofs.YtmlcdpfcafmmcaaDoor.A
open Go.RowKit B WW WL WM
attribute [local go_sem] max2_int min2_int max_two min_two max_three min_three max_four min_four
theorem k77_mkM (w:World) (base:Nat) (ok:Nat→Prop) (x:S77):k77.M w base ok x [.string x.f0,.int .i64 x.f1]:=⟨[.string x.f0],[.int .i64 x.f1],rfl,rfl,rfl⟩
end Go.Proofs.YtmlcdpfcafmmcaaDoor.A
namespace Go.Proofs.YtmlcdpfcafmmcaaDoor.A
open Go.RowKit B WW WL WM
attribute [local go_sem] max2_int min2_int max_two min_two max_three min_three max_four min_four
set_option maxHeartbeats 8000000
set_option maxRecDepth 100000
theorem lw47_table.calls  (r:List (S77)) (w:World) (h:lw47_table.f =some r) :
  Calls Tryd.prog 21 #[] w fun e w'=>∃ v0_:Value,e=.returned (v0_)∧Kd.R k77 77 w' w.heap.size (fun _=>True) v0_ r∧Below w.heap.size w w':=by
 have hu77:=Tryd.underlying77;have HB:=sd (Below.refl w.heap.size w);have H:=h;clear h;unfold lw47_table.f at H;obtain ⟨y216,hy216⟩:∃ y_:List (S77),y_=(([(⟨(⟨#[69,85,82]⟩:ByteArray),2⟩:S77),(⟨(⟨#[74,80,89]⟩:ByteArray),0⟩:S77)]:List (S77))):=⟨_,rfl⟩
 replace H:(some y216)=some r:=by first | (rw [hy216];with_reducible exact H) | (have H2_:=(Option.bind_some _ _).symm.trans H;rw [hy216];with_reducible exact H2_) | (have H2_:=(Option.bind_some _ _).symm.trans H;with_reducible exact H2_) | with_reducible exact H | (rw [hy216];exact H) | exact H
 have Ny216:=sd hy216;clear hy216;obtain rfl:=Option.some.inj H;go_enter Tryd.func21,Tryd.ntmps21
 go_wp2_with (first | ((with_reducible refine gate_dst (N:=3) rfl ?_);refine Kd.R_lit k77 _ 77 ?hg (N:=3) ?hd (xs:=([(⟨(⟨#[69,85,82]⟩:ByteArray),2⟩:S77),(⟨(⟨#[74,80,89]⟩:ByteArray),0⟩:S77)]:List (S77))) (inner:=[.string (⟨#[69,85,82]⟩:ByteArray),.int .i64 2,.string (⟨#[74,80,89]⟩:ByteArray),.int .i64 0]) (ok:=fun _=>True) (okp:=fun _=>True) ?hr ?hp (fun _ hk=>hk) trivial (Below.refl _ _) (Nat.le_refl _) (by simp) ?_;(case hd=>rfl);(case hg=>rfl);(case hr=>first | (go_simp;done) | (go_simp;rfl));(case hp=>exact (Reps.c2 (show Kd.M k77 _ _ _ (⟨(⟨#[69,85,82]⟩:ByteArray),2⟩:S77) [.string (⟨#[69,85,82]⟩:ByteArray),.int .i64 2] from (k77_mkM _ _ _ (⟨(⟨#[69,85,82]⟩:ByteArray),2⟩:S77) )) (Reps.c2 (show Kd.M k77 _ _ _ (⟨(⟨#[74,80,89]⟩:ByteArray),0⟩:S77) [.string (⟨#[74,80,89]⟩:ByteArray),.int .i64 0] from (k77_mkM _ _ _ (⟨(⟨#[74,80,89]⟩:ByteArray),0⟩:S77) )) (Reps.none _ _))));intro v217 w1 ho2 hb hg_ hnew_;clear hg_ hnew_;(first | rw [← Ny216.out] at ho2 | (simp only [Int.reduceToNat] at ho2;rw [← Ny216.out] at ho2));have HO218:=sd (Kd.R_lower ho2 (below_size zq7));replace HB:=hbm HB hb;clear hb ho2))
 go_ret
 exact ⟨_,zq10,by (with_reducible repeat (first | apply Kd.R_alloc | apply Kd.R_drewN | apply Kd.R_drew));exact HO218.out,zq7⟩
end Go.Proofs.YtmlcdpfcafmmcaaDoor.A
