-- By pack.py, a program of this session's.
import Derived.Test.YtmlcdpfcafmmcaaDoorX14
import Derived.Test.YtmlcdpfcafmmcaaDoorX19
import Derived.Test.YtmlcdpfcafmmcaaDoorX27
set_option linter.unusedVariables false
set_option linter.unusedSimpArgs false
namespace Go.Proofs.YtmlcdpfcafmmcaaDoor.A
open Go.RowKit B WW WL WM
theorem oL_append (l m:List UInt8):oL l++oL m=oL (l++m):=by
  apply ba_ext;rw [ByteArray.data_append,Array.toList_append];rfl
theorem day_small {K:Nat} {n:Int} (hK:K < 3600) (ha:first K≤n) (hb:n < first (K+1)):1≤n - first K+1∧n - first K+1≤31:=by
  have:=lenK_in K;have hs:first (K+1)=first K+lenK K:=rfl
  omega
def monIx:Nat→Int→Nat
  | 0,_=>0
  | N+1,n=>if n < first N then monIx N n else N
theorem monIx_is (N:Nat) (n:Int) (h0:0≤n) (h:n < first N):monIx N n < N∧first (monIx N n)≤n∧n < first (monIx N n+1):=by
  induction N with
  | zero=>exact absurd h (by show ¬ n < 0;omega)
  | succ N ih =>
    unfold monIx;by_cases e:n < first N
    · rw [if_pos e]
      obtain ⟨a,b⟩:=ih e;exact ⟨by omega,b⟩
    · rw [if_neg e]
      exact ⟨by omega,by omega,h⟩
theorem day_mon {n:Int} (h:dayB n=true):monIx 3600 n < 3600∧n≤109572∧first (monIx 3600 n)≤n∧n < first (monIx 3600 n+1):=by
  unfold dayB at h;rw [decide_eq_true_iff] at h;obtain ⟨a,b,c⟩:=monIx_is 3600 n h.1 (by rw [first_end];omega);exact ⟨a,h.2,b,c⟩
def escL:List UInt8→List UInt8
  | []=>[]
  | c :: r=>if c.toNat=34∨c.toNat=92 then 92 :: c :: escL r else c :: escL r
def quoL (l:List UInt8):List UInt8:=34 :: (escL l++[34])
def quoteS (l:List UInt8):ByteArray×Int:=if plainW l=true then (oL (quoL l),0) else (⟨#[]⟩,5)
theorem escL_len (l:List UInt8):(escL l).length≤2 * l.length:=by
  induction l with
  | nil=>exact Nat.le_refl 0
  | cons c r ih=>rw [escL];split <;> simp only [List.length_cons] <;> omega
theorem quoteS_size (l:List UInt8):(quoteS l).1.size≤122:=by
  unfold quoteS;split
  · rename_i h
    unfold plainW at h;rw [Bool.and_eq_true,decide_eq_true_iff] at h;have:=escL_len l;show (oL (quoL l)).size≤122
    rw [oL_size,quoL,List.length_cons,List.length_append,List.length_singleton];omega
  · exact Nat.zero_le _
theorem words_Quote_l0 (L:List UInt8) (hL:L.length≤1000000) (R:List UInt8):∀ (i:Nat) (acc:List UInt8),L.drop i=R→i≤L.length→acc.length≤2 * i+1 →
    Ev (fun k=>words_Quote.l0 k (oL L) (toI acc) (L.length:Int) (i:Int)) (oL (acc++(escL R++[34])),0):=by
  induction R with
  | nil =>
    intro i acc h hi ha;have:=drop_end h;refine Ev.step (fun k=>by rw [words_Quote.l0]) (Ev.no (by omega) ?_);rw [toI_len];refine Ev.yes (by omega) (Ev.is ?_);rw [show toI acc++[34]=toI (acc++[34]) from toI_snoc acc 34,strOf_toI];rfl
  | cons c r ih =>
    intro i acc h hi ha;obtain ⟨h1,h2,h3⟩:=drop_at h;refine Ev.step (fun k=>by rw [words_Quote.l0]) (Ev.yes (by omega) (Ev.yes (by omega) (Ev.yes (by rw [oL_size];omega) ?_)));rw [bt_oL,h2,w_next i (by omega),toI_len]
    have two:(c.toNat=34∨c.toNat=92)→Ev (fun k=>if acc.length < 140737488355328 then ((some (toI acc++[92]:List Int)).bind fun y=>(if y.length < 140737488355328 then (words_Quote.l0 k (oL L) (y++[(c.toNat:Int)]) (L.length:Int) ((i+1:Nat):Int)) else none)) else none) (oL (acc++(escL (c :: r)++[34])),0):=fun hc=>by
      refine Ev.yes (by omega) ?_;rw [show toI acc++[92]=toI (acc++[92]) from toI_snoc acc 92];simp only [Option.bind_some]
      rw [toI_len,toI_snoc];refine Ev.yes (by rw [List.length_append,List.length_singleton];omega) ?_;have:=ih (i+1) (acc++[92]++[c]) h3 (by omega) (by rw [List.length_append,List.length_append,List.length_singleton,List.length_singleton];omega);have e:acc++[92]++[c]++(escL r++[34])=acc++(escL (c :: r)++[34]):=by rw [escL,if_pos hc];simp
      rw [e] at this;exact this
    refine Ev.both (fun q=>two (by omega)) (fun q=>Ev.both (fun q2=>two (by omega)) (fun q2=>Ev.yes (by omega) ?_));rw [toI_snoc];have:=ih (i+1) (acc++[c]) h3 (by omega) (by rw [List.length_append,List.length_singleton];omega);have e:acc++[c]++(escL r++[34])=acc++(escL (c :: r)++[34]):=by rw [escL,if_neg (by omega)];simp
    rw [e] at this;exact this
theorem words_Quote_ev (s:ByteArray) (hs:s.size≤1000000):Ev (fun k=>words_Quote.f k s) (quoteS s.data.toList):=by
  have hl:s.data.toList.length≤1000000:=by rw [← size_eq'];exact hs
  unfold words_Quote.f quoteS;rw [words_Plain_at s hs];simp only [Option.bind_some]
  refine Ev.both (fun h=>?_) (fun h=>Ev.is (by rw [if_neg h]));rw [if_pos h];have:=words_Quote_l0 s.data.toList hl s.data.toList 0 [34] rfl (Nat.zero_le _) (Nat.le_refl _);rw [← size_eq'] at this;exact this
theorem head_len (acc cur nt om:ByteArray):(stmt_Text.head acc cur nt om).size=19+acc.size+cur.size+nt.size+om.size:=by
  unfold stmt_Text.head;simp only [ByteArray.size_append]
  show 10+acc.size+1+cur.size+1+nt.size+6+om.size+1=_
  omega
theorem line_len (dt am q1 q2:ByteArray):(stmt_Text.line dt am q1 q2).size=9+dt.size+am.size+q1.size+q2.size:=by
  unfold stmt_Text.line;simp only [ByteArray.size_append]
  show 5+dt.size+1+am.size+1+q1.size+1+q2.size+1=_
  omega
theorem lineS_day {l:S44} {last:Int} (h:lineS l last=0):dayB l.f0=true:=by
  unfold lineS at h;split at h
  · rename_i d;exact d
  · exact absurd h (by decide)
theorem checkL_lines (cl:Int):∀ (R:List S44) (last n:Int),checkL cl R last n=0→∀ x∈R,∃ l,lineS x l=0:=by
  intro R;induction R with
  | nil=>intro last n h x hx;cases hx
  | cons y r ih =>
    intro last n h;rw [checkL] at h;split at h
    · rename_i e
      intro x hx;rcases List.mem_cons.mp hx with rfl | hx
      · exact ⟨last,e⟩
      · exact ih _ _ h x hx
    · rename_i e;exact absurd h e
theorem checkS_ok {acc cur:ByteArray} {no op cl:Int} {ls:List S44} (h:checkS acc cur no op cl ls=0):codeW acc.data.toList=true∧codeL cur.data.toList=true∧(1≤no∧no≤4000)∧(inS op 1000000000000000=true∧inS cl 1000000000000000=true)∧ls.length≤200∧checkL cl ls 0 op=0:=by
  unfold checkS at h;split at h
  · rename_i h1
    split at h
    · rename_i h2
      split at h
      · rename_i h3
        split at h
        · rename_i h4
          split at h
          · exact absurd h (by decide)
          · exact ⟨h1,h2,h3,h4,by omega,h⟩
        · exact absurd h (by decide)
      · exact absurd h (by decide)
    · exact absurd h (by decide)
  · exact absurd h (by decide)
end Go.Proofs.YtmlcdpfcafmmcaaDoor.A
namespace Go.Proofs.YtmlcdpfcafmmcaaDoor.A
open Go.RowKit B WW WL WM
theorem nDigits_le:∀ (k u:Nat),u < 10 ^ (k+1)→Lib.nDigits u≤k+1
  | 0,u,h=>by rw [Lib.nDigits_small (by simpa using h)];exact Nat.le_refl _
  | k+1,u,h=>by
    by_cases hu:u < 10
    · rw [Lib.nDigits_small hu];omega
    · rw [Lib.nDigits_big hu]
      have:=nDigits_le k (u / 10) (by rw [Nat.pow_succ] at h;omega);omega
theorem dval_snoc_digit (l:List UInt8) (d:Nat) (h:d < 10):dval (l++[UInt8.ofNat (48+d)])=10 * dval l+d:=by
  rw [dval_snoc];have:(UInt8.ofNat (48+d)).toNat=48+d:=by rw [UInt8.toNat_ofNat'];omega
  omega
theorem isDig_ofNat (d:Nat) (h:d < 10):isDig (UInt8.ofNat (48+d))=true:=by
  rw [isDig_iff,UInt8.toNat_ofNat'];omega
theorem itoa_size (n:Int) (h:I64 n):(⟨(Lib.itoa n).toArray⟩:ByteArray).size≤20:=by
  have h2:Lib.nDigits n.natAbs≤19:=nDigits_le 18 n.natAbs (by unfold I64 at h;omega);rw [size_eq'];show (Lib.itoa n).length≤20
  by_cases h0:n < 0
  · rw [itoa_neg' h0,List.length_cons,Lib.decDigits_length];omega
  · rw [itoa_pos h0,Lib.decDigits_length];omega
theorem num_Text_at (n:Int) (h:I64 n):num_Text.f n=some ⟨(Lib.itoa n).toArray⟩:=by
  unfold num_Text.f;rw [if_pos h]
theorem farB_not {a:Int} (h:farB a≠true):-1000000000000000≤a∧a≤1000000000000000:=by
  rw [Ne,farB_iff] at h;omega
def digs:Nat→Nat→List UInt8
  | 0,_=>[]
  | d+1,u=>digs d (u / 10)++[UInt8.ofNat (48+u % 10)]
theorem digs_length:∀ d u,(digs d u).length=d
  | 0,_=>rfl
  | d+1,u=>by rw [digs,List.length_append,digs_length d];rfl
theorem decDigits_small {u:Nat} (h:u < 10):Lib.decDigits u=[UInt8.ofNat (48+u)]:=Lib.decDigits_one h
theorem decDigits_big {u:Nat} (h:¬ u < 10):Lib.decDigits u=Lib.decDigits (u / 10)++[UInt8.ofNat (48+u % 10)]:=by rw [Lib.decDigits,dif_neg h]
theorem dec_one:∀ d u,Lib.decDigits (10 ^ d+u % 10 ^ d)=49 :: digs d u
  | 0,u=>by rw [Nat.pow_zero,Nat.mod_one];exact decDigits_small (by decide)
  | d+1,u=>by
    have hp:0 < 10 ^ d:=Nat.pow_pos (by decide)
    have h1:(10 ^ (d+1)+u % 10 ^ (d+1)) / 10=10 ^ d+(u / 10) % 10 ^ d:=by
      rw [Nat.pow_succ,Nat.mul_comm (10 ^ d) 10,Nat.mod_mul,Nat.add_comm (u % 10),← Nat.add_assoc,← Nat.mul_add,Nat.mul_add_div (by decide)];have:u % 10 / 10=0:=Nat.div_eq_of_lt (Nat.mod_lt _ (by decide));omega
    have h2:(10 ^ (d+1)+u % 10 ^ (d+1)) % 10=u % 10:=by
      rw [Nat.pow_succ,Nat.mul_comm (10 ^ d) 10,Nat.mod_mul];omega
    rw [decDigits_big (by rw [Nat.pow_succ];omega),h1,h2,dec_one d (u / 10),digs];rfl
def textL (a:Int) (d:Nat):List UInt8:=(if a < 0 then [45] else [])++(Lib.decDigits (a.natAbs / 10 ^ d)++(if d=0 then [] else 46 :: digs d a.natAbs))
theorem itoa_nat (u:Nat):Lib.itoa (u:Int)=Lib.decDigits u:=by rw [itoa_pos (by omega)];rfl
theorem textB_L (a d:Int) (h0:0≤d):(textB (if a < 0 then ⟨#[45]⟩ else ⟨#[]⟩) a.natAbs d).data.toList=textL a d.toNat:=by
  unfold textB textL itB;rw [itoa_nat,itoa_nat,dec_one];have e1:(if a < 0 then (⟨#[45]⟩:ByteArray) else ⟨#[]⟩).data.toList=if a < 0 then [45] else []:=by split <;> rfl
  obtain ⟨D,rfl⟩:∃ D:Nat,d=D:=⟨d.toNat,by omega⟩
  rw [Int.toNat_natCast];generalize (if a < 0 then (⟨#[45]⟩:ByteArray) else ⟨#[]⟩)=sg at *;generalize (if a < 0 then [45] else [])=sl at *;by_cases hd:D=0
  · rw [if_pos (by omega),if_pos hd,ba_append,e1];simp
  · rw [if_neg (by omega),if_neg hd,ba_append,ba_append,ba_append,e1,Lib.extract_to_end]
    simp
theorem textS_eq (a d:Int):textS a d=if fitsB d=false then (⟨#[]⟩,2) else if farB a=true then (⟨#[]⟩,4) else (⟨(textL a d.toNat).toArray⟩,0):=by
  unfold textS;by_cases h1:fitsB d=false
  · rw [if_pos h1,if_pos h1]
  rw [if_neg h1,if_neg h1];by_cases h2:farB a=true
  · rw [if_pos h2,if_pos h2]
  rw [if_neg h2,if_neg h2];have:=(fitsB_iff d).mp (by simpa using h1);rw [ba_of (textB_L a d this.1)]
end Go.Proofs.YtmlcdpfcafmmcaaDoor.A
namespace Go.Proofs.YtmlcdpfcafmmcaaDoor.A
open Go.RowKit B WW WL WM
def dtext (K:Nat) (n:Int):List UInt8:=digs 4 (1900+K / 12)++45 :: (digs 2 (K % 12+1)++45 :: digs 2 (n - first K+1).toNat)
theorem dec_two {u:Nat} (h:10≤u) (h2:u < 100):Lib.decDigits u=digs 2 u:=by
  rw [decDigits_big (by omega),decDigits_small (by omega)];show [UInt8.ofNat (48+u / 10)]++_=([]++[UInt8.ofNat (48+u / 10 % 10)])++[UInt8.ofNat (48+u % 10)]
  rw [Nat.mod_eq_of_lt (show u / 10 < 10 by omega)];rfl
theorem dec_four {u:Nat} (h:1000≤u) (h2:u < 10000):Lib.decDigits u=digs 4 u:=by
  rw [decDigits_big (by omega),decDigits_big (by omega),dec_two (by omega) (by omega)];rfl
theorem days_padded_eq (u:Nat) (h:u < 100):days_padded.f (u:Int)=some (oL (digs 2 u)):=by
  unfold days_padded.f;rw [num_Text_at (u:Int) (by unfold I64;omega),itoa_nat];by_cases c:u < 10
  · rw [if_pos (by omega),decDigits_small c]
    rw [Option.bind_some,if_pos (by show 1+1≤9223372036854775807;omega)];show some (oL [48]++oL [UInt8.ofNat (48+u)])=_
    rw [oL_append];congr 2
    show [(48:UInt8),UInt8.ofNat (48+u)]=([]++[UInt8.ofNat (48+u / 10 % 10)])++[UInt8.ofNat (48+u % 10)]
    rw [show u / 10 % 10=0 by omega,Nat.mod_eq_of_lt c];rfl
  · rw [if_neg (by omega),dec_two (by omega) h];rfl
theorem dtext_oL (K:Nat) (n:Int):((((oL (digs 4 (1900+K / 12))++(⟨#[45]⟩:ByteArray))++oL (digs 2 (K % 12+1)))++(⟨#[45]⟩:ByteArray))++oL (digs 2 (n - first K+1).toNat))=oL (dtext K n):=by
  show ((((oL (digs 4 (1900+K / 12))++oL [45])++oL (digs 2 (K % 12+1)))++oL [45])++oL (digs 2 (n - first K+1).toNat))=_
  rw [oL_append,oL_append,oL_append,oL_append];unfold dtext;rw [List.append_assoc,List.append_assoc,List.append_assoc];rfl
theorem days_Text_ev (K:Nat) (n:Int) (hK:K < 3600) (hn:n≤109572) (ha:first K≤n) (hb:n < first (K+1)):Ev (fun k=>days_Text.f k n) (oL (dtext K n),0):=by
  have hd:=day_small hK ha hb;unfold days_Text.f;refine Ev.bind (days_Date_ev K n hK hn ha hb) (Ev.yes rfl ?_);unfold dateR;dsimp only
  rw [num_Text_at _ (by unfold I64;omega),itoa_nat,dec_four (by omega) (by omega),days_padded_eq _ (by omega),show n - first K+1=((n - first K+1).toNat:Int) by omega,days_padded_eq _ (by omega)];simp only [Option.bind_some]
  rw [show (⟨(digs 4 (1900+K / 12)).toArray⟩:ByteArray)=oL (digs 4 (1900+K / 12)) from rfl];have s:∀ a b:ByteArray,(a++b).size=a.size+b.size:=fun a b=>ByteArray.size_append
  have h1:(⟨#[45]⟩:ByteArray).size=1:=rfl;refine Ev.yes (by rw [oL_size,digs_length];omega) (Ev.yes (by rw [s,oL_size,oL_size,digs_length,digs_length,h1];omega) (Ev.yes (by rw [s,s,oL_size,oL_size,digs_length,digs_length,h1];omega) (Ev.yes (by rw [s,s,s,oL_size,oL_size,oL_size,digs_length,digs_length,digs_length,h1];omega) (Ev.is ?_))));rw [← dtext_oL]
theorem dtext_len (K:Nat) (n:Int):(dtext K n).length=10:=by
  unfold dtext;rw [List.length_append,List.length_cons,List.length_append,List.length_cons,digs_length,digs_length,digs_length]
def dtx (n:Int):List UInt8:=dtext (monIx 3600 n) n
theorem days_Text_dtx {n:Int} (h:dayB n=true):Ev (fun k=>days_Text.f k n) (oL (dtx n),0):=by
  obtain ⟨a,b,c,d⟩:=day_mon h;exact days_Text_ev _ n a b c d
def lineX (d:Int) (l:S44):ByteArray:=stmt_Text.line (oL (dtx l.f0)) (textS l.f1 d).1 (quoteS l.f2.data.toList).1 (quoteS l.f3.data.toList).1
def bodyX (d:Int):List S44→ByteArray→ByteArray
  | [],x=>x
  | l :: r,x=>bodyX d r (x++lineX d l)
def textX (acc cur:ByteArray) (no op cl:Int) (ls:List S44) (d:Int):ByteArray:=stmt_Text.tail (bodyX d ls (stmt_Text.head acc cur (oL (Lib.itoa no)) (textS op d).1)) (textS cl d).1
def stmtTextS (acc cur:ByteArray) (no op cl:Int) (ls:List S44) (cs:List S77):ByteArray×Int :=
  if rtL cs=true then (if checkS acc cur no op cl ls=0 then (if (dgL cs cur).2=true then (textX acc cur no op cl ls (dgL cs cur).1,0) else (⟨#[]⟩,13)) else (⟨#[]⟩,checkS acc cur no op cl ls)) else (⟨#[]⟩,2)
end Go.Proofs.YtmlcdpfcafmmcaaDoor.A
namespace Go.Proofs.YtmlcdpfcafmmcaaDoor.B
open Go.Lib Go.RowKit WW
theorem dval_nil:dval []=0:=rfl
end Go.Proofs.YtmlcdpfcafmmcaaDoor.B
namespace Go.Proofs.YtmlcdpfcafmmcaaDoor.A
open Go.RowKit B WW WL WM
theorem textL_len (a:Int) (D:Nat) (h4:D≤4) (h0:-1000000000000000≤a) (h1:a≤1000000000000000):(textL a D).length≤100:=by
  unfold textL
  have h2:Lib.nDigits (a.natAbs / 10 ^ D)≤19:=nDigits_le 18 _ (by
    have:=Nat.div_le_self a.natAbs (10 ^ D);omega)
  rw [List.length_append,List.length_append,Lib.decDigits_length];have e1:(if a < 0 then [45] else ([]:List UInt8)).length≤1:=by split <;> simp
  have e2:(if D=0 then [] else 46 :: digs D a.natAbs).length≤5:=by
    split
    · simp
    · rw [List.length_cons,digs_length];omega
  omega
end Go.Proofs.YtmlcdpfcafmmcaaDoor.A
namespace Go.Proofs.YtmlcdpfcafmmcaaDoor.A
open Go.RowKit B WW WL WM
theorem textS_size (a d:Int):(textS a d).1.size≤100:=by
  rw [textS_eq];split
  · exact Nat.zero_le _
  split
  · exact Nat.zero_le _
  · rename_i h1 h2
    obtain ⟨a0,a1⟩:=farB_not h2
    have hf:fitsB d=true:=by cases h:fitsB d with
      | true=>rfl
      | false=>exact absurd h h1
    have h4:0≤d∧d≤4:=by unfold fitsB at hf;simp only [Bool.and_eq_true,decide_eq_true_iff] at hf;exact hf
    show (oL (textL a d.toNat)).size≤100
    rw [oL_size];exact textL_len a d.toNat (by omega) a0 a1
theorem lineX_len (d:Int) (l:S44):(lineX d l).size≤400:=by
  unfold lineX;rw [line_len,oL_size,dtx,dtext_len];have:=textS_size l.f1 d;have:=quoteS_size l.f2.data.toList;have:=quoteS_size l.f3.data.toList;omega
theorem stmt_Text_l0 (d cl:Int) (ls:List S44) (hs:Short ls) (hl:ls.length≤200) (R:List S44):(∀ x∈R,dayB x.f0=true)→∀ (i:Nat) (x:ByteArray),ls.drop i=R→i≤ls.length→x.size≤3000000+400 * i →
    Ev (fun k=>stmt_Text.l0 k d cl ls i x) (stmt_Text.tail (bodyX d R x) (textS cl d).1,0):=by
  have ht:=textS_size cl d;induction R with
  | nil =>
    intro hd i x h hi hx;have:=List.drop_eq_nil_iff.mp h;refine Ev.step (fun k=>by rw [stmt_Text.l0]) ?_;exact Ev.no (by omega) (Ev.yes (by omega) (Ev.is rfl))
  | cons y r ih =>
    intro hd i x h hi hx;obtain ⟨hj,hy,hr⟩:=rd44_at h;have hm:y∈ls:=List.mem_of_mem_drop (i:=i) (by rw [h];exact List.mem_cons_self);have hlen:=lineX_len d y;refine Ev.step (fun k=>by rw [stmt_Text.l0]) (Ev.yes (by omega) ?_);rw [hy];refine Ev.bind (days_Text_dtx (hd y List.mem_cons_self)) (Ev.bind (words_Quote_ev _ (hs y hm).1) (Ev.bind (words_Quote_ev _ (hs y hm).2) (Ev.yes ?_ ?_)))
    · show x.size+(lineX d y).size≤_;omega
    · exact ih (fun z hz=>hd z (List.mem_cons_of_mem _ hz)) (i+1) (x++lineX d y) hr (by omega) (by rw [ByteArray.size_append];omega)
theorem stmt_Text_ev (acc cur:ByteArray) (no op cl:Int) (ls:List S44) (cs:List S77) (ha:acc.size≤1000000) (hc:cur.size≤1000000) (hs:Short ls) (hl:ls.length≤1000000) (hcl:cs.length≤60) (hcs:∀ x∈cs,x.f0.size≤140737488351232) :
    Ev (fun k=>stmt_Text.f k acc cur no op cl ls cs) (stmtTextS acc cur no op cl ls cs):=by
  unfold stmt_Text.f stmtTextS;refine Ev.yes (by omega) (Ev.bind (money_Right_ev cs hcl hcs) (Ev.both (fun e=>?_) (fun e=>Ev.is (by rw [if_neg e]))));rw [if_pos e];refine Ev.bind (stmt_Check_ev acc cur no op cl ls ha hc hs) (Ev.both (fun ck=>?_) (fun e=>Ev.is (by rw [if_neg e])));rw [if_pos ck];refine Ev.bind (money_Digits_ev cs cur hcl hcs) (Ev.both (fun e=>?_) (fun e=>Ev.is (by rw [if_neg e])));rw [if_pos e];obtain ⟨c1,c2,c3,c4,c5,c6⟩:=checkS_ok ck;have i1:I64 no:=by unfold I64;omega
  rw [num_Text_at no i1];simp only [Option.bind_some]
  have hn:=itoa_size no i1;have ht:=textS_size op (dgL cs cur).1;have hh:=head_len acc cur (oL (Lib.itoa no)) (textS op (dgL cs cur).1).1;refine Ev.yes ?_ ?_
  · show (stmt_Text.head acc cur (oL (Lib.itoa no)) (textS op (dgL cs cur).1).1).size≤_
    rw [hh];have:(oL (Lib.itoa no)).size≤20:=hn;omega
  · refine stmt_Text_l0 (dgL cs cur).1 cl ls hs c5 ls (fun x hx=>?_) 0 _ rfl (Nat.zero_le _) ?_
    · obtain ⟨l,h⟩:=checkL_lines cl ls 0 op c6 x hx
      exact lineS_day h
    · show (stmt_Text.head acc cur (oL (Lib.itoa no)) (textS op (dgL cs cur).1).1).size≤_
      rw [hh];have:(oL (Lib.itoa no)).size≤20:=hn;omega
end Go.Proofs.YtmlcdpfcafmmcaaDoor.A
namespace Go.Proofs.YtmlcdpfcafmmcaaDoor.A
open Go.RowKit B WW WL WM
theorem decDigits_spec (u:Nat):dval (Lib.decDigits u)=u∧(Lib.decDigits u).all isDig=true∧Lib.decDigits u≠[]∧((Lib.decDigits u).head?=some 48→u=0∧(Lib.decDigits u).length=1):=by
  induction u using Nat.strongRecOn with
  | _ u ih =>
    by_cases h:u < 10
    · rw [Lib.decDigits_one h]
      refine ⟨?_,?_,by simp,?_⟩
      · have:=dval_snoc_digit [] u h
        simpa [dval_nil] using this
      · rw [List.all_cons,isDig_ofNat u h];rfl
      · intro hh
        simp only [List.head?_cons,Option.some_inj] at hh
        have h2:=congrArg UInt8.toNat hh;rw [UInt8.toNat_ofNat'] at h2;have:(48:UInt8).toNat=48:=rfl;refine ⟨by omega,rfl⟩
    · obtain ⟨h1,h2,h3,h4⟩:=ih (u / 10) (by omega)
      rw [Lib.decDigits,dif_neg h];refine ⟨?_,?_,by simp,?_⟩
      · rw [dval_snoc_digit _ _ (by omega),h1];omega
      · rw [List.all_append,h2,List.all_cons,isDig_ofNat (u % 10) (by omega)];rfl
      · intro hh
        cases hl:Lib.decDigits (u / 10) with
        | nil=>exact absurd hl h3
        | cons c r =>
          rw [hl] at hh h4;have:=(h4 hh).1;omega
theorem dec_len_pos (u:Nat):0 < (Lib.decDigits u).length:=by
  have:=(decDigits_spec u).2.2.1;exact List.length_pos_iff.2 this
end Go.Proofs.YtmlcdpfcafmmcaaDoor.A
