-- By pack.py, a program of this session's.
import Derived.Test.YtmlcdpfcafmmcaaDoorX54
import Derived.Test.YtmlcdpfcafmmcaaDoorX55
set_option linter.unusedVariables false
set_option linter.unusedSimpArgs false
namespace Go.Proofs.YtmlcdpfcafmmcaaDoor.A
open Go.RowKit B WW WL WM
theorem ref01_Text_end (n m:Int) (s:ByteArray) (hs:s.size≤100):Ev (fun k=>rf01_Text.j1 k n s m false) ⟨(tail01 n s.data.toList).toArray⟩:=by
  refine Ev.step (fun k=>by rw [rf01_Text.j1]) ?_;refine Ev.no (by decide) (Ev.both (fun h=>Ev.yes (by omega) (Ev.is ?_)) (fun h=>Ev.is ?_))
  · exact ba_of (by rw [ba_append,tail01,if_pos h];rfl)
  · exact ba_of (by rw [tail01,if_neg h])
theorem ref01_Text_next (n m:Int) (s:ByteArray) (hs:s.size≤100) (hm:I64 m) {r:ByteArray} {s':ByteArray} (hs':s'.data.toList=UInt8.ofNat (48+m.natAbs % 10) :: s.data.toList)
    (h:Ev (fun k=>rf01_Text.l0 k n s' (Int.tdiv m 10)) r):Ev (fun k=>rf01_Text.j1 k n s m true) r:=by
  have hd:=digit_piece (m.natAbs % 10) (by omega);have hI:I64 (Int.tdiv m 10):=tdiv_i64 hm;have hw:wrap64 (Int.tdiv m 10)=Int.tdiv m 10:=wrap64_in hI
  have hmod:Int.tmod m 10=if m < 0 then -((m.natAbs % 10:Nat):Int) else ((m.natAbs % 10:Nat):Int):=by
    split
    · rename_i h0
      rw [← Int.neg_neg m,Int.neg_tmod,Int.tmod_eq_emod_of_nonneg (by omega)];omega
    · rw [Int.tmod_eq_emod_of_nonneg (by omega)];omega
  refine Ev.step (fun k=>by rw [rf01_Text.j1]) ?_;refine Ev.yes rfl ?_;rw [hmod,hw];obtain ⟨d,hdd⟩:∃ d,d=m.natAbs % 10:=⟨_,rfl⟩
  have hd10:d < 10:=by omega
  rw [← hdd] at hd hs' ⊢;have w2:wrap64 ((d:Int)+1)=((d+1:Nat):Int):=by rw [wrap64_in (by unfold I64;omega)];omega
  have hz:((⟨#[48,49,50,51,52,53,54,55,56,57]⟩:ByteArray).extract d (d+1)).size=1:=by rw [size_eq',hd];rfl
  have es:(⟨#[48,49,50,51,52,53,54,55,56,57]⟩:ByteArray).extract d (d+1)++s=s':=ba_ext (by rw [ba_append,hd,hs'];rfl);by_cases hneg:(if m < 0 then -(d:Int) else (d:Int)) < 0
  · have hval:(if m < 0 then -(d:Int) else (d:Int))=-(d:Int):=by split at hneg <;> rename_i h0 <;> simp only [h0,if_true,if_false] <;> omega
    rw [hval] at hneg ⊢;have w1:wrap64 (-(-(d:Int)))=(d:Int):=by rw [wrap64_in (by unfold I64;omega)];omega
    rw [w1,w2];refine Ev.yes hneg (Ev.yes (by omega) (Ev.yes (by omega) (Ev.yes (by omega) ?_)));rw [Int.toNat_natCast,Int.toNat_natCast,es,hz];exact Ev.yes (by omega) h
  · have hval:(if m < 0 then -(d:Int) else (d:Int))=(d:Int):=by split at hneg <;> rename_i h0 <;> simp only [h0,if_true,if_false] <;> omega
    rw [hval] at hneg ⊢;rw [w2];refine Ev.no hneg (Ev.yes (by omega) (Ev.yes (by omega) (Ev.yes (by omega) ?_)));rw [Int.toNat_natCast,Int.toNat_natCast,es,hz];exact Ev.yes (by omega) h
theorem ref01_Text_loop (n:Int):∀ (u:Nat) (m:Int) (s:ByteArray),m.natAbs=u→I64 m→s.size+Lib.nDigits u≤99→(u≠0∨s.data.toList=[]) →
    Ev (fun k=>rf01_Text.l0 k n s m) ⟨(tail01 n (Lib.decDigits u++s.data.toList)).toArray⟩:=by
  intro u;induction u using Nat.strongRecOn with
  | _ u ih =>
  intro m s hu hm hsz hne;have hpos:=Lib.nDigits_pos u
  have hgo:Ev (fun k=>rf01_Text.j1 k n s m true) ⟨(tail01 n (Lib.decDigits u++s.data.toList)).toArray⟩:=by
    obtain ⟨s',hs'⟩:∃ s':ByteArray,s'.data.toList=UInt8.ofNat (48+m.natAbs % 10) :: s.data.toList:=⟨⟨(UInt8.ofNat (48+m.natAbs % 10) :: s.data.toList).toArray⟩,by simp⟩
    have hsz':s'.size=s.size+1:=by rw [size_eq',hs',List.length_cons,← size_eq']
    refine ref01_Text_next n m s (by omega) hm hs' ?_;by_cases hsmall:u < 10
    ·
      have hz:Int.tdiv m 10=0:=by have:=tdiv_natAbs m;omega
      rw [hz];refine Ev.step (fun k=>by rw [rf01_Text.l0]) ?_;refine Ev.yes rfl ?_;rw [ByteArray.toList_eq,hs',show ((UInt8.ofNat (48+m.natAbs % 10) :: s.data.toList) == ([]:List UInt8))=false from rfl];have:=ref01_Text_end n 0 s' (by omega);rw [hs'] at this;rw [Lib.decDigits_one hsmall,hu,Nat.mod_eq_of_lt hsmall] at *;exact this
    · have hb:=Lib.nDigits_big hsmall
      have:=ih (u / 10) (by omega) (Int.tdiv m 10) s' (by rw [tdiv_natAbs,hu]) (tdiv_i64 hm) (by omega) (.inl (by omega));rw [hs',hu] at this;rw [Lib.decDigits,dif_neg hsmall,List.append_assoc];exact this
  refine Ev.step (fun k=>by rw [rf01_Text.l0]) ?_;refine Ev.both (fun h=>?_) (fun h=>hgo)
  have:s.data.toList=[]:=by
    rcases hne with h1 | h1
    · omega
    · exact h1
  have e:(s.toList == ([]:List UInt8))=true:=by rw [ByteArray.toList_eq,this];rfl
  rw [e];exact hgo
theorem ref01_Text (n:Int) (h:I64 n):Ev (fun k=>rf01_Text.f k n) ⟨(Lib.itoa n).toArray⟩:=by
  have hn:Lib.nDigits n.natAbs≤19:=nDigits_le 18 n.natAbs (by unfold I64 at h;omega);have:=ref01_Text_loop n n.natAbs n (⟨#[]⟩:ByteArray) rfl h (by show 0+_≤99;omega) (.inr rfl);unfold rf01_Text.f
  have e:tail01 n (Lib.decDigits n.natAbs++(⟨#[]⟩:ByteArray).data.toList)=Lib.itoa n:=by
    unfold tail01;by_cases h0:n < 0
    · rw [if_pos h0,itoa_neg' h0];simp
    · rw [if_neg h0,itoa_pos h0];simp
  rw [e] at this;exact this
theorem ref04_Date_loop (K:Nat) (n:Int) (hK:K < 3600) (hn:n≤109572) (ha:first K≤n) (hb:n < first (K+1)):∀ d L:Nat,L+d=K→Ev (fun k=>rf04_Date.l0 k (L:Int) (n - first L)) (((1900+K / 12:Nat):Int),((K % 12+1:Nat):Int),n - first K+1,0)
  | d,L,e=>by
    have hL:=first_le (show L≤K by omega);have h0:=first_nonneg L;have ev:=ref04_Length_ev (L / 12) (L % 12) (Nat.mod_lt _ (by omega))
    have e1:wrap64 (1900+wrap64 (Int.tdiv (L:Int) 12))=((1900+L / 12:Nat):Int):=by
      rw [show Int.tdiv (L:Int) 12=((L / 12:Nat):Int) from rfl];unfold wrap64;omega
    have e2:wrap64 (Int.tmod (L:Int) 12+1)=((L % 12+1:Nat):Int):=by
      rw [show Int.tmod (L:Int) 12=((L % 12:Nat):Int) from rfl];unfold wrap64;omega
    have hl:28≤lenYM (L / 12) (L % 12)∧lenYM (L / 12) (L % 12)≤31:=lenK_in L;refine Ev.step (fun k=>by rw [rf04_Date.l0,e1,e2]) ?_;refine Ev.bind ev ?_
    cases d with
    | zero =>
      have e':L=K:=by omega
      subst e';refine Ev.no ?_ (Ev.is ?_)
      · have:first (L+1)=first L+lenYM (L / 12) (L % 12):=rfl
        omega
      · rw [show wrap64 (n - first L+1)=n - first L+1 by unfold wrap64;omega]
    | succ d =>
      have hs:first (L+1)=first L+lenYM (L / 12) (L % 12):=rfl
      have:=first_le (show L+1≤K by omega);refine Ev.yes (by omega) (Ev.bind ev ?_);rw [show wrap64 ((L:Int)+1)=((L+1:Nat):Int) by unfold wrap64;omega,show wrap64 (n - first L - lenYM (L / 12) (L % 12))=n - first (L+1) by rw [hs];unfold wrap64;omega];exact ref04_Date_loop K n hK hn ha hb d (L+1) (by omega)
theorem ref04_Date_ev (K:Nat) (n:Int) (hK:K < 3600) (hn:n≤109572) (ha:first K≤n) (hb:n < first (K+1)):Ev (fun k=>rf04_Date.f k n) (dateR K n):=by
  have h0:=first_nonneg K;unfold rf04_Date.f;rw [ref04_Is_eq,decide_eq_true ⟨by omega,hn⟩];have h:=ref04_Date_loop K n hK hn ha hb K 0 (by omega);rw [show n - first 0=n from Int.sub_zero n] at h;exact h
end Go.Proofs.YtmlcdpfcafmmcaaDoor.A
namespace Go.Proofs.YtmlcdpfcafmmcaaDoor.A
open Go.RowKit B WW WL WM
theorem ref04_two_ev (u:Nat) (h:u < 100):Ev (fun k=>rf04_two.f k (u:Int)) (oL (digs 2 u)):=by
  unfold rf04_two.f;rw [show Int.tdiv (u:Int) 10=((u / 10:Nat):Int) from rfl,show Int.tmod (u:Int) 10=((u % 10:Nat):Int) from rfl,w_in (x:=((u / 10:Nat):Int)) (by omega)];have a:=ref01_Text ((u / 10:Nat):Int) (by unfold I64;omega);have b:=ref01_Text ((u % 10:Nat):Int) (by unfold I64;omega);rw [itoa_nat,decDigits_small (by omega)] at a b;refine Ev.bind a (Ev.bind b (Ev.yes (by show 1+1≤_;omega) (Ev.is ?_)));show oL [UInt8.ofNat (48+u / 10)]++oL [UInt8.ofNat (48+u % 10)]=oL (digs 2 u)
  rw [oL_append];show _=oL (([]++[UInt8.ofNat (48+u / 10 % 10)])++[UInt8.ofNat (48+u % 10)])
  rw [Nat.mod_eq_of_lt (show u / 10 < 10 by omega)];rfl
theorem ref04_Text_ev (K:Nat) (n:Int) (hK:K < 3600) (hn:n≤109572) (ha:first K≤n) (hb:n < first (K+1)):Ev (fun k=>rf04_Text.f k n) (oL (dtext K n),0):=by
  have hd:=day_small hK ha hb;have s:∀ a b:ByteArray,(a++b).size=a.size+b.size:=fun a b=>ByteArray.size_append
  have h1:(⟨#[45]⟩:ByteArray).size=1:=rfl;have t1:=ref01_Text ((1900+K / 12:Nat):Int) (by unfold I64;omega);rw [itoa_nat,dec_four (by omega) (by omega)] at t1;have t3:=ref04_two_ev (n - first K+1).toNat (by omega);rw [show ((n - first K+1).toNat:Int)=n - first K+1 by omega] at t3;unfold rf04_Text.f;refine Ev.bind (ref04_Date_ev K n hK hn ha hb) (Ev.yes rfl ?_);unfold dateR;dsimp only
  refine Ev.bind t1 ?_;show Ev (fun k=>if (oL (digs 4 (1900+K / 12))).size+1≤_ then _ else none) _
  refine Ev.yes (by rw [oL_size,digs_length];omega) (Ev.bind (ref04_two_ev (K % 12+1) (by omega)) ?_);refine Ev.yes (by show ((oL _)++_).size+_≤_;rw [s,oL_size,oL_size,digs_length,digs_length,h1];omega) (Ev.yes (by show (((oL _)++_)++_).size+_≤_;rw [s,s,oL_size,oL_size,digs_length,digs_length,h1];omega) (Ev.bind t3 ?_));refine Ev.yes (by show ((((oL _)++_)++_)++_).size+_≤_;rw [s,s,s,oL_size,oL_size,oL_size,digs_length,digs_length,digs_length,h1];omega) (Ev.is ?_);rw [← dtext_oL];rfl
theorem ref04_Text_dtx {n:Int} (h:dayB n=true):Ev (fun k=>rf04_Text.f k n) (oL (dtx n),0):=by
  obtain ⟨a,b,c,d⟩:=day_mon h;exact ref04_Text_ev _ n a b c d
theorem r6Quote_l0 (L:List UInt8) (hL:L.length≤1000000) (R:List UInt8):∀ (i:Nat) (acc:List UInt8),L.drop i=R→i≤L.length→acc.length≤2 * i+1 →
    Ev (fun k=>rf06_Quote.l0 k (oL L) (toI acc) (i:Int)) (oL (acc++(escL R++[34])),0):=by
  induction R with
  | nil =>
    intro i acc h hi ha;have:=drop_end h;refine Ev.step (fun k=>by rw [rf06_Quote.l0]) (Ev.no (by rw [oL_size];omega) ?_);rw [toI_len];refine Ev.yes (by omega) (Ev.is ?_);rw [show toI acc++[34]=toI (acc++[34]) from toI_snoc acc 34,strOf_toI];rfl
  | cons c r ih =>
    intro i acc h hi ha;obtain ⟨h1,h2,h3⟩:=drop_at h;refine Ev.step (fun k=>by rw [rf06_Quote.l0]) (Ev.yes (by rw [oL_size];omega) (Ev.yes (by omega) ?_));rw [bt_oL,h2,w_next i (by omega),toI_len]
    have two:(c.toNat=34∨c.toNat=92)→Ev (fun k=>if acc.length < 140737488355328 then ((some (toI acc++[92]:List Int)).bind fun y=>(if y.length < 140737488355328 then (rf06_Quote.l0 k (oL L) (y++[(c.toNat:Int)]) ((i+1:Nat):Int)) else none)) else none) (oL (acc++(escL (c :: r)++[34])),0):=fun hc=>by
      refine Ev.yes (by omega) ?_;rw [show toI acc++[92]=toI (acc++[92]) from toI_snoc acc 92];simp only [Option.bind_some]
      rw [toI_len,toI_snoc];refine Ev.yes (by rw [List.length_append,List.length_singleton];omega) ?_;have:=ih (i+1) (acc++[92]++[c]) h3 (by omega) (by rw [List.length_append,List.length_append,List.length_singleton,List.length_singleton];omega);have e:acc++[92]++[c]++(escL r++[34])=acc++(escL (c :: r)++[34]):=by rw [escL,if_pos hc];simp
      rw [e] at this;exact this
    refine Ev.both (fun q=>two (by omega)) (fun q=>Ev.both (fun q2=>two (by omega)) (fun q2=>Ev.yes (by omega) ?_));rw [toI_snoc];have:=ih (i+1) (acc++[c]) h3 (by omega) (by rw [List.length_append,List.length_singleton];omega);have e:acc++[c]++(escL r++[34])=acc++(escL (c :: r)++[34]):=by rw [escL,if_neg (by omega)];simp
    rw [e] at this;exact this
theorem ref06_Quote_ev (s:ByteArray) (hs:s.size≤1000000):Ev (fun k=>rf06_Quote.f k s) (quoteS s.data.toList):=by
  have hl:s.data.toList.length≤1000000:=by rw [← size_eq'];exact hs
  unfold rf06_Quote.f quoteS;refine Ev.bind (ref06_Plain_at s hs) (Ev.both (fun h=>?_) (fun h=>Ev.is (by rw [if_neg h])));rw [if_pos h];exact r6Quote_l0 s.data.toList hl s.data.toList 0 [34] rfl (Nat.zero_le _) (Nat.le_refl _)
end Go.Proofs.YtmlcdpfcafmmcaaDoor.A
