-- By pack.py, a program of this session's.
import Derived.Test.YtmlcdpfcafmmcaaDoorX37
import Derived.Test.YtmlcdpfcafmmcaaDoorX38
import Derived.Test.YtmlcdpfcafmmcaaDoorX39
import Derived.Test.YtmlcdpfcafmmcaaDoorX40
set_option linter.unusedVariables false
set_option linter.unusedSimpArgs false
namespace Go.Proofs.YtmlcdpfcafmmcaaDoor.A
open Go.RowKit B WW WL WM
theorem oL_tail (l:List UInt8) (a:Nat):(oL l).extract a (oL l).size=oL (l.drop a):=by
  rw [oL_extract,oL_size,List.take_length]
theorem r6follows_eq (L:List UInt8) (i:Nat):rf06_follows.f (oL L) (i:Int)=some (headDig (L.drop i)):=by
  unfold rf06_follows.f;rw [oL_size]
  cases h:L.drop i with
  | nil=>rw [if_neg (by have:=drop_end h;omega)];rfl
  | cons c r =>
    obtain ⟨h1,h2,h3⟩:=drop_at h;rw [if_pos (by omega),if_pos (by omega),bt_oL,h2,r6digit_eq];rfl
theorem r6name_l0 (L:List UInt8) (hL:L.length≤1000000) (R:List UInt8):∀ i:Nat,L.drop i=R→i≤L.length→Ev (fun k=>rf06_name.l0 k (oL L) (i:Int)) ((i+nameN R:Nat):Int):=by
  induction R with
  | nil =>
    intro i h hi;have:=drop_end h;refine Ev.step (fun k=>by rw [rf06_name.l0]) ?_;exact Ev.no (by rw [oL_size];omega) (Ev.is rfl)
  | cons c r ih =>
    intro i h hi;obtain ⟨h1,h2,h3⟩:=drop_at h;refine Ev.step (fun k=>by rw [rf06_name.l0]) (Ev.yes (by rw [oL_size];omega) (Ev.yes (by omega) ?_));rw [bt_oL,h2,r6letter_eq,r6digit_eq,w_next i (by omega)];simp only [Option.bind_some]
    have:=ih (i+1) h3 (by omega);have e:isLet c=true∨isDig c=true→i+nameN (c :: r)=i+1+nameN r:=fun a=>by rw [nameN,if_pos a];omega
    refine Ev.both (fun a=>by rw [e (.inl a)];exact this) (fun a=>Ev.both (fun b=>by rw [e (.inr b)];exact this) (fun b=>Ev.is ?_));rw [nameN,if_neg (fun h=>h.elim a b)];rfl
theorem r6number_l0 (L:List UInt8) (hL:L.length≤1000000) (R:List UInt8):∀ i:Nat,L.drop i=R→i≤L.length→Ev (fun k=>rf06_number.l0 k (oL L) (i:Int)) ((i+numN R:Nat):Int):=by
  induction R with
  | nil =>
    intro i h hi;have:=drop_end h;refine Ev.step (fun k=>by rw [rf06_number.l0]) ?_;exact Ev.no (by rw [oL_size];omega) (Ev.is rfl)
  | cons c r ih =>
    intro i h hi;obtain ⟨h1,h2,h3⟩:=drop_at h;refine Ev.step (fun k=>by rw [rf06_number.l0]) (Ev.yes (by rw [oL_size];omega) (Ev.yes (by omega) ?_));rw [bt_oL,h2,r6letter_eq,r6digit_eq,w_next i (by omega),r6follows_eq,h3];simp only [Option.bind_some]
    have:=ih (i+1) h3 (by omega);have e:isLet c=true∨isDig c=true→i+numN (c :: r)=i+1+numN r:=fun a=>by rw [numN,if_neg (by rw [isLet_pt a];decide),if_pos a];omega
    have p1:isPt c=true→headDig r=true→i+numN (c :: r)=i+1+numN r:=fun a b=>by rw [numN,if_pos a,if_pos b];omega
    have p0:isPt c=true→¬ headDig r=true→(i:Int)=((i+numN (c :: r):Nat):Int):=fun a b=>by rw [numN,if_pos a,if_neg b];rfl
    refine Ev.both (fun a=>by rw [e (.inl a)];exact this) (fun a=>Ev.both (fun b=>by rw [e (.inr b)];exact this) (fun b=>?_));refine Ev.both (fun q=>?_) (fun q=>Ev.both (fun q2=>?_) (fun q2=>Ev.both (fun q3=>?_) (fun q3=>Ev.is ?_)))
    · have p:isPt c=true:=(isPt_iff c).mpr (by omega)
      exact Ev.both (fun x=>by rw [p1 p x];exact this) (fun x=>Ev.is (p0 p x))
    · have p:isPt c=true:=(isPt_iff c).mpr (by omega)
      exact Ev.both (fun x=>by rw [p1 p x];exact this) (fun x=>Ev.is (p0 p x))
    · have p:isPt c=true:=(isPt_iff c).mpr (by omega)
      exact Ev.both (fun x=>by rw [p1 p x];exact this) (fun x=>Ev.is (p0 p x))
    · rw [numN,if_neg (by rw [isPt_iff];omega),if_neg (fun h=>h.elim a b)];rfl
theorem r6number_ev (L:List UInt8) (hL:L.length≤1000000) (i:Nat) (c:UInt8) (r:List UInt8) (h:L.drop i=c :: r):Ev (fun k=>rf06_number.f k (oL L) (i:Int)) ((i+(numN r+1):Nat):Int):=by
  obtain ⟨h1,h2,h3⟩:=drop_at h;unfold rf06_number.f;have:=r6number_l0 L hL r (i+1) h3 (by omega);rw [show i+(numN r+1)=i+1+numN r by omega,w_next i (by omega)];exact this
theorem two_list (c d:UInt8):(([⟨#[60,61]⟩,⟨#[62,61]⟩,⟨#[33,61]⟩,⟨#[46,46]⟩]:List ByteArray).any fun x=>x.toList == [c,d])=twoSg c d:=by
  unfold twoSg;simp only [List.any_cons,List.any_nil,Bool.or_false,ByteArray.toList_eq]
  have e:∀ a b:UInt8,(([a,b]:List UInt8) == [c,d])=decide ([c,d]=[a,b]):=fun a b=>by
    rw [Bool.eq_iff_iff,beq_iff_eq,decide_eq_true_iff];exact eq_comm
  rw [← e,← e,← e,← e]
theorem take_one {L:List UInt8} {i:Nat} {c:UInt8} {r:List UInt8} (h:L.drop i=c :: r):((oL L).extract i (i+1)).toList=[c]:=by
  rw [oL_extract,oL_toList,List.drop_take,h,show i+1 - i=1 by omega];rfl
def Wd6 (w:Nat×List UInt8×Nat×Nat×Nat) (i:Nat) (v:Int×ByteArray×Int×Int×Int×Int):Prop :=
  v.2.2.2.2.2=(w.2.2.2.2:Int)∧(w.2.2.2.2≠0→v.2.2.2.2.1=(w.2.2.2.1:Int))∧(w.2.2.2.2=0→v.1=(w.1:Int)∧v.2.1=oL w.2.1∧v.2.2.1=(i:Int)∧v.2.2.2.1=(w.2.2.1:Int))
theorem wd6_g (L:List UInt8) (hL:L.length≤1000000) (i n kind most:Nat) (h:i+n≤L.length) {f:Nat→Option (Int×ByteArray×Int×Int×Int×Int)} (v:Int×ByteArray×Int×Int×Int×Int)
    (hv:v=if most < n then (0,⟨#[]⟩,0,0,(i:Int),9) else ((kind:Int),oL ((L.drop i).take n),(i:Int),((i+n:Nat):Int),0,0)) (hf:Ev f v):∃ v,Wd6 (gS kind (L.drop i) i n most) i v∧Ev f v:=by
  refine ⟨v,?_,hf⟩;subst hv;unfold Wd6 gS;by_cases hm:most < n
  · rw [if_pos hm];dsimp only;rw [if_pos hm,if_pos hm];exact ⟨rfl,fun _=>rfl,fun h=>by omega⟩
  · rw [if_neg hm];dsimp only;rw [if_neg hm,if_neg hm];exact ⟨rfl,fun h=>absurd rfl h,fun _=>⟨rfl,rfl,rfl,rfl⟩⟩
theorem ymS_le (y m:Nat):ymS y m≤31:=by
  unfold ymS;split
  · exact (lenYM_in _ _ (by omega)).2
  · omega
theorem ref04_Length_any (y m:Nat) (h:1900≤y):Ev (fun k=>rf04_Length.f k (y:Int) (m:Int)) (ymS y m):=by
  unfold ymS;by_cases c:1≤m∧m≤12
  · rw [if_pos c]
    have:=ref04_Length_ev (y - 1900) (m - 1) (by omega);rw [show 1900+(y - 1900)=y by omega,show m - 1+1=m by omega] at this;exact this
  · rw [if_neg c]
    unfold rf04_Length.f;have tr:Ev (fun k=>rf04_Length.j0 k (y:Int) (m:Int) true) 0:=Ev.step (fun k=>by rw [rf04_Length.j0]) (Ev.yes rfl (Ev.is rfl));by_cases c1:m < 1
    · exact Ev.yes (by omega) tr
    · refine Ev.no (by omega) ?_
      rw [decide_eq_true (by omega)];exact tr
theorem ref04_first_l0 (K:Nat) (hK:K≤3600):∀ d L:Nat,L+d=K→Ev (fun k=>rf04_first.l0 k (K:Int) (first L) (L:Int)) (first K)
  | d,L,e=>by
    cases d with
    | zero =>
      obtain rfl:L=K:=by omega
      refine Ev.step (fun k=>by rw [rf04_first.l0]) ?_;exact Ev.no (by omega) (Ev.is rfl)
    | succ d =>
      refine Ev.step (fun k=>by rw [rf04_first.l0]) (Ev.yes (by omega) ?_)
      have e1:wrap64 (1900+wrap64 (Int.tdiv (L:Int) 12))=((1900+L / 12:Nat):Int):=by
        rw [show Int.tdiv (L:Int) 12=((L / 12:Nat):Int) from rfl,w_in (x:=((L / 12:Nat):Int)) (by omega),w_in (by omega)];omega
      have e2:wrap64 (Int.tmod (L:Int) 12+1)=((L % 12+1:Nat):Int):=by
        rw [show Int.tmod (L:Int) 12=((L % 12:Nat):Int) from rfl,w_in (by omega)];omega
      rw [e1,e2,w_next L (by omega)];refine Ev.bind (ref04_Length_ev (L / 12) (L % 12) (Nat.mod_lt _ (by omega))) ?_;have h0:=first_nonneg L;have h1:=first_at (show L≤3600 by omega);have hl:=lenK_in L;have hs:first (L+1)=first L+lenYM (L / 12) (L % 12):=rfl
      have hw:wrap64 (first L+lenYM (L / 12) (L % 12))=first (L+1):=by
        have:lenK L=lenYM (L / 12) (L % 12):=rfl;rw [hs];unfold wrap64;omega
      rw [hw];exact ref04_first_l0 K hK d (L+1) (by omega)
theorem ref04_Of_any (y m q:Nat):Ev (fun k=>rf04_Of.f k (y:Int) (m:Int) (q:Int)) (ofS y m q):=by
  unfold ofS;unfold rf04_Of.f;by_cases c1:(y:Int) < 1900
  · rw [if_neg (by omega)];exact Ev.yes c1 (Ev.is rfl)
  refine Ev.no c1 ?_;by_cases c2:(y:Int) > 2199
  · rw [if_neg (by omega)];exact Ev.yes c2 (Ev.is rfl)
  refine Ev.no c2 ?_;by_cases c3:(q:Int) < 1
  · rw [if_neg (by omega)];exact Ev.yes c3 (Ev.is rfl)
  refine Ev.no c3 (Ev.bind (ref04_Length_any y m (by omega)) ?_);by_cases c4:(q:Int) > ymS y m
  · rw [if_neg (by omega)];exact Ev.yes c4 (Ev.is rfl)
  have hm:1≤m∧m≤12:=by
    unfold ymS at c4;by_cases h:1≤m∧m≤12
    · exact h
    · rw [if_neg h] at c4;omega
  rw [if_pos (by omega)];refine Ev.no c4 ?_
  have e:wrap64 (wrap64 (wrap64 (wrap64 ((y:Int) - 1900) * 12)+(m:Int)) - 1)=((12 * (y - 1900)+(m - 1):Nat):Int):=by
    rw [w_in (x:=(y:Int) - 1900) (by omega),w_in (x:=((y:Int) - 1900) * 12) (by omega),w_in (x:=((y:Int) - 1900) * 12+(m:Int)) (by omega),w_in (by omega)];omega
  rw [e];have h0:=first_nonneg (12 * (y - 1900)+(m - 1));have h1:=first_at (show 12 * (y - 1900)+(m - 1)≤3600 by omega);have hle:=ymS_le y m
  have key:Ev (fun k=>rf04_first.f k ((12 * (y - 1900)+(m - 1):Nat):Int)) (first (12 * (y - 1900)+(m - 1))):=by
    have:=ref04_first_l0 (12 * (y - 1900)+(m - 1)) (by omega) _ 0 (Nat.zero_add _);exact this
  refine Ev.bind key (Ev.is ?_);rw [w_in (x:=first (12 * (y - 1900)+(m - 1))+(q:Int)) (by omega),w_in (by omega)];congr 1;omega
theorem ref04_value_l0 (L:List UInt8) (hL:L.length≤10) (hd:L.all isDig=true) (R:List UInt8):∀ P:List UInt8,P++R=L →
    Ev (fun k=>rf04_value.l0 k (oL L) (dval P:Int) (P.length:Int)) (dval L:Int):=by
  induction R with
  | nil =>
    intro P h;rw [List.append_nil] at h;subst h;refine Ev.step (fun k=>by rw [rf04_value.l0]) ?_;exact Ev.no (by rw [oL_size];omega) (Ev.is rfl)
  | cons c r ih =>
    intro P h;have hl:P.length+(r.length+1)=L.length:=by rw [← h,List.length_append,List.length_cons]
    have hg:L.getD P.length 0=c:=by rw [← h,List.getD_eq_getElem?_getD,List.getElem?_append_right (Nat.le_refl _),Nat.sub_self];rfl
    have hall:=hd;rw [← h,List.all_append,List.all_cons,Bool.and_eq_true,Bool.and_eq_true] at hall;refine Ev.step (fun k=>by rw [rf04_value.l0]) (Ev.yes (by rw [oL_size];omega) (Ev.yes (by omega) ?_));rw [bt_oL,hg,w_next P.length (by omega),dig_byte hall.2.1];have dr:=(isDig_range c).mp hall.2.1;have hb:=dval_bound P hall.1;have:=pow_ten_le (show P.length≤10 by omega)
    have e:wrap64 (wrap64 ((dval P:Int) * 10)+((c.toNat - 48:Nat):Int))=(dval (P++[c]):Int):=by
      rw [dval_snoc,w_in (x:=(dval P:Int) * 10) (by omega),w_in (by omega)];omega
    rw [e];have key:=ih (P++[c]) (by rw [List.append_assoc];exact h);rw [List.length_append,List.length_singleton] at key;exact key
theorem ref04_value_ev (L:List UInt8) (hL:L.length≤10) (hd:L.all isDig=true):Ev (fun k=>rf04_value.f k (oL L)) (dval L:Int):=by
  unfold rf04_value.f;exact ref04_value_l0 L hL hd L [] rfl
def kB (k:Int):UInt8:=if k=1 then 99 else if k=2 then 110 else 116
theorem ref47_shaped_l0 (ws:List S93) (ks:List Int) (hl:ws.length=ks.length+1) (hk:ks.length≤10) (hk3:∀ x∈ks,x=1∨x=2∨x=3) (R:List Int):∀ i:Nat,ks.drop i=R→Ev (fun k=>rf47_shaped.l0 k ws (oL (ks.map kB)) (i:Int)) (kindsS R (ws.drop (i+1))):=by
  induction R with
  | nil =>
    intro i h;have:=List.drop_eq_nil_iff.mp h;refine Ev.step (fun k=>by rw [rf47_shaped.l0]) ?_;exact Ev.no (by rw [oL_size,List.length_map];omega) (Ev.is rfl)
  | cons kd r ih =>
    intro i h;obtain ⟨h1,h2,h3⟩:=rdI_at h;obtain ⟨w,hw⟩:∃ w,ws.drop (i+1)=w :: ws.drop (i+1+1):=⟨_,List.drop_eq_getElem_cons (by omega)⟩
    obtain ⟨w1,w2,w3⟩:=rdW_at hw;have hm:kd=1∨kd=2∨kd=3:=hk3 kd (List.mem_of_mem_drop (i:=i) (by rw [h];exact List.mem_cons_self))
    have hb:(ks.map kB).getD i 0=kB kd:=by
      rw [List.getD_eq_getElem?_getD,List.getElem?_map]
      have:ks[i]?=some kd:=by
        have:=List.getElem?_drop (xs:=ks) (i:=i) (j:=0);rw [h] at this;exact this.symm
      rw [this];rfl
    refine Ev.step (fun k=>by rw [rf47_shaped.l0]) (Ev.yes (by rw [oL_size,List.length_map];omega) ?_);rw [w_next i (by omega),w2,bt_oL,hb,hw,kinds_cons];refine Ev.yes (by omega) (Ev.yes (by omega) (Ev.yes (by omega) ?_));have go:=ih (i+1) h3;rcases hm with rfl | rfl | rfl
    · rw [show ((kB 1).toNat:Int)=99 from rfl]
      refine Ev.yes rfl (Ev.both (fun e=>Ev.no (by decide) (Ev.no (by decide) ?_)) (fun e=>Ev.both (fun f=>Ev.no (by decide) (Ev.no (by decide) ?_)) (fun f=>Ev.is ?_)))
      · rw [show kOk 1 w.f0=true from decide_eq_true (Or.inl e),Bool.true_and];exact go
      · rw [show kOk 1 w.f0=true from decide_eq_true (Or.inr ⟨rfl,f⟩),Bool.true_and];exact go
      · rw [show kOk 1 w.f0=false from decide_eq_false (fun x=>x.elim e (fun y=>f y.2)),Bool.false_and]
    · rw [show ((kB 2).toNat:Int)=110 from rfl]
      refine Ev.no (by decide) (Ev.yes rfl (Ev.both (fun e=>Ev.no (by decide) ?_) (fun e=>Ev.is ?_)))
      · rw [show kOk 2 w.f0=true from decide_eq_true (Or.inl e),Bool.true_and];exact go
      · rw [show kOk 2 w.f0=false from decide_eq_false (fun x=>x.elim e (fun y=>absurd y.1 (by decide))),Bool.false_and]
    · rw [show ((kB 3).toNat:Int)=116 from rfl]
      refine Ev.no (by decide) (Ev.no (by decide) (Ev.yes rfl (Ev.both (fun e=>?_) (fun e=>Ev.is ?_))))
      · rw [show kOk 3 w.f0=true from decide_eq_true (Or.inl e),Bool.true_and];exact go
      · rw [show kOk 3 w.f0=false from decide_eq_false (fun x=>x.elim e (fun y=>absurd y.1 (by decide))),Bool.false_and]
theorem ref47_shaped_ev (ws:List S93) (kw:List UInt8) (ks:List Int) (h0:0 < ws.length) (h4:ws.length≤400) (hk:ks.length≤10) (hk3:∀ x∈ks,x=1∨x=2∨x=3):Ev (fun k=>rf47_shaped.f k ws (oL kw) (oL (ks.map kB))) (shapedS ws kw ks):=by
  have tt:Ev (fun k=>rf47_shaped.j0 k ws (oL (ks.map kB)) true) false:=Ev.step (fun k=>by rw [rf47_shaped.j0]) (Ev.yes rfl (Ev.is rfl));unfold rf47_shaped.f;rw [oL_size,List.length_map,w_next ks.length (by omega)];refine Ev.both (fun g=>Ev.yes (by omega) (Ev.both (fun e=>?_) (fun e=>?_))) (fun g=>?_)
  · by_cases f:(rd_T93 ws 0).f1.data.toList=kw
    · rw [show ((rd_T93 ws 0).f1.toList != (oL kw).toList)=false from by rw [bne_eq_false_iff_eq];exact (toList_is _ _).mpr f,shapedS_yes ⟨e,f,by omega⟩]
      refine Ev.step (fun k=>by rw [rf47_shaped.j0]) ?_;exact Ev.no (by decide) (ref47_shaped_l0 ws ks (by omega) hk hk3 ks 0 rfl)
    · rw [show ((rd_T93 ws 0).f1.toList != (oL kw).toList)=true from by rw [bne_iff_ne];exact fun x=>f ((toList_is _ _).mp x),shapedS_no (fun x=>f x.2.1)]
      exact tt
  · rw [shapedS_no (fun x=>e x.1)];exact tt
  · rw [shapedS_no (fun x=>g (by omega))];exact tt
theorem ref47_divide_l0 (L:List UInt8) (hL:L.length≤900000) (R:List UInt8):∀ (i a:Nat) (xs:List (List UInt8)),L.drop i=R→a≤i→i≤L.length→xs.length≤i →
    Ev (fun k=>rf47_divide.l0 k (oL L) (xs.map oL) (a:Int) (i:Int)) ((xs++splL R ((L.take i).drop a)).map oL):=by
  induction R with
  | nil =>
    intro i a xs h ha hi hx;have:=drop_end h;refine Ev.step (fun k=>by rw [rf47_divide.l0]) (Ev.no (by rw [oL_size];omega) ?_);rw [splL,oL_size,Int.toNat_natCast];refine Ev.both (fun e=>Ev.yes (by omega) (Ev.yes (by omega) (Ev.yes (by rw [List.length_map];omega) (Ev.is ?_)))) (fun e=>Ev.is ?_)
    · rw [if_neg (take_drop_ne (by omega) hi),← map_snoc,oL_extract,List.take_of_length_le (Nat.le_refl _),take_drop_end (by omega)]
    · rw [if_pos (take_drop_nil (by omega)),List.append_nil]
  | cons c r ih =>
    intro i a xs h ha hi hx;obtain ⟨h1,h2,h3⟩:=drop_at h;refine Ev.step (fun k=>by rw [rf47_divide.l0]) (Ev.yes (by rw [oL_size];omega) (Ev.yes (by omega) ?_));rw [bt_oL,h2,splL,Int.toNat_natCast,Int.toNat_natCast,w_next i (by omega)];refine Ev.both (fun e=>Ev.yes (by omega) (Ev.yes (by omega) (Ev.yes (by rw [oL_size];omega) (Ev.yes (by rw [List.length_map];omega) ?_)))) (fun e=>?_)
    · rw [if_pos (show c.toNat=10 by omega),oL_extract,map_snoc]
      have:=ih (i+1) (i+1) (xs++[(L.take i).drop a]) h3 (Nat.le_refl _) (by omega) (by rw [List.length_append,List.length_singleton];omega);rw [take_drop_self,List.append_assoc] at this;exact this
    · rw [if_neg (show ¬ c.toNat=10 by omega)]
      have:=ih (i+1) a xs h3 (by omega) (by omega) (by omega);rw [take_drop_next h ha] at this;exact this
theorem ref47_divide_ev (t:List UInt8) (ht:t.length≤900000):Ev (fun k=>rf47_divide.f k (oL t)) ((divL t).map oL):=by
  unfold rf47_divide.f;exact ref47_divide_l0 t ht t 0 0 [] rfl (Nat.le_refl _) (Nat.zero_le _) (Nat.le_refl _)
end Go.Proofs.YtmlcdpfcafmmcaaDoor.A
namespace Go.Proofs.YtmlcdpfcafmmcaaDoor.A
open Go.RowKit B WW WL WM
theorem ref07_Parse_j4_bad (w r sg:ByteArray):Ev (fun k=>rf07_Parse.j4 k w r sg true) (0,5) :=
  Ev.step (fun k=>by rw [rf07_Parse.j4]) (Ev.yes rfl (Ev.const rfl))
end Go.Proofs.YtmlcdpfcafmmcaaDoor.A
