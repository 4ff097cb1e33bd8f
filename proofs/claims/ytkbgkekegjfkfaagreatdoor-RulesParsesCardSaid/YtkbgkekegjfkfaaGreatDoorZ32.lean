-- By pack.py, a program of this session's.
import Derived.Test.YtkbgkekegjfkfaaGreatDoorZ27
import Derived.Test.YtkbgkekegjfkfaaGreatDoorZ28
import Derived.Test.YtkbgkekegjfkfaaGreatDoorZ29
set_option linter.unusedVariables false
set_option linter.unusedSimpArgs false
namespace Go.Proofs.YtkbgkekegjfkfaaGreatDoor
namespace A
open Go.RowKit B WW WL WM
theorem signEnd_ev (L:List UInt8) (hL:L.length≤1000000) (i:Nat) (c:UInt8) (r:List UInt8) (h:L.drop i=c :: r):Ev (fun k=>words_signEnd.f k (oL L) (i:Int)) ((i+signN (c :: r):Nat):Int):=by
  obtain ⟨h1,h2,h3⟩:=drop_at h;have hl:=drop_len h;have key:=signEnd_j0 L hL i c r h;unfold words_signEnd.f;rw [show wrap64 ((i:Int)+2)=((i+2:Nat):Int) by unfold wrap64;omega,oL_size]
  cases r with
 |nil=>rw [List.length_singleton] at hl;exact Ev.no (by omega) key
 |cons d r =>
    rw [List.length_cons,List.length_cons] at hl;refine Ev.yes (by omega) (Ev.yes (by omega) (Ev.yes (by omega) ?_));rw [Int.toNat_natCast,Int.toNat_natCast,take_two h];have y:twoSg c d=true→((i+2:Nat):Int)=((i+signN (c :: d :: r):Nat):Int):=fun e=>by rw [signN,if_pos e]
    refine Ev.both (fun e=>Ev.is (y (by unfold twoSg;rw [decide_eq_true e];rfl))) fun n1=>Ev.both (fun e=>Ev.is (y (by unfold twoSg;rw [decide_eq_true e];simp))) fun n2 =>
      Ev.both (fun e=>Ev.is (y (by unfold twoSg;rw [decide_eq_true e];simp))) fun n3=>Ev.both (fun e=>Ev.is (y (by unfold twoSg;rw [decide_eq_true e];simp))) fun n4=>?_
    rw [signN,if_neg (by unfold twoSg;rw [decide_eq_false n1,decide_eq_false n2,decide_eq_false n3,decide_eq_false n4];decide)];exact key
theorem word_h (L:List UInt8) (hL:L.length≤1000000) (i:Nat) (c:UInt8) (r:List UInt8) (h:L.drop i=c :: r) :
    Ev (fun k=>words_word.h k (oL L) (i:Int)) (wordR (if c.toNat=34 then qS i (quoS i r (i+1) []) else wordH (c :: r) i) i):=by
  obtain ⟨h1,h2,h3⟩:=drop_at h;have hl:=drop_len h;unfold words_word.h;rw [bt_oL,h2];refine Ev.both (fun q=>?_) (fun q=>?_)
  · rw [if_pos (by omega)]
    have key:=quoted_l0 L hL i r.length r (i+1) [] (Nat.le_refl _) h3 (by omega) (Nat.zero_le _);rw [← w_next i (by omega)] at key;refine Ev.bind (f:=fun k q=>if q.2.2.2≠0 then some ((3:Int),q.1,(i:Int),q.2.1,q.2.2.1,q.2.2.2) else some ((3:Int),q.1,(i:Int),q.2.1,if 60 < (q.1.size:Int) then (i:Int) else q.2.2.1,if 60 < (q.1.size:Int) then (9:Int) else 0)) key ?_;generalize quoS i r (i+1) []=z;unfold quoR;dsimp only
    refine Ev.both (fun e=>Ev.is ?_) (fun e=>Ev.is ?_)
    · unfold qS wordR;rw [if_neg (show ¬ (z.2.2.2=0) by omega)];rfl
    · unfold qS wordR;rw [if_pos (show z.2.2.2=0 by omega),oL_size]
      by_cases hm:60 < z.1.length
      · rw [if_pos (by omega),if_pos (by omega),if_pos hm,if_pos hm];rfl
      · rw [if_neg (by omega),if_neg (by omega),if_neg hm,if_neg hm];rfl
  · rw [if_neg (by omega)]
    refine Ev.bind (signEnd_ev L hL i c r h) ?_;have:=signN_le c r;rw [List.length_cons] at hl this;unfold wordH;refine Ev.both (fun e=>Ev.is ?_) (fun e=>?_)
    · rw [if_pos (by omega)];unfold wordR;rw [show i+signN (c :: r)=i by omega];rfl
    · rw [if_neg (by omega),← h]
      exact ⟨0,fun _ _=>word_g L i _ 4 60 (by rw [h];omega)⟩
theorem word_ev (L:List UInt8) (hL:L.length≤1000000) (i:Nat) (c:UInt8) (r:List UInt8) (h:L.drop i=c :: r) :
    Ev (fun k=>words_word.f k (oL L) (i:Int)) (wordR (wordS (c :: r) i) i):=by
  obtain ⟨h1,h2,h3⟩:=drop_at h;have hl:=drop_len h;rw [List.length_cons] at hl;have hh:=word_h L hL i c r h;unfold words_word.f;refine Ev.yes ⟨by omega,by rw [oL_size];omega,by rw [oL_size];omega⟩ ?_;rw [bt_oL,h2,letter_eq,digit_eq,show (i:Int)+1=((i+1:Nat):Int) by omega,digitAt_eq,h3];simp only [Option.bind_some]
  rw [wordS_cons]
  have num:Ev (fun k=>(words_numberEnd.f k (oL L) (i:Int)).bind fun e=>words_word.g (oL L) (i:Int) 2 e 60) (wordR (gS 2 (c :: r) i (numN r+1) 60) i):=by
    refine Ev.bind (numberEnd_ev L hL i c r h) ?_;have:=numN_le r;rw [← h];exact ⟨0,fun _ _=>word_g L i _ 2 60 (by omega)⟩
  refine Ev.both (fun a=>?_) (fun a=>Ev.both (fun d=>?_) (fun d=>Ev.both (fun m=>Ev.both (fun b=>?_) (fun b=>?_)) (fun m=>?_)))
  · rw [if_pos a]
    refine Ev.bind (nameEnd_l0 L hL (c :: r) i h (by omega)) ?_;have:=nameN_le (c :: r);rw [List.length_cons] at this;rw [← h] at this ⊢;exact ⟨0,fun _ _=>word_g L i _ 1 12 (by omega)⟩
  · rw [if_neg a,if_pos (.inl d)];exact num
  · rw [if_neg a,if_pos (.inr ⟨by omega,b⟩)];exact num
  · rw [if_neg a,if_neg (fun x=>x.elim d (fun y=>b y.2))];exact hh
  · rw [if_neg a,if_neg (fun x=>x.elim d (fun y=>m (by omega)))];exact hh
theorem Cut_l0 (L:List UInt8) (hL:L.length≤1000000) (f:Nat):∀ (R:List UInt8) (i:Nat) (acc:List S73),R.length≤f→L.drop i=R→i≤L.length→acc.length≤i →
    Ev (fun k=>words_Cut.l0 k (oL L) acc (i:Int)) (outR acc (cutR f R i)):=by
  have fin:∀ (i:Nat) (acc:List S73) (n:Nat),n=L.length→Ev (fun k=>words_Cut.j1 k (oL L) acc (i:Int) false) (outR acc ([],n,0)):=fun i acc n hn=>by
    refine Ev.step (fun k=>by rw [words_Cut.j1]) (Ev.no (by decide) (Ev.is ?_));unfold outR;rw [if_pos rfl,List.append_nil,oL_size,hn]
  have nil:∀ (i:Nat) (acc:List S73),L.drop i=[]→i≤L.length→Ev (fun k=>words_Cut.l0 k (oL L) acc (i:Int)) (outR acc ([],i,0)):=fun i acc h hi=>by
    have:=drop_end h;refine Ev.step (fun k=>by rw [words_Cut.l0]) (Ev.no (by rw [oL_size];omega) ?_);exact fin i acc i (by omega)
  induction f with
 |zero =>
    intro R i acc hn h hi ha;have hR:R=[]:=List.eq_nil_of_length_eq_zero (by omega);subst hR;exact nil i acc h hi
 |succ f ih =>
    intro R i acc hn h hi ha
    cases R with
   |nil=>exact nil i acc h hi
   |cons c r =>
      obtain ⟨h1,h2,h3⟩:=drop_at h;have hl:=drop_len h;rw [List.length_cons] at hl hn;refine Ev.step (fun k=>by rw [words_Cut.l0]) (Ev.yes (by rw [oL_size];omega) (Ev.yes (by omega) ?_));rw [bt_oL,h2,cutR];by_cases h35:c.toNat=35
      · rw [if_pos h35,show ((c.toNat:Int) != 35)=false by rw [h35];rfl]
        exact fin i acc _ (by omega)
      rw [if_neg h35,show ((c.toNat:Int) != 35)=true by rw [bne_iff_ne];omega];refine Ev.step (fun k=>by rw [words_Cut.j1]) (Ev.yes rfl (Ev.yes (by omega) (Ev.yes (by rw [oL_size];omega) ?_)));rw [bt_oL,h2,w_next i (by omega)];refine Ev.both (fun s=>?_) (fun s=>?_)
      · rw [if_pos (by omega)]
        exact ih r (i+1) acc (by omega) h3 (by omega) (by omega)
      · rw [if_neg (by omega)]
        refine Ev.bind (word_ev L hL i c r h) ?_;have he:=wordS_end c r i;generalize wordS (c :: r) i=w at *;unfold wordR;dsimp only
        refine Ev.both (fun e=>Ev.yes (by omega) ?_) (fun e=>Ev.is ?_)
        · have e0:w.2.2.2.2=0:=by omega
          have:=he e0;rw [if_pos e0];have key:=ih ((c :: r).drop (w.2.2.1 - i)) w.2.2.1 (acc++[wdOf w i]) (by rw [List.length_drop,List.length_cons];omega) (by rw [← h,List.drop_drop];congr 1;omega) (by omega) (by rw [List.length_append,List.length_singleton];omega);rw [outR_pre] at key;exact key
        · rw [if_neg (by omega)]
          unfold outR;rw [if_neg (by dsimp only;omega)]
theorem words_Cut_ev (L:List UInt8):Ev (fun k=>words_Cut.f k (oL L)) (cutW L):=by
  unfold words_Cut.f cutW;rw [oL_size];refine Ev.both (fun h=>Ev.is (by rw [if_pos (by omega)])) (fun h=>?_);rw [if_neg (by omega)];exact Cut_l0 L (by omega) L.length L 0 [] (Nat.le_refl _) rfl (Nat.zero_le _) (Nat.le_refl _)
theorem r6Cut_l0 (L:List UInt8) (hL:L.length≤1000000) (f:Nat):∀ (R:List UInt8) (i:Nat) (acc:List S73),R.length≤f→L.drop i=R→i≤L.length→acc.length≤i →
    Ev (fun k=>rf06_Cut.l0 k (oL L) acc (i:Int)) (outR acc (cutR f R i)):=by
  have fin:∀ (i:Nat) (acc:List S73) (n:Nat),n=L.length→Ev (fun k=>rf06_Cut.j1 k (oL L) acc (i:Int) false) (outR acc ([],n,0)):=fun i acc n hn=>by
    refine Ev.step (fun k=>by rw [rf06_Cut.j1]) (Ev.no (by decide) (Ev.is ?_));unfold outR;rw [if_pos rfl,List.append_nil,oL_size,hn]
  have nil:∀ (i:Nat) (acc:List S73),L.drop i=[]→i≤L.length→Ev (fun k=>rf06_Cut.l0 k (oL L) acc (i:Int)) (outR acc ([],i,0)):=fun i acc h hi=>by
    have:=drop_end h;refine Ev.step (fun k=>by rw [rf06_Cut.l0]) (Ev.no (by rw [oL_size];omega) ?_);exact fin i acc i (by omega)
  induction f with
 |zero =>
    intro R i acc hn h hi ha;have hR:R=[]:=List.eq_nil_of_length_eq_zero (by omega);subst hR;exact nil i acc h hi
 |succ f ih =>
    intro R i acc hn h hi ha
    cases R with
   |nil=>exact nil i acc h hi
   |cons c r =>
      obtain ⟨h1,h2,h3⟩:=drop_at h;have hl:=drop_len h;rw [List.length_cons] at hl hn;refine Ev.step (fun k=>by rw [rf06_Cut.l0]) (Ev.yes (by rw [oL_size];omega) (Ev.yes (by omega) ?_));rw [bt_oL,h2,cutR];by_cases h35:c.toNat=35
      · rw [if_pos h35,show ((c.toNat:Int) != 35)=false by rw [h35];rfl]
        exact fin i acc _ (by omega)
      rw [if_neg h35,show ((c.toNat:Int) != 35)=true by rw [bne_iff_ne];omega];refine Ev.step (fun k=>by rw [rf06_Cut.j1]) (Ev.yes rfl (Ev.yes (by omega) (Ev.yes (by rw [oL_size];omega) ?_)));rw [bt_oL,h2,w_next i (by omega)];refine Ev.both (fun s=>?_) (fun s=>?_)
      · rw [if_pos (by omega)]
        exact ih r (i+1) acc (by omega) h3 (by omega) (by omega)
      · rw [if_neg (by omega)]
        obtain ⟨v,hv,hw⟩:=r6word_ev L hL i c r h;refine Ev.bind hw ?_;have he:=wordS_end c r i;generalize wordS (c :: r) i=w at *;obtain ⟨v0,v1,v2⟩:=hv;refine Ev.both (fun e=>Ev.yes (by omega) ?_) (fun e=>Ev.is ?_)
        · have e0:w.2.2.2.2=0:=by omega
          have:=he e0;obtain ⟨x1,x2,x3,x4⟩:=v2 e0;rw [if_pos e0,x1,x2,x3,x4];have key:=ih ((c :: r).drop (w.2.2.1 - i)) w.2.2.1 (acc++[wdOf w i]) (by rw [List.length_drop,List.length_cons];omega) (by rw [← h,List.drop_drop];congr 1;omega) (by omega) (by rw [List.length_append,List.length_singleton];omega);rw [outR_pre] at key;exact key
        · rw [if_neg (by omega),v0,v1 (by omega)]
          unfold outR;rw [if_neg (by dsimp only;omega)]
theorem ref06_Cut_ev (L:List UInt8):Ev (fun k=>rf06_Cut.f k (oL L)) (cutW L):=by
  unfold rf06_Cut.f cutW;rw [oL_size];refine Ev.both (fun h=>Ev.is (by rw [if_pos (by omega)])) (fun h=>?_);rw [if_neg (by omega)];exact r6Cut_l0 L (by omega) L.length L 0 [] (Nat.le_refl _) rfl (Nat.zero_le _) (Nat.le_refl _)
theorem rules_cond_ev (c:S48) (hz:c.f2.size≤1000000):Ev (fun k=>rules_cond.f k c.f0 c.f1 c.f2 c.f3) (condS c):=by
  unfold rules_cond.f;refine Ev.bind (suits_at _ _) (Ev.both (fun e=>?_) (fun e=>Ev.is (by unfold condS;rw [if_neg e])))
  have j:∀ a b:Bool,a=rangB c→b=formB c→Ev (fun k=>rules_cond.j0 k a b) (condS c):=fun a b ha hb=>by
    refine Ev.step (fun k=>by rw [rules_cond.j0]) ?_;unfold condS condR;rw [if_pos e,← ha,← hb];exact Ev.both (fun x=>Ev.both (fun y=>Ev.is (by rw [if_pos x,if_pos y])) (fun y=>Ev.is (by rw [if_pos x,if_neg y]))) (fun x=>Ev.is (by rw [if_neg x]))
  unfold suitB at e;rw [decide_eq_true_iff] at e;refine Ev.both (fun h1=>Ev.both (fun h2=>j _ _ ?_ ?_) (fun h2=>j _ _ ?_ ?_)) (fun h1=>Ev.both (fun h4=>Ev.both (fun h2=>j _ _ ?_ ?_) (fun h2=>j _ _ ?_ ?_)) (fun h4=>Ev.both (fun h2=>?_) (fun h2=>Ev.both (fun h3=>?_) (fun h3=>absurd h3 (by omega)))))
  · unfold rangB;rw [Bool.eq_iff_iff,decide_eq_true_iff,decide_eq_true_iff];omega
  · unfold formB;rw [if_pos (Or.inl h1)]
  · unfold rangB;exact (decide_eq_false (by omega)).symm
  · unfold formB;rw [if_pos (Or.inl h1)]
  · unfold rangB;rw [Bool.eq_iff_iff,decide_eq_true_iff,decide_eq_true_iff];omega
  · unfold formB;rw [if_pos (Or.inr h4)]
  · unfold rangB;exact (decide_eq_false (by omega)).symm
  · unfold formB;rw [if_pos (Or.inr h4)]
  · rw [words_Plain_at _ hz]
    simp only [Option.bind_some]
    refine j _ _ ?_ ?_
    · unfold rangB;rw [Bool.eq_iff_iff,beq_iff_eq,decide_eq_true_iff];omega
    · unfold formB;rw [if_neg (by omega)]
  · rw [words_Plain_at _ hz]
    simp only [Option.bind_some]
    refine j _ _ ?_ ?_
    · unfold rangB;rw [Bool.eq_iff_iff,beq_iff_eq,decide_eq_true_iff];omega
    · unfold formB;rw [if_neg (by omega)]
theorem rules_Check_l0 (cs:List S48) (hs:ShortC cs) (hl:cs.length≤1000) (R:List S48):∀ i:Nat,cs.drop i=R→Ev (fun k=>rules_Check.l0 k cs (cs.length:Int) (i:Int)) (checkC R):=by
  induction R with
 |nil =>
    intro i h;have:=List.drop_eq_nil_iff.mp h;refine Ev.step (fun k=>by rw [rules_Check.l0]) ?_;exact Ev.no (by omega) (Ev.is rfl)
 |cons x r ih =>
    intro i h;obtain ⟨hi,hx,hr⟩:=rd48_at h;have hm:=hs x (List.mem_of_mem_drop (i:=i) (by rw [h];exact List.mem_cons_self));refine Ev.step (fun k=>by rw [rules_Check.l0]) (Ev.yes (by omega) (Ev.yes (by omega) (Ev.yes (by omega) ?_)));rw [hx,w_next i (by omega),checkC];exact Ev.bind (rules_cond_ev x hm) (Ev.both (fun e=>by rw [if_pos e];exact ih (i+1) hr) (fun e=>Ev.is (by rw [if_neg e])))
theorem rules_Check_ev (nm:ByteArray) (cs:List S48) (acc par:ByteArray) (tg:List S50) (h1:nm.size≤1000000) (h2:acc.size≤1000000) (h3:par.size≤1000000) (hc:ShortC cs) (ht:ShortT tg) :
    Ev (fun k=>rules_Check.f k nm cs acc par tg) (checkS nm cs acc par tg):=by
  have j:∀ b:Bool,b=!(nameB nm acc par)→Ev (fun k=>rules_Check.j0 k b nm cs acc par tg) (checkS nm cs acc par tg):=fun b hb=>by
    refine Ev.step (fun k=>by rw [rules_Check.j0]) ?_;unfold checkS
    cases n:nameB nm acc par with
   |false=>rw [hb,n,if_neg (by decide)];exact Ev.yes rfl (Ev.is rfl)
   |true =>
      rw [hb,n,if_pos rfl];refine Ev.no (by decide) (Ev.bind (dims_Right_ev tg ht) (Ev.both (fun e=>?_) (fun e=>Ev.is (by rw [if_neg e]))));rw [if_pos e];refine Ev.both (fun a=>Ev.is (by rw [if_pos (by omega)])) (fun a=>Ev.both (fun b=>Ev.is (by rw [if_neg (by omega),if_pos (by omega)])) (fun b=>?_));rw [if_neg (by omega),if_neg (by omega)];exact rules_Check_l0 cs hc (by omega) cs 0 rfl
  unfold rules_Check.f;rw [words_Code_at _ h1,words_Code_at _ h2,words_Code_at _ h3];simp only [Option.bind_some]
  unfold nameB at j;refine Ev.both (fun a=>Ev.both (fun b=>Ev.both (fun c=>j _ ?_) (fun c=>j _ ?_)) (fun b=>j _ ?_)) (fun a=>j _ ?_)
  · rw [a,b,decide_eq_true c];rfl
  · rw [a,b,decide_eq_false c];simp
  · rw [a,Bool.eq_false_iff.mpr b];rfl
  · rw [Bool.eq_false_iff.mpr a];rfl
theorem rules_Parse_eq (k:Nat) (s:ByteArray):rules_Parse.f k s=(words_Cut.f k s).bind fun c=>if c.2.2=0 then runP k s c.1 pr0 else some (noR c.2.1 c.2.2):=rfl
theorem r48_Parse_eq (k:Nat) (s:ByteArray):rf48_Parse.f k s=(rf06_Cut.f k s).bind fun c=>if c.2.2=0 then (rf48_Reader_rule.f k c.1 0 false).bind (rend k s c.1) else some (noR c.2.1 c.2.2):=rfl
end A

end Go.Proofs.YtkbgkekegjfkfaaGreatDoor