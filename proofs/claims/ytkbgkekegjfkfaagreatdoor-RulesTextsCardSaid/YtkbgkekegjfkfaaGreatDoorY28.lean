-- By pack.py, a program of this session's.
import Derived.Test.YtkbgkekegjfkfaaGreatDoorY24
import Derived.Test.YtkbgkekegjfkfaaGreatDoorY25
set_option linter.unusedVariables false
set_option linter.unusedSimpArgs false
namespace Go.Proofs.YtkbgkekegjfkfaaGreatDoor.A
open Go.RowKit B WW WL WM
theorem word_ev (L:List UInt8) (hL:L.length≤1000000) (i:Nat) (c:UInt8) (r:List UInt8) (h:L.drop i=c :: r) :
    Ev (fun k=>words_word.f k (oL L) (i:Int)) (wordR (wordS (c :: r) i) i):=by
  obtain ⟨h1,h2,h3⟩:=drop_at h;have hl:=drop_len h;rw [List.length_cons] at hl;have hh:=word_h L hL i c r h;unfold words_word.f;refine Ev.yes ⟨by omega,by rw [oL_size];omega,by rw [oL_size];omega⟩ ?_;rw [bt_oL,h2,letter_eq,digit_eq,show (i:Int)+1=((i+1:Nat):Int) by omega,digitAt_eq,h3];simp only [Option.bind_some]
  rw [wordS_cons]
  have num:Ev (fun k=>(words_numberEnd.f k (oL L) (i:Int)).bind fun e=>words_word.g (oL L) (i:Int) 2 e 60) (wordR (gS 2 (c :: r) i (numN r+1) 60) i):=by
    refine Ev.bind (numberEnd_ev L hL i c r h) ?_;have:=numN_le r;rw [← h];exact ⟨0,fun _ _=>word_g L i _ 2 60 (by omega)⟩
  refine Ev.both (fun a=>?_) (fun a=>Ev.both (fun d=>?_) (fun d=>Ev.both (fun m=>Ev.both (fun b=>?_) (fun b=>?_)) (fun m=>?_)))
  · rw [if_pos a]
    refine Ev.bind (nameEnd_l0 L hL (c :: r) i h (by omega)) ?_;have:=nameN_le (c :: r);rw [List.length_cons] at this;rw [← h] at this ⊢;exact ⟨0,fun _ _=>word_g L i _ 1 12 (by omega)⟩
  · rw [if_neg a,if_pos (.inl d)];exact num
  · rw [if_neg a,if_pos (.inr ⟨by omega,b⟩)];exact num
  · rw [if_neg a,if_neg (fun x=>x.elim d (fun y=>b y.2))];exact hh
  · rw [if_neg a,if_neg (fun x=>x.elim d (fun y=>m (by omega)))];exact hh
theorem Cut_l0 (L:List UInt8) (hL:L.length≤1000000) (f:Nat):∀ (R:List UInt8) (i:Nat) (acc:List S73),R.length≤f→L.drop i=R→i≤L.length→acc.length≤i →
    Ev (fun k=>words_Cut.l0 k (oL L) acc (i:Int)) (outR acc (cutR f R i)):=by
  have fin:∀ (i:Nat) (acc:List S73) (n:Nat),n=L.length→Ev (fun k=>words_Cut.j1 k (oL L) acc (i:Int) false) (outR acc ([],n,0)):=fun i acc n hn=>by
    refine Ev.step (fun k=>by rw [words_Cut.j1]) (Ev.no (by decide) (Ev.is ?_));unfold outR;rw [if_pos rfl,List.append_nil,oL_size,hn]
  have nil:∀ (i:Nat) (acc:List S73),L.drop i=[]→i≤L.length→Ev (fun k=>words_Cut.l0 k (oL L) acc (i:Int)) (outR acc ([],i,0)):=fun i acc h hi=>by
    have:=drop_end h;refine Ev.step (fun k=>by rw [words_Cut.l0]) (Ev.no (by rw [oL_size];omega) ?_);exact fin i acc i (by omega)
  induction f with
  | zero =>
    intro R i acc hn h hi ha;have hR:R=[]:=List.eq_nil_of_length_eq_zero (by omega);subst hR;exact nil i acc h hi
  | succ f ih =>
    intro R i acc hn h hi ha
    cases R with
    | nil=>exact nil i acc h hi
    | cons c r =>
      obtain ⟨h1,h2,h3⟩:=drop_at h;have hl:=drop_len h;rw [List.length_cons] at hl hn;refine Ev.step (fun k=>by rw [words_Cut.l0]) (Ev.yes (by rw [oL_size];omega) (Ev.yes (by omega) ?_));rw [bt_oL,h2,cutR];by_cases h35:c.toNat=35
      · rw [if_pos h35,show ((c.toNat:Int) != 35)=false by rw [h35];rfl]
        exact fin i acc _ (by omega)
      rw [if_neg h35,show ((c.toNat:Int) != 35)=true by rw [bne_iff_ne];omega];refine Ev.step (fun k=>by rw [words_Cut.j1]) (Ev.yes rfl (Ev.yes (by omega) (Ev.yes (by rw [oL_size];omega) ?_)));rw [bt_oL,h2,w_next i (by omega)];refine Ev.both (fun s=>?_) (fun s=>?_)
      · rw [if_pos (by omega)]
        exact ih r (i+1) acc (by omega) h3 (by omega) (by omega)
      · rw [if_neg (by omega)]
        refine Ev.bind (word_ev L hL i c r h) ?_;have he:=wordS_end c r i;generalize wordS (c :: r) i=w at *;unfold wordR;dsimp only
        refine Ev.both (fun e=>Ev.yes (by omega) ?_) (fun e=>Ev.is ?_)
        · have e0:w.2.2.2.2=0:=by omega
          have:=he e0;rw [if_pos e0];have key:=ih ((c :: r).drop (w.2.2.1 - i)) w.2.2.1 (acc++[wdOf w i]) (by rw [List.length_drop,List.length_cons];omega) (by rw [← h,List.drop_drop];congr 1;omega) (by omega) (by rw [List.length_append,List.length_singleton];omega);rw [outR_pre] at key;exact key
        · rw [if_neg (by omega)]
          unfold outR;rw [if_neg (by dsimp only;omega)]
theorem words_Cut_ev (L:List UInt8):Ev (fun k=>words_Cut.f k (oL L)) (cutW L):=by
  unfold words_Cut.f cutW;rw [oL_size];refine Ev.both (fun h=>Ev.is (by rw [if_pos (by omega)])) (fun h=>?_);rw [if_neg (by omega)];exact Cut_l0 L (by omega) L.length L 0 [] (Nat.le_refl _) rfl (Nat.zero_le _) (Nat.le_refl _)
theorem days_padded_eq (u:Nat) (h:u < 100):days_padded.f (u:Int)=some (oL (digs 2 u)):=by
  unfold days_padded.f;rw [num_Text_at (u:Int) (by unfold I64;omega),itoa_nat];by_cases c:u < 10
  · rw [if_pos (by omega),decDigits_small c]
    rw [Option.bind_some,if_pos (by show 1+1≤9223372036854775807;omega)];show some (oL [48]++oL [UInt8.ofNat (48+u)])=_
    rw [oL_append];congr 2
    show [(48:UInt8),UInt8.ofNat (48+u)]=([]++[UInt8.ofNat (48+u / 10 % 10)])++[UInt8.ofNat (48+u % 10)]
    rw [show u / 10 % 10=0 by omega,Nat.mod_eq_of_lt c];rfl
  · rw [if_neg (by omega),dec_two (by omega) h];rfl
theorem days_Text_ev (K:Nat) (n:Int) (hK:K < 3600) (hn:n≤109572) (ha:first K≤n) (hb:n < first (K+1)):Ev (fun k=>days_Text.f k n) (oL (dtext K n),0):=by
  have hd:=day_small hK ha hb;unfold days_Text.f;refine Ev.bind (days_Date_ev K n hK hn ha hb) (Ev.yes rfl ?_);unfold dateR;dsimp only
  rw [num_Text_at _ (by unfold I64;omega),itoa_nat,dec_four (by omega) (by omega),days_padded_eq _ (by omega),show n - first K+1=((n - first K+1).toNat:Int) by omega,days_padded_eq _ (by omega)];simp only [Option.bind_some]
  rw [show (⟨(digs 4 (1900+K / 12)).toArray⟩:ByteArray)=oL (digs 4 (1900+K / 12)) from rfl];have s:∀ a b:ByteArray,(a++b).size=a.size+b.size:=fun a b=>ByteArray.size_append
  have h1:(⟨#[45]⟩:ByteArray).size=1:=rfl;refine Ev.yes (by rw [oL_size,digs_length];omega) (Ev.yes (by rw [s,oL_size,oL_size,digs_length,digs_length,h1];omega) (Ev.yes (by rw [s,s,oL_size,oL_size,digs_length,digs_length,h1];omega) (Ev.yes (by rw [s,s,s,oL_size,oL_size,oL_size,digs_length,digs_length,digs_length,h1];omega) (Ev.is ?_))));rw [← dtext_oL]
theorem days_Text_dtx {n:Int} (h:dayB n=true):Ev (fun k=>days_Text.f k n) (oL (dtx n),0):=by
  obtain ⟨a,b,c,d⟩:=day_mon h;exact days_Text_ev _ n a b c d
theorem rules_cond_ev (c:S48) (hz:c.f2.size≤1000000):Ev (fun k=>rules_cond.f k c.f0 c.f1 c.f2 c.f3) (condS c):=by
  unfold rules_cond.f;refine Ev.bind (suits_at _ _) (Ev.both (fun e=>?_) (fun e=>Ev.is (by unfold condS;rw [if_neg e])))
  have j:∀ a b:Bool,a=rangB c→b=formB c→Ev (fun k=>rules_cond.j0 k a b) (condS c):=fun a b ha hb=>by
    refine Ev.step (fun k=>by rw [rules_cond.j0]) ?_;unfold condS condR;rw [if_pos e,← ha,← hb];exact Ev.both (fun x=>Ev.both (fun y=>Ev.is (by rw [if_pos x,if_pos y])) (fun y=>Ev.is (by rw [if_pos x,if_neg y]))) (fun x=>Ev.is (by rw [if_neg x]))
  unfold suitB at e;rw [decide_eq_true_iff] at e;refine Ev.both (fun h1=>Ev.both (fun h2=>j _ _ ?_ ?_) (fun h2=>j _ _ ?_ ?_)) (fun h1=>Ev.both (fun h4=>Ev.both (fun h2=>j _ _ ?_ ?_) (fun h2=>j _ _ ?_ ?_)) (fun h4=>Ev.both (fun h2=>?_) (fun h2=>Ev.both (fun h3=>?_) (fun h3=>absurd h3 (by omega)))))
  · unfold rangB;rw [Bool.eq_iff_iff,decide_eq_true_iff,decide_eq_true_iff];omega
  · unfold formB;rw [if_pos (Or.inl h1)]
  · unfold rangB;exact (decide_eq_false (by omega)).symm
  · unfold formB;rw [if_pos (Or.inl h1)]
  · unfold rangB;rw [Bool.eq_iff_iff,decide_eq_true_iff,decide_eq_true_iff];omega
  · unfold formB;rw [if_pos (Or.inr h4)]
  · unfold rangB;exact (decide_eq_false (by omega)).symm
  · unfold formB;rw [if_pos (Or.inr h4)]
  · rw [words_Plain_at _ hz]
    simp only [Option.bind_some]
    refine j _ _ ?_ ?_
    · unfold rangB;rw [Bool.eq_iff_iff,beq_iff_eq,decide_eq_true_iff];omega
    · unfold formB;rw [if_neg (by omega)]
  · rw [words_Plain_at _ hz]
    simp only [Option.bind_some]
    refine j _ _ ?_ ?_
    · unfold rangB;rw [Bool.eq_iff_iff,beq_iff_eq,decide_eq_true_iff];omega
    · unfold formB;rw [if_neg (by omega)]
theorem dims_Right_l0 (tg:List S50) (hs:ShortT tg) (hl:tg.length≤1000) (R:List S50):∀ i:Nat,tg.drop i=R→Ev (fun k=>dims_Right.l0 k tg tg (tg.length:Int) (i:Int)) (tagL (prevT tg i) R):=by
  induction R with
  | nil =>
    intro i h;have:=List.drop_eq_nil_iff.mp h;refine Ev.step (fun k=>by rw [dims_Right.l0]) ?_;exact Ev.no (by omega) (Ev.is (tagL_nil _).symm)
  | cons x r ih =>
    intro i h;obtain ⟨hi,hx,hr⟩:=rd50_at h;have hm:=hs x (List.mem_of_mem_drop (i:=i) (by rw [h];exact List.mem_cons_self));refine Ev.step (fun k=>by rw [dims_Right.l0]) (Ev.yes (by omega) (Ev.yes (by omega) (Ev.yes (by omega) ?_)));rw [hx,w_next i (by omega),dims_codes_eq _ _ hm.1 hm.2,tagL_cons];simp only [Option.bind_some]
    have hp:prevT tg (i+1)=some x.f0:=by unfold prevT;rw [if_neg (by omega),show i+1 - 1=i by omega,hx]
    have ih':=ih (i+1) hr;rw [hp] at ih';refine Ev.both (fun e=>?_) (fun e=>Ev.is (by rw [Bool.eq_false_iff.mpr e];simp));rw [e];by_cases h0:i=0
    · subst h0
      refine Ev.no (by omega) ?_;simpa [prevT] using ih'
    · refine Ev.yes (by omega) ?_
      rw [w_in (x:=(i:Int) - 1) (by omega)];refine Ev.yes (by omega) (Ev.yes (by omega) ?_);have e1:(i:Int) - 1=((i - 1:Nat):Int):=by omega
      rw [e1];unfold prevT;rw [if_neg h0];refine Ev.both (fun b=>?_) (fun b=>Ev.is ?_)
      · simpa [b] using ih'
      · simp [Bool.eq_false_iff.mpr b]
theorem dims_Right_ev (tg:List S50) (hs:ShortT tg):Ev (fun k=>dims_Right.f k tg) (tagsOk tg):=by
  unfold dims_Right.f tagsOk;refine Ev.both (fun h=>Ev.is ?_) (fun h=>?_)
  · rw [decide_eq_false (by omega),Bool.false_and]
  · rw [decide_eq_true (by omega),Bool.true_and]
    exact dims_Right_l0 tg hs (by omega) tg 0 rfl
theorem r09_Right_l0 (tg:List S50) (hs:ShortT tg) (hl:tg.length≤1000) (R:List S50):∀ i:Nat,tg.drop i=R→Ev (fun k=>rf09_Right.l0 k tg (i:Int)) (tagL (prevT tg i) R && decide (tg.length≤6)):=by
  induction R with
  | nil =>
    intro i h;have:=List.drop_eq_nil_iff.mp h;refine Ev.step (fun k=>by rw [rf09_Right.l0]) (Ev.no (by omega) (Ev.is ?_));rw [tagL_nil,Bool.true_and,Bool.eq_iff_iff,decide_eq_true_iff,decide_eq_true_iff];omega
  | cons x r ih =>
    intro i h;obtain ⟨hi,hx,hr⟩:=rd50_at h;have hm:=hs x (List.mem_of_mem_drop (i:=i) (by rw [h];exact List.mem_cons_self));refine Ev.step (fun k=>by rw [rf09_Right.l0]) (Ev.yes (by omega) (Ev.yes (by omega) ?_));rw [hx,w_next i (by omega),tagL_cons];have hp:prevT tg (i+1)=some x.f0:=by unfold prevT;rw [if_neg (by omega),show i+1 - 1=i by omega,hx]
    have ih':=ih (i+1) hr;rw [hp] at ih';refine Ev.bind (r09_named_ev _ _ hm.1 hm.2) (Ev.both (fun e=>?_) (fun e=>Ev.is (by rw [Bool.eq_false_iff.mpr e];simp)));rw [e];by_cases h0:i=0
    · subst h0
      refine Ev.no (by omega) ?_;simpa [prevT] using ih'
    · refine Ev.yes (by omega) ?_
      rw [w_in (x:=(i:Int) - 1) (by omega)];refine Ev.yes (by omega) (Ev.yes (by omega) ?_);have e1:(i:Int) - 1=((i - 1:Nat):Int):=by omega
      rw [e1];unfold prevT;rw [if_neg h0];refine Ev.both (fun b=>?_) (fun b=>Ev.is ?_)
      · simpa [b] using ih'
      · simp [Bool.eq_false_iff.mpr b]
theorem r09_Right_ev (tg:List S50) (hs:ShortT tg) (hl:tg.length≤1000):Ev (fun k=>rf09_Right.f k tg) (tagsOk tg):=by
  unfold rf09_Right.f;have:=r09_Right_l0 tg hs hl tg 0 rfl;rw [Bool.and_comm] at this;exact this
def checkC:List S48→Int
  | []=>0
  | c :: r=>if condS c=0 then checkC r else condS c
def checkS (nm:ByteArray) (cs:List S48) (acc par:ByteArray) (tg:List S50):Int :=
  if nameB nm acc par=true then (if tagsOk tg=true then (if cs.length=0 then 2 else if 8 < cs.length then 9 else checkC cs) else 14) else 7
theorem rules_Check_l0 (cs:List S48) (hs:ShortC cs) (hl:cs.length≤1000) (R:List S48):∀ i:Nat,cs.drop i=R→Ev (fun k=>rules_Check.l0 k cs (cs.length:Int) (i:Int)) (checkC R):=by
  induction R with
  | nil =>
    intro i h;have:=List.drop_eq_nil_iff.mp h;refine Ev.step (fun k=>by rw [rules_Check.l0]) ?_;exact Ev.no (by omega) (Ev.is rfl)
  | cons x r ih =>
    intro i h;obtain ⟨hi,hx,hr⟩:=rd48_at h;have hm:=hs x (List.mem_of_mem_drop (i:=i) (by rw [h];exact List.mem_cons_self));refine Ev.step (fun k=>by rw [rules_Check.l0]) (Ev.yes (by omega) (Ev.yes (by omega) (Ev.yes (by omega) ?_)));rw [hx,w_next i (by omega),checkC];exact Ev.bind (rules_cond_ev x hm) (Ev.both (fun e=>by rw [if_pos e];exact ih (i+1) hr) (fun e=>Ev.is (by rw [if_neg e])))
theorem rules_Check_ev (nm:ByteArray) (cs:List S48) (acc par:ByteArray) (tg:List S50) (h1:nm.size≤1000000) (h2:acc.size≤1000000) (h3:par.size≤1000000) (hc:ShortC cs) (ht:ShortT tg) :
    Ev (fun k=>rules_Check.f k nm cs acc par tg) (checkS nm cs acc par tg):=by
  have j:∀ b:Bool,b=!(nameB nm acc par)→Ev (fun k=>rules_Check.j0 k b nm cs acc par tg) (checkS nm cs acc par tg):=fun b hb=>by
    refine Ev.step (fun k=>by rw [rules_Check.j0]) ?_;unfold checkS
    cases n:nameB nm acc par with
    | false=>rw [hb,n,if_neg (by decide)];exact Ev.yes rfl (Ev.is rfl)
    | true =>
      rw [hb,n,if_pos rfl];refine Ev.no (by decide) (Ev.bind (dims_Right_ev tg ht) (Ev.both (fun e=>?_) (fun e=>Ev.is (by rw [if_neg e]))));rw [if_pos e];refine Ev.both (fun a=>Ev.is (by rw [if_pos (by omega)])) (fun a=>Ev.both (fun b=>Ev.is (by rw [if_neg (by omega),if_pos (by omega)])) (fun b=>?_));rw [if_neg (by omega),if_neg (by omega)];exact rules_Check_l0 cs hc (by omega) cs 0 rfl
  unfold rules_Check.f;rw [words_Code_at _ h1,words_Code_at _ h2,words_Code_at _ h3];simp only [Option.bind_some]
  unfold nameB at j;refine Ev.both (fun a=>Ev.both (fun b=>Ev.both (fun c=>j _ ?_) (fun c=>j _ ?_)) (fun b=>j _ ?_)) (fun a=>j _ ?_)
  · rw [a,b,decide_eq_true c];rfl
  · rw [a,b,decide_eq_false c];simp
  · rw [a,Bool.eq_false_iff.mpr b];rfl
  · rw [Bool.eq_false_iff.mpr a];rfl
theorem large_l1 (nm:ByteArray) (cs:List S48) (acc par:ByteArray) (tg:List S50) (hs:∀ x∈tg,x.f0.size≤140737488351232∧x.f1.size≤140737488351232) (hl:tg.length≤1000) (R:List S50):∀ i:Nat,tg.drop i=R→Ev (fun k=>lw48_large.l1 k (i:Int) nm cs acc par tg) (bigT R):=by
  induction R with
  | nil =>
    intro i h;have:=List.drop_eq_nil_iff.mp h;refine Ev.step (fun k=>by rw [lw48_large.l1]) ?_;exact Ev.no (by omega) (Ev.is rfl)
  | cons x r ih =>
    intro i h;obtain ⟨hi,hx,hr⟩:=rd50_at h;have hm:=hs x (List.mem_of_mem_drop (i:=i) (by rw [h];exact List.mem_cons_self));refine Ev.step (fun k=>by rw [lw48_large.l1]) (Ev.yes (by omega) (Ev.yes (by omega) ?_));rw [hx,w_next i (by omega),w_in (by omega),bigT];exact Ev.both (fun e=>Ev.is (by rw [if_pos e])) (fun e=>by rw [if_neg e];exact ih (i+1) hr)
theorem large_l0 (nm:ByteArray) (cs:List S48) (acc par:ByteArray) (tg:List S50) (hs:∀ x∈tg,x.f0.size≤140737488351232∧x.f1.size≤140737488351232) (hl:tg.length≤1000) (hc:cs.length≤1000) (R:List S48):∀ i:Nat,cs.drop i=R→Ev (fun k=>lw48_large.l0 k (i:Int) nm cs acc par tg) (if bigC R=true then true else bigT tg):=by
  induction R with
  | nil =>
    intro i h;have:=List.drop_eq_nil_iff.mp h;refine Ev.step (fun k=>by rw [lw48_large.l0]) (Ev.no (by omega) ?_);rw [bigC,if_neg (by decide)];exact large_l1 nm cs acc par tg hs hl tg 0 rfl
  | cons x r ih =>
    intro i h;obtain ⟨hi,hx,hr⟩:=rd48_at h;refine Ev.step (fun k=>by rw [lw48_large.l0]) (Ev.yes (by omega) (Ev.yes (by omega) ?_));rw [hx,w_next i (by omega),bigC];exact Ev.both (fun e=>Ev.is (by rw [if_pos e,if_pos rfl])) (fun e=>by rw [if_neg e];exact ih (i+1) hr)
theorem large_ev (nm:ByteArray) (cs:List S48) (acc par:ByteArray) (tg:List S50) (h:FitR nm cs acc par tg):Ev (fun k=>lw48_large.f k nm cs acc par tg) (largeS nm cs acc par tg):=by
  obtain ⟨⟨h1,h2,h3⟩,h4,h5⟩:=h
  have j:∀ b:Bool,(b=true ↔ (20 < cs.length∨20 < tg.length∨400 < nm.size+acc.size+par.size))→Ev (fun k=>lw48_large.j0 k b nm cs acc par tg) (largeS nm cs acc par tg):=fun b hb=>by
    refine Ev.step (fun k=>by rw [lw48_large.j0]) ?_;unfold largeS;refine Ev.both (fun e=>Ev.is (by rw [if_pos (hb.mp e)])) (fun e=>?_);have e':¬ (20 < cs.length∨20 < tg.length∨400 < nm.size+acc.size+par.size):=fun x=>e (hb.mpr x)
    rw [if_neg e'];exact large_l0 nm cs acc par tg h5 (by omega) (by omega) cs 0 rfl
  unfold lw48_large.f;refine Ev.both (fun a=>j _ ⟨fun _=>by omega,fun _=>rfl⟩) (fun a=>Ev.both (fun b=>j _ ⟨fun _=>by omega,fun _=>rfl⟩) (fun b=>j _ ?_));rw [decide_eq_true_iff,w_in (x:=(nm.size:Int)+(acc.size:Int)) (by omega),w_in (by omega)];omega
theorem checkC_all {cs:List S48} (h:checkC cs=0):∀ c∈cs,condS c=0:=by
  induction cs with
  | nil=>intro c hc;cases hc
  | cons x r ih =>
    rw [checkC] at h;split at h
    · intro c hc
      rcases List.mem_cons.mp hc with rfl | hc
      · assumption
      · exact ih h c hc
    · contradiction
theorem checkS_conds {nm:ByteArray} {cs:List S48} {acc par:ByteArray} {tg:List S50} (h:checkS nm cs acc par tg=0):nameB nm acc par=true∧tagsOk tg=true∧0 < cs.length∧cs.length≤8∧∀ c∈cs,condS c=0:=by
  unfold checkS at h;split at h
  · split at h
    · split at h
      · exact absurd h (by decide)
      split at h
      · exact absurd h (by decide)
      · exact ⟨by assumption,by assumption,by omega,by omega,checkC_all h⟩
    · exact absurd h (by decide)
  · exact absurd h (by decide)
def restW (nm:ByteArray) (cs:List S48) (acc par:ByteArray) (tg:List S50):List (List UInt8) :=
  nm.data.toList :: (condsW [105,102] cs++([116,104,101,110] :: acc.data.toList :: (partyW par++tagsW tg)))
def txtL (nm:ByteArray) (cs:List S48) (acc par:ByteArray) (tg:List S50):List UInt8:=ruleL++tailW (restW nm cs acc par tg)
def textS (nm:ByteArray) (cs:List S48) (acc par:ByteArray) (tg:List S50):ByteArray×Int :=
  if checkS nm cs acc par tg=0 then (if 400 < (txtL nm cs acc par tg).length then (⟨#[]⟩,9) else (oL (txtL nm cs acc par tg),0)) else (⟨#[]⟩,checkS nm cs acc par tg)
theorem rules_operand_ev {c:S48} (h:condS c=0) (hz:c.f2.size≤400):Ev (fun k=>rules_operand.f k c.f0 c.f1 c.f2 c.f3) (oL (opdS c)):=by
  obtain ⟨hs,hr,hf⟩:=condS_ok h;unfold rangB at hr;rw [decide_eq_true_iff] at hr;unfold rules_operand.f opdS;refine Ev.both (fun a=>?_) (fun a=>Ev.both (fun b=>?_) (fun b=>?_))
  · rw [num_Text_at _ ⟨by omega,by omega⟩,if_pos a]
    simp only [Option.bind_some]
    exact Ev.is rfl
  · rw [if_neg a,if_pos b]
    exact Ev.bind (days_Text_dtx (by unfold dayB;exact decide_eq_true (by omega))) (Ev.is rfl)
  · rw [if_neg a,if_neg b]
    unfold formB at hf;rw [if_neg (by omega)] at hf;refine Ev.bind (words_Quote_ev _ (by omega)) (Ev.is ?_);unfold quoteS;rw [if_pos hf]
theorem txC_ev {R:List S48} (hc:∀ c∈R,condS c=0) (hz:∀ c∈R,c.f2.size≤400):∀ (l:List ByteArray) (link:List UInt8),Ev (fun k=>txC k R l (oL link)) (l++(condsW link R).map oL):=by
  induction R with
  | nil=>intro l link;exact Ev.is (by rw [condsW,List.map_nil,List.append_nil])
  | cons c r ih =>
    intro l link;have h0:=hc c List.mem_cons_self;obtain ⟨r1,r2⟩:=suit_rng (condS_ok h0).1
    have e:(fun k=>txC k (c :: r) l (oL link))=fun k=>(rules_operand.f k c.f0 c.f1 c.f2 c.f3).bind fun o=>txC k r (l++[oL link,oL (kF c.f0),oL (kO c.f1),o]) andB:=by
      funext k
      rw [txC,fieldL_at r1,opL_at r2];rfl
    rw [e];refine Ev.bind (rules_operand_ev h0 (hz c List.mem_cons_self)) ?_;have:=ih (fun x hx=>hc x (List.mem_cons_of_mem _ hx)) (fun x hx=>hz x (List.mem_cons_of_mem _ hx)) (l++[oL link,oL (kF c.f0),oL (kO c.f1),oL (opdS c)]) [97,110,100];rw [show l++[oL link,oL (kF c.f0),oL (kO c.f1),oL (opdS c)]++List.map oL (condsW [97,110,100] r)=l++List.map oL (condsW link (c :: r)) by rw [condsW];simp] at this;exact this
theorem txT_eq (tg:List S50):∀ l,txT tg l=l++(tagsW tg).map oL:=by
  induction tg with
  | nil=>intro l;rw [txT,tagsW,List.map_nil,List.append_nil]
  | cons t r ih =>
    intro l;rw [txT,ih,tagsW];simp only [List.map_cons,oL_data,List.append_assoc,List.cons_append,List.nil_append]
    rfl
theorem rules_Parse_eq (k:Nat) (s:ByteArray):rules_Parse.f k s=(words_Cut.f k s).bind fun c=>if c.2.2=0 then runP k s c.1 pr0 else some (noR c.2.1 c.2.2):=rfl
end Go.Proofs.YtkbgkekegjfkfaaGreatDoor.A
namespace Go.Proofs.YtkbgkekegjfkfaaGreatDoor.A
open Go.RowKit B WW WL WM
section
variable {nm:ByteArray} {cs:List S48} {acc par:ByteArray} {tg:List S50}
theorem SmallR.check (h:SmallR nm cs acc par tg):Ev (fun k=>rules_Check.f k nm cs acc par tg) (checkS nm cs acc par tg) :=
  rules_Check_ev nm cs acc par tg (by have:=h.ln;omega) (by have:=h.ln;omega) (by have:=h.ln;omega) h.sc h.st
end
end Go.Proofs.YtkbgkekegjfkfaaGreatDoor.A
namespace Go.Proofs.YtkbgkekegjfkfaaGreatDoor.A
open Go.RowKit B WW WL WM
attribute [local go_sem] max2_int min2_int max_two min_two max_three min_three max_four min_four
set_option maxHeartbeats 8000000
set_option maxRecDepth 100000
section
variable {ok:Nat→Prop} {w0 w wr w1:World} {g g2 g4:Nat} {L:List S73} {at_:Int} {fl:Bool} {nm:ByteArray} {cs:List S48} {acc par:ByteArray} {tg:List S50} {vs:List S87} {vC vT vV:Value}
theorem RL.fresh (h:RL ok w0 w wr g g2 g4 L at_ fl nm cs acc par tg vs vC vT vV):RL (fun k=>k≠wr.heap.size) w0 w wr g g2 g4 L at_ fl nm cs acc par tg vs vC vT vV :=
  ⟨h.hI,h.hB,h.hK,h.b4,h.b2,Kd.R_mono (Kd.R_bound h.rC) (fun k hk=>Nat.ne_of_lt hk.2.2.1),Kd.R_mono (Kd.R_bound h.rT) (fun k hk=>Nat.ne_of_lt hk.2.2.1),Kd.R_mono (Kd.R_bound h.rV) (fun k hk=>Nat.ne_of_lt hk.2.2.1),h.e2,h.e4,h.ne,h.hw0⟩
end
end Go.Proofs.YtkbgkekegjfkfaaGreatDoor.A
namespace Go.Proofs.YtkbgkekegjfkfaaGreatDoor.B
open Go.ChangeShapes
theorem handed_open {H:Type} {enc:TypeId×Value→H} {a:Assume} {C:Checked} {os:Os} {f:FuncId} {fn:Func} {s:ChangeSpec} {conds:List PathCond} {apart fresh handsOn again:Bool} {X:World→Array Value→Prop}
    (hX:∀ (w w':World) (args:Array Value),w.heap=w'.heap→X w args→X w' args)
    (own:ownKnob C.prog.godebug=none) (started:os.Started) (noInit:C.prog.inits.idxOf? f=none) (hfn:C.prog.funcs[f]?=some fn)
    (wit:∃ (w:World) (tape:Tape) (i:Input),w.os=os∧(w.forCall tape i).Shaped C.prog∧i.vars=[]∧Input.okWide C.prog (w.forCall tape i) .any w.heap.size f i ∧
      ((s.pre enc C.prog fn conds apart (w.forCall tape i).memory i.args∧X (w.forCall tape i).memory i.args)∧sizedMet enc C.prog fn (OpenSpec.ofChange s) apart (w.forCall tape i).memory i.args)∧a.holds C.prog (lone (Frame.enter C.prog f i.args .normal) [] (w.forCall tape i)))
    (walk:∀ (W:World) (base:Nat) (args:Array Value) (ds gs:List (DataW H)) (before:List MemPlace),W.ShapedOpen C.prog→X W args →
      (∀ (j:Nat) t v,fn.params[j]?=some t→args[j]?=some v→Value.okWide C.prog W .any base t v)→DataW.Whole enc C.prog fn.params.toList s.vars apart W args.toList ds gs before →
      (DataW.weightsEach C.prog (fn.params.toList++s.plain.varTypes C.prog) (ds++gs)).all (·≤reachBytes)=true →
      Calls C.prog f args W fun e W'=>∃ v,e=.returned v∧s.post enc C.prog fn apart fresh handsOn again W args v W') :
    ReturnsInHanded a C os f .any (fun w args=>(s.pre enc C.prog fn conds apart w args∧X w args)∧sizedMet enc C.prog fn (OpenSpec.ofChange s) apart w args) (s.post enc C.prog fn apart fresh handsOn again):=by
  refine returnsInHanded_of_calls own started noInit wit ?_;rintro w tape i _ hO _ ⟨_,_,_,fn',hf',_,_,_,_,hv⟩ ⟨⟨⟨ds,gs,before,hw,_⟩,hx⟩,hz⟩ _;obtain rfl:fn'=fn:=Option.some.inj (hf'.symm.trans hfn);refine (walk (w.forCall tape i) w.heap.size i.args ds gs before hO (hX _ _ _ (by rfl) hx) hv (DataW.Whole.of_heap (w':=w.forCall tape i) (by rfl) hw) (hz.weights hw)).mono ?_;rintro e W' ⟨v,rfl,hp⟩;exact ChangeSpec.post_blind hp
end Go.Proofs.YtkbgkekegjfkfaaGreatDoor.B
