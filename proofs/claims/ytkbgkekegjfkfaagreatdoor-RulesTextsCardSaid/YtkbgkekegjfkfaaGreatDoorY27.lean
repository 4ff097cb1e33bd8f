-- By pack.py, a program of this session's.
import Derived.Test.YtkbgkekegjfkfaaGreatDoorY24
import Derived.Test.YtkbgkekegjfkfaaGreatDoorY25
set_option linter.unusedVariables false
set_option linter.unusedSimpArgs false
namespace Go.Proofs.YtkbgkekegjfkfaaGreatDoor.A
open Go.RowKit B WW WL WM
theorem ref04_Text_dtx {n:Int} (h:dayB n=true):Ev (fun k=>rf04_Text.f k n) (oL (dtx n),0):=by
  obtain ⟨a,b,c,d⟩:=day_mon h;exact ref04_Text_ev _ n a b c d
theorem ref06_Quote_ev (s:ByteArray) (hs:s.size≤1000000):Ev (fun k=>rf06_Quote.f k s) (quoteS s.data.toList):=by
  have hl:s.data.toList.length≤1000000:=by rw [← size_eq'];exact hs
  unfold rf06_Quote.f quoteS;refine Ev.bind (ref06_Plain_at s hs) (Ev.both (fun h=>?_) (fun h=>Ev.is (by rw [if_neg h])));rw [if_pos h];exact r6Quote_l0 s.data.toList hl s.data.toList 0 [34] rfl (Nat.zero_le _) (Nat.le_refl _)
theorem r48_cond_ev (c:S48) (hz:c.f2.size≤1000000):Ev (fun k=>rf48_condition.f k c.f0 c.f1 c.f2 c.f3) (condS c):=by
  have j2:∀ b:Bool,b=!(rangB c)→Ev (fun k=>rf48_condition.j2 k b c.f0 c.f1 c.f2 c.f3) (condR c):=fun b hb=>by
    refine Ev.step (fun k=>by rw [rf48_condition.j2]) ?_;unfold condR
    cases r:rangB c with
    | false=>rw [hb,r,if_neg (by decide)];exact Ev.yes rfl (Ev.is rfl)
    | true =>
      rw [hb,r,if_pos rfl];refine Ev.no (by decide) ?_;rw [r48_number_eq];simp only [Option.bind_some]
      unfold formB numB;refine Ev.both (fun n=>?_) (fun n=>?_)
      · rw [decide_eq_true_iff] at n
        rw [if_pos n];refine Ev.both (fun l=>Ev.yes (decide_eq_true n) (Ev.is ?_)) (fun l=>Ev.is ?_)
        · rw [if_pos (beq_iff_eq.mpr l)]
        · rw [if_neg (by rw [beq_iff_eq];exact l)]
      · rw [decide_eq_true_iff] at n
        rw [if_neg n];refine Ev.no (by rw [decide_eq_true_iff];exact n) ?_;exact Ev.bind (ref06_Plain_at _ hz) (Ev.both (fun p=>Ev.is (by rw [if_pos p])) (fun p=>Ev.is (by rw [if_neg p])))
  have nn:∀ b:Bool,∀ A:Nat→Option Int,numB c.f0=b→∀ r,Ev A r→Ev A r:=fun _ _ _ _ h=>h
  have j1:∀ b:Bool,(b=false ↔ suitB c.f0 c.f1=true)→1≤c.f0∧c.f0≤4→Ev (fun k=>rf48_condition.j1 k b c.f0 c.f1 c.f2 c.f3) (condS c):=fun b hb hf=>by
    refine Ev.step (fun k=>by rw [rf48_condition.j1]) ?_;unfold condS;refine Ev.both (fun e=>Ev.is ?_) (fun e=>?_)
    · rw [if_neg (fun x=>by rw [hb.mpr x] at e;cases e)]
    rw [if_pos (hb.mp (Bool.eq_false_iff.mpr e)),r48_number_eq,r04_Is_eq];simp only [Option.bind_some]
    have z:∀ (n:numB c.f0=true) ,rangB c=true→Ev (fun k=>if numB c.f0=true then rf48_condition.j2 k false c.f0 c.f1 c.f2 c.f3 else rf48_condition.j2 k (c.f3 != 0) c.f0 c.f1 c.f2 c.f3) (condR c):=fun n r=>Ev.yes n (j2 _ (by rw [r];rfl))
    have z':∀ (n:¬ numB c.f0=true) ,(rangB c=true ↔ c.f3=0)→Ev (fun k=>if numB c.f0=true then rf48_condition.j2 k false c.f0 c.f1 c.f2 c.f3 else rf48_condition.j2 k (c.f3 != 0) c.f0 c.f1 c.f2 c.f3) (condR c):=fun n r=>Ev.no n (j2 _ (by
      by_cases h:c.f3=0
      · rw [r.mpr h,h];rfl
      · rw [Bool.eq_false_iff.mpr (fun x=>h (r.mp x)),bne_iff_ne.mpr h];rfl))
    have nt:(c.f0=1∨c.f0=4)→numB c.f0=true:=fun h=>decide_eq_true h
    have nf:¬ (c.f0=1∨c.f0=4)→¬ numB c.f0=true:=fun h x=>h (of_decide_eq_true x)
    refine Ev.both (fun h1=>Ev.both (fun a=>j2 _ ?_) (fun a=>Ev.both (fun b=>j2 _ ?_) (fun b=>Ev.both (fun h4=>absurd h4 (by omega)) (fun h4=>z (nt (Or.inl h1)) ?_)))) (fun h1=>Ev.both (fun h4=>Ev.both (fun d=>z (nt (Or.inr h4)) ?_) (fun d=>j2 _ ?_)) (fun h4=>z' (nf (by omega)) ?_))
    · unfold rangB;rw [decide_eq_false (by omega)];rfl
    · unfold rangB;rw [decide_eq_false (by omega)];rfl
    · unfold rangB;exact decide_eq_true (by omega)
    · unfold dayB at d;rw [decide_eq_true_iff] at d;unfold rangB;exact decide_eq_true (by omega)
    · unfold dayB at d;rw [decide_eq_true_iff] at d;unfold rangB;rw [decide_eq_false (by omega)];rfl
    · unfold rangB;rw [decide_eq_true_iff];omega
  have j0:∀ b:Bool,(b=false ↔ 1≤c.f0∧c.f0≤4)→Ev (fun k=>rf48_condition.j0 k b c.f0 c.f1 c.f2 c.f3) (condS c):=fun b hb=>by
    refine Ev.step (fun k=>by rw [rf48_condition.j0]) ?_;refine Ev.both (fun e=>Ev.is ?_) (fun e=>?_)
    · unfold condS suitB
      rw [if_neg];rw [decide_eq_true_iff];intro x;rw [hb.mpr ⟨x.1,x.2.1⟩] at e;cases e
    have hf:=hb.mp (Bool.eq_false_iff.mpr e);rw [r48_number_eq];simp only [Option.bind_some]
    have s1:suitB c.f0 c.f1=true ↔ 1≤c.f0∧c.f0≤4∧(c.f1=1∨(c.f0=1∨c.f0=4)∧(c.f1=2∨c.f1=3)∨¬ (c.f0=1∨c.f0=4)∧(c.f1=4∨c.f1=5)):=decide_eq_true_iff;have tt:∀ p:Prop,(true=false ↔ p) ↔ ¬ p:=fun p=>⟨fun h q=>(by cases h.mpr q),fun h=>⟨fun q=>(by cases q),fun q=>absurd q h⟩⟩
    have ff:∀ p:Prop,(false=false ↔ p) ↔ p:=fun p=>⟨fun h=>h.mp rfl,fun h=>⟨fun _=>h,fun _=>rfl⟩⟩
    refine Ev.both (fun n=>?_) (fun n=>?_)
    · have hn:c.f0=1∨c.f0=4:=of_decide_eq_true n
      refine Ev.both (fun a=>j1 _ ((tt _).mpr (by rw [s1];omega)) hf) (fun a=>Ev.both (fun b=>j1 _ ((tt _).mpr (by rw [s1];omega)) hf) (fun b=>Ev.yes n (j1 _ ((ff _).mpr (by rw [s1];omega)) hf)))
    · have hn:¬ (c.f0=1∨c.f0=4):=fun x=>n (decide_eq_true x)
      refine Ev.no n (Ev.both (fun a=>j1 _ ((ff _).mpr (by rw [s1];omega)) hf) (fun a=>Ev.both (fun b=>j1 _ ((ff _).mpr (by rw [s1];omega)) hf) (fun b=>j1 _ ?_ hf)));rw [s1,bne_eq_false_iff_eq];omega
  unfold rf48_condition.f;refine Ev.both (fun a=>j0 _ ⟨fun x=>(by cases x),fun x=>(by omega)⟩) (fun a=>j0 _ ?_);rw [decide_eq_false_iff_not];omega
theorem opdS_len {c:S48} (h:condS c=0):(opdS c).length≤130:=by
  obtain ⟨hs,hr,hf⟩:=condS_ok h;unfold rangB at hr;rw [decide_eq_true_iff] at hr;unfold opdS;split
  · have:=Lib.itoa_length_le c.f3 (by omega) (by omega);omega
  split
  · have:=dtx_len (n:=c.f3) (by unfold dayB;exact decide_eq_true (by omega));omega
  · unfold formB at hf
    rw [if_neg (by omega)] at hf;have:=quoteS_size c.f2.data.toList;unfold quoteS at this;rw [if_pos hf] at this;dsimp only at this
    have e:(oL (quoL c.f2.data.toList)).size=(quoL c.f2.data.toList).length:=oL_size _;omega
theorem condsW_len {cs:List S48} (h:∀ c∈cs,condS c=0):∀ link:List UInt8,link.length≤10→(tailW (condsW link cs)).length≤200 * cs.length:=by
  induction cs with
  | nil=>intro link _;exact Nat.zero_le _
  | cons c r ih =>
    intro link hl;have h1:=kF_len c.f0;have h2:=kO_len c.f1;have h3:=opdS_len (h c List.mem_cons_self);have h4:=ih (fun x hx=>h x (List.mem_cons_of_mem _ hx)) [97,110,100] (by decide);rw [condsW,tailW_cons,tailW_cons,tailW_cons,tailW_cons];simp only [List.length_cons,List.length_append]
    omega
theorem r48_Text_l0 (nm:ByteArray) (cs:List S48) (acc par:ByteArray) (tg:List S50) (hs:SmallR nm cs acc par tg) (hc:∀ c∈cs,condS c=0) (hi64:∀ c∈cs,I64 c.f3) (R:List S48):∀ (i:Nat) (P:List UInt8),cs.drop i=R→i≤cs.length→P.length≤1000+1000 * i →
    Ev (fun k=>rf48_Text.l0 k (oL P) (i:Int) nm cs acc par tg) (endS (P++(if i=0 then (tailW (condsW [105,102] R)).drop 3 else tailW (condsW [97,110,100] R))++tailW ([116,104,101,110] :: acc.data.toList :: (partyW par++tagsW tg)))):=by
  have hlc:=hs.lc;have hln:=hs.ln;have hlt:=hs.lt;have sa:=size_eq' acc;have sp:=size_eq' par;induction R with
  | nil =>
    intro i P h hil hP;have:=List.drop_eq_nil_iff.mp h;refine Ev.step (fun k=>by rw [rf48_Text.l0]) (Ev.no (by omega) ?_);simp only [ap_then,ap_ba,ap_party,oL_size]
    have e0:(if i=0 then (tailW (condsW [105,102] ([]:List S48))).drop 3 else tailW (condsW [97,110,100] []))=[]:=by split <;> rfl
    rw [e0,List.append_nil];refine Ev.yes (by omega) (Ev.yes (by simp only [List.length_append,List.length_cons,List.length_nil];omega) (Ev.both (fun a=>?_) (fun a=>Ev.yes (by simp only [List.length_append,List.length_cons,List.length_nil];omega) (Ev.yes (by simp only [List.length_append,List.length_cons,List.length_nil];omega) ?_))))
    · have:=r48_Text_l1 nm cs acc par tg hs.t (by omega) tg 0 (P++[32,116,104,101,110,32]++acc.data.toList) rfl (by simp only [List.length_append,List.length_cons,List.length_nil];omega)
      rw [show P++[32,116,104,101,110,32]++acc.data.toList++tailW (tagsW tg)=P++tailW ([116,104,101,110] :: acc.data.toList :: (partyW par++tagsW tg)) by unfold partyW;rw [if_pos a,tailW_cons,tailW_cons];simp] at this;refine Ev.step (fun k=>by rw [rf48_Text.j3]) ?_;exact this
    · have:=r48_Text_l1 nm cs acc par tg hs.t (by omega) tg 0 (P++[32,116,104,101,110,32]++acc.data.toList++[32,112,97,114,116,121,32]++par.data.toList) rfl (by simp only [List.length_append,List.length_cons,List.length_nil];omega)
      rw [show P++[32,116,104,101,110,32]++acc.data.toList++[32,112,97,114,116,121,32]++par.data.toList++tailW (tagsW tg)=P++tailW ([116,104,101,110] :: acc.data.toList :: (partyW par++tagsW tg)) by unfold partyW;rw [if_neg a,tailW_cons,tailW_cons,tailW_append,tailW_cons,tailW_cons,tailW_nil];simp] at this;refine Ev.step (fun k=>by rw [rf48_Text.j3]) ?_;exact this
  | cons c r ih =>
    intro i P h hil hP;obtain ⟨hi,hx,hr⟩:=rd48_at h;have hm:c∈cs:=List.mem_of_mem_drop (i:=i) (by rw [h];exact List.mem_cons_self);have h0:=hc c hm;obtain ⟨su,rg,fm⟩:=condS_ok h0;obtain ⟨r1,r2⟩:=suit_rng su;have l1:=kF_len c.f0;have l2:=kO_len c.f1;have l3:=opdS_len h0
    have nx:∀ Q:List UInt8,Q.length≤1010+1000 * i→Ev (fun k=>rf48_Text.l0 k (oL (Q++[32]++kF c.f0++[32]++kO c.f1++[32]++opdS c)) ((i+1:Nat):Int) nm cs acc par tg) (endS (Q++(32 :: (kF c.f0++(32 :: (kO c.f1++(32 :: (opdS c++tailW (condsW [97,110,100] r)))))))++tailW ([116,104,101,110] :: acc.data.toList :: (partyW par++tagsW tg)))):=fun Q hQ=>by
      have:=ih (i+1) (Q++[32]++kF c.f0++[32]++kO c.f1++[32]++opdS c) hr (by omega) (by simp only [List.length_append,List.length_cons,List.length_nil];omega);rw [if_neg (by omega)] at this;have e:Q++[32]++kF c.f0++[32]++kO c.f1++[32]++opdS c++tailW (condsW [97,110,100] r)=Q++(32 :: (kF c.f0++(32 :: (kO c.f1++(32 :: (opdS c++tailW (condsW [97,110,100] r))))))):=by simp
      rw [e] at this;exact this
    have j2:∀ (Q:List UInt8) (x8:ByteArray),Q.length≤1010+1000 * i→x8.size≤1000→((c.f0=1∨c.f0=4)→x8=oL (opdS c))→Ev (fun k=>rf48_Text.j2 k (oL Q) (i:Int) x8 nm cs acc par tg c.f0 c.f1 c.f2 c.f3) (endS (Q++(32 :: (kF c.f0++(32 :: (kO c.f1++(32 :: (opdS c++tailW (condsW [97,110,100] r)))))))++tailW ([116,104,101,110] :: acc.data.toList :: (partyW par++tagsW tg)))):=fun Q x8 hQ h8 hx8=>by
      refine Ev.step (fun k=>by rw [rf48_Text.j2]) ?_;rw [r48_number_eq,r48_field_at r1,r48_oper_at r2,w_next i (by omega)];simp only [Option.bind_some,ap_sp,oL_append]
      unfold numB;refine Ev.both (fun n=>?_) (fun n=>?_)
      · rw [decide_eq_true_iff] at n
        rw [hx8 n];simp only [oL_append,oL_size]
        have:=nx Q hQ;exact Ev.yes (by omega) (Ev.yes (by simp only [List.length_append,List.length_cons,List.length_nil];omega) (Ev.yes (by simp only [List.length_append,List.length_cons,List.length_nil];omega) (Ev.yes (by simp only [List.length_append,List.length_cons,List.length_nil];omega) (Ev.yes (by simp only [List.length_append,List.length_cons,List.length_nil];omega) (Ev.yes (by simp only [List.length_append,List.length_cons,List.length_nil];omega) this)))))
      · rw [decide_eq_true_iff] at n
        have fm':=fm;unfold formB at fm';rw [if_neg n] at fm';have q:quoteS c.f2.data.toList=(oL (opdS c),0):=by unfold quoteS opdS;rw [if_pos fm',if_neg (by omega),if_neg (by omega)]
        refine Ev.bind (ref06_Quote_ev _ (by have:=hs.c c hm;omega)) ?_;rw [q];simp only [oL_append,oL_size]
        have:=nx Q hQ;exact Ev.yes (by omega) (Ev.yes (by simp only [List.length_append,List.length_cons,List.length_nil];omega) (Ev.yes (by simp only [List.length_append,List.length_cons,List.length_nil];omega) (Ev.yes (by simp only [List.length_append,List.length_cons,List.length_nil];omega) (Ev.yes (by simp only [List.length_append,List.length_cons,List.length_nil];omega) (Ev.yes (by simp only [List.length_append,List.length_cons,List.length_nil];omega) this)))))
    have rg':=rg;unfold rangB at rg';rw [decide_eq_true_iff] at rg'
    have j1:∀ Q:List UInt8,Q.length≤1010+1000 * i→Ev (fun k=>rf48_Text.j1 k (oL Q) (i:Int) nm cs acc par tg c.f0 c.f1 c.f2 c.f3) (endS (Q++(32 :: (kF c.f0++(32 :: (kO c.f1++(32 :: (opdS c++tailW (condsW [97,110,100] r)))))))++tailW ([116,104,101,110] :: acc.data.toList :: (partyW par++tagsW tg)))):=fun Q hQ=>by
      refine Ev.step (fun k=>by rw [rf48_Text.j1]) ?_;refine Ev.bind (ref01_Text c.f3 (hi64 c hm)) (Ev.both (fun f4=>Ev.bind (ref04_Text_dtx (by unfold dayB;exact decide_eq_true (by omega))) (j2 Q _ hQ ?_ (fun _=>?_))) (fun f4=>j2 Q _ hQ ?_ (fun f1=>?_)))
      · show (oL (dtx c.f3)).size≤1000
        rw [oL_size];have:=dtx_len (n:=c.f3) (by unfold dayB;exact decide_eq_true (by omega));omega
      · unfold opdS;rw [if_neg (by omega),if_pos f4]
      · show (oL (Lib.itoa c.f3)).size≤1000
        rw [oL_size];obtain ⟨u,v⟩:=hi64 c hm;have:=Lib.itoa_length_le c.f3 (by omega) (by omega);omega
      · unfold opdS;rw [if_pos (by omega)];rfl
    refine Ev.step (fun k=>by rw [rf48_Text.l0]) (Ev.yes (by omega) (Ev.yes (by omega) ?_));rw [hx];by_cases i0:i=0
    · subst i0
      refine Ev.no (by omega) ?_;have:=j1 P (by omega);rw [if_pos rfl,condsW,tailW_cons,tailW_cons,tailW_cons,tailW_cons];exact this
    · refine Ev.yes (by omega) ?_
      rw [if_neg i0,condsW,tailW_cons,tailW_cons,tailW_cons,tailW_cons];simp only [ap_and,oL_size]
      have:=j1 (P++[32,97,110,100]) (by simp only [List.length_append,List.length_cons,List.length_nil];omega);rw [show P++[32,97,110,100]++(32 :: (kF c.f0++(32 :: (kO c.f1++(32 :: (opdS c++tailW (condsW [97,110,100] r)))))))=P++(32 :: ([97,110,100]++(32 :: (kF c.f0++(32 :: (kO c.f1++(32 :: (opdS c++tailW (condsW [97,110,100] r))))))))) by simp] at this;exact Ev.yes (by omega) this
theorem name_app (w r:List UInt8) (hw:w.all isWdB=true) (h:Brk r):nameN (w++r)=w.length:=by
  induction w with
  | nil=>exact name_brk h
  | cons c w ih =>
    rw [List.all_cons,Bool.and_eq_true] at hw;show nameN (c :: (w++r))=_
    rw [nameN,if_pos (isWd_or hw.1),ih hw.2];rfl
theorem num_wd (w r:List UInt8) (hw:w.all isWdB=true):numN (w++r)=w.length+numN r:=by
  induction w with
  | nil=>rw [List.nil_append,List.length_nil,Nat.zero_add]
  | cons c w ih =>
    rw [List.all_cons,Bool.and_eq_true] at hw;show numN (c :: (w++r))=_
    have hc:=isWd_or hw.1;have e:isPt c=false:=isLet_pt hc;rw [numN,if_neg (by rw [e];decide),if_pos hc,ih hw.2,List.length_cons];omega
theorem IsW.name {c:UInt8} {w:List UInt8} (hc:isLet c=true) (hw:w.all isWdB=true) (hl:w.length≤11):IsW (c :: w) 1 (c :: w):=by
  have hx:c.toNat≠35∧c.toNat≠32:=by
    unfold isLet at hc;simp only [Bool.or_eq_true,Bool.and_eq_true,decide_eq_true_iff] at hc
    omega
  refine ⟨by simp,fun a r h=>(by obtain ⟨rfl,rfl⟩:=List.cons.inj h;exact hx),fun r i hr=>⟨0,?_⟩⟩;show wordS (c :: (w++r)) i=_
  have e:nameN (c :: (w++r))=w.length+1:=by rw [nameN,if_pos (Or.inl hc),name_app w r hw hr]
  rw [wordS_cons,if_pos hc,e,gS,if_neg (by omega),if_neg (by omega)];rw [show (c :: (w++r)).take (w.length+1)=c :: w from by rw [List.take_succ_cons,List.take_left]];rfl
theorem Cuts.nil:Cuts [] []:=fun f i _=>by
  cases f with
  | zero=>exact ⟨[],_,rfl,rfl⟩
  | succ f=>exact ⟨[],_,rfl,rfl⟩
theorem Cuts.word {w R t:List UInt8} {k:Nat} {ps:List (Nat×List UInt8)} (hw:IsW w k t) (hR:Brk R) (h:Cuts R ps):Cuts (w++R) ((k,t) :: ps):=fun f i hf=>by
  obtain ⟨hn,hc,hi⟩:=hw;obtain ⟨z,hz⟩:=hi R i hR
  cases w with
  | nil=>exact absurd rfl hn
  | cons c w =>
    have hx:=hc c w rfl
    cases f with
    | zero=>simp at hf
    | succ f =>
      have hf':R.length≤f:=by rw [List.length_append,List.length_cons] at hf;omega
      obtain ⟨ws,j,h1,h2⟩:=h f (i+(c :: w).length) hf';have hz':wordS (c :: (w++R)) i=(k,t,i+(c :: w).length,z,0):=hz;refine ⟨wdOf (wordS (c :: (w++R)) i) i :: ws,j,?_,?_⟩
      · show cutR (f+1) (c :: (w++R)) i=_
        rw [cutR,if_neg hx.1,if_neg hx.2,hz',if_pos rfl];show pre (wdOf (k,t,i+(c :: w).length,z,0) i) (cutR f ((c :: (w++R)).drop (i+(c :: w).length - i)) (i+(c :: w).length))=_
        rw [show i+(c :: w).length - i=(c :: w).length from by omega,show (c :: (w++R)).drop (c :: w).length=R from List.drop_left (l₁:=c :: w) (l₂:=R),h1];rfl
      · rw [List.map_cons,h2,hz',List.map_cons];rfl
theorem IsW.code {l:List UInt8} (h:codeW l=true):IsW l (codeK l) l:=by
  unfold codeW at h;simp only [Bool.and_eq_true,decide_eq_true_iff] at h
  cases l with
  | nil=>exact absurd h.1 (by decide)
  | cons c w =>
    obtain ⟨h1,h2,h3⟩:=h;rw [List.all_cons,Bool.and_eq_true] at h3;rw [List.length_cons] at h2;unfold codeK;by_cases e:isLet c=true
    · show IsW _ (if isLet c=true then 1 else 2) _
      rw [if_pos e];exact IsW.name e h3.2 (by omega)
    · show IsW _ (if isLet c=true then 1 else 2) _
      rw [if_neg e];have d:isDig c=true:=(isWd_or h3.1).resolve_left e;refine IsW.num (Or.inl d) ?_ (by omega);have:=num_wd w [] h3.2;rw [List.append_nil] at this;exact this
theorem num_digs (w:List UInt8) (h:w.all isDig=true):numN w=w.length:=by
  have:=num_wd w [] (digs_wd h);rw [List.append_nil] at this;exact this
theorem num_digs_pt (w:List UInt8) (c:UInt8) (r:List UInt8) (h:w.all isDig=true) (hc:isPt c=true) (hr:headDig r=true) (hn:numN r=r.length):numN (w++c :: r)=(w++c :: r).length:=by
  rw [num_wd w _ (digs_wd h),num_pt c r hc hr,hn,List.length_append,List.length_cons]
theorem IsW.numD {w:List UInt8} (hd:headDig w=true) (hw:numN w=w.length) (hl:w.length≤60):IsW w 2 w:=by
  cases w with
  | nil=>cases hd
  | cons c w =>
    have hd':isDig c=true:=hd;rw [List.length_cons] at hl;refine IsW.num (Or.inl hd') ?_ (by omega);have e:isPt c=false:=isLet_pt (Or.inr hd');rw [numN,if_neg (by rw [e];decide),if_pos (Or.inr hd'),List.length_cons] at hw;omega
theorem IsW.itoa {n:Int} (h:1≤n∧n≤4000):IsW (Lib.itoa n) 2 (Lib.itoa n):=by
  obtain ⟨u,rfl⟩:=Int.eq_ofNat_of_zero_le (show 0≤n by omega);rw [itoa_nat];obtain ⟨h1,h2,h3,h4⟩:=decDigits_spec u;have:=dec_len25 u (by omega);exact IsW.numD (headDig_all h2 h3) (num_digs _ h2) (by omega)
theorem IsW.day (n:Int):IsW (dtx n) 2 (dtx n):=by
  unfold dtx dtext;have e1:headDig (digs 2 (monIx 3600 n % 12+1)++45 :: digs 2 (n - first (monIx 3600 n)+1).toNat)=true:=headDig_app _ (headDig_all (digs_all _ _) (digs_ne (by omega)));refine IsW.numD (headDig_app _ (headDig_all (digs_all _ _) (digs_ne (by omega)))) ?_ ?_
  · exact num_digs_pt _ 45 _ (digs_all _ _) (by decide) e1 (num_digs_pt _ 45 _ (digs_all _ _) (by decide) (headDig_all (digs_all _ _) (digs_ne (by omega))) (num_digs _ (digs_all _ _)))
  · simp only [List.length_append,List.length_cons,digs_length];omega
theorem cuts_tail (T:List Tri) (h:∀ x∈T,IsW x.1 x.2.1 x.2.2):Brk (tailW (T.map (·.1)))∧Cuts (tailW (T.map (·.1))) (T.map (·.2)):=by
  induction T with
  | nil=>exact ⟨Brk.nil,Cuts.nil⟩
  | cons x r ih =>
    obtain ⟨h1,h2⟩:=ih (fun y hy=>h y (List.mem_cons_of_mem _ hy));refine ⟨?_,?_⟩
    · show Brk (tailW (x.1 :: r.map (·.1)));rw [tailW_cons];exact Brk.sp _
    · show Cuts (tailW (x.1 :: r.map (·.1))) ((x.2.1,x.2.2) :: r.map (·.2));rw [tailW_cons];exact Cuts.sp (Cuts.word (h x List.mem_cons_self) h1 h2)
theorem condsT_fst (cs:List S48):∀ link,(condsT link cs).map (·.1)=condsW link cs:=by
  induction cs with
  | nil=>intro _;rfl
  | cons c r ih =>
    intro link;rw [condsT,condsW];simp only [List.map_cons,ih]
    unfold oT wT;split <;> rfl
theorem tagsT_fst (tg:List S50):(tagsT tg).map (·.1)=tagsW tg:=by
  induction tg with
  | nil=>rfl
  | cons t r ih=>rw [tagsT,tagsW];simp only [List.map_cons,ih];rfl
theorem IsW.kw {c:UInt8} {w:List UInt8} (h:(isLet c && w.all isWdB && decide (w.length≤11))=true):IsW (c :: w) 1 (c :: w):=by
  simp only [Bool.and_eq_true,decide_eq_true_iff] at h
  exact IsW.name h.1.1 h.1.2 h.2
theorem IsW.kF (f:Int):IsW (A.kF f) 1 (A.kF f):=by
  unfold A.kF;split
  · exact IsW.kw (by decide)
  split
  · exact IsW.kw (by decide)
  split
  · exact IsW.kw (by decide)
  · exact IsW.kw (by decide)
theorem IsW.kO (f:Int):IsW (A.kO f) 1 (A.kO f):=by
  unfold A.kO;split
  · exact IsW.kw (by decide)
  split
  · exact IsW.kw (by decide)
  split
  · exact IsW.kw (by decide)
  split
  · exact IsW.kw (by decide)
  · exact IsW.kw (by decide)
theorem IsW.itoaB {n:Int} (h:-1000000000000≤n∧n≤1000000000000):IsW (Lib.itoa n) 2 (Lib.itoa n):=by
  obtain ⟨h1,h2,h3,h4⟩:=decDigits_spec n.natAbs;have:=dec_len25 n.natAbs (by omega);by_cases h0:n < 0
  · rw [itoa_neg' h0];exact IsW.numM (headDig_all h2 h3) (num_digs _ h2) (by omega)
  · rw [itoa_pos h0];exact IsW.numD (headDig_all h2 h3) (num_digs _ h2) (by omega)
theorem IsW.oT {c:S48} (h:condS c=0):IsW (A.oT c).1 (A.oT c).2.1 (A.oT c).2.2:=by
  obtain ⟨hs,hr,hf⟩:=condS_ok h;unfold rangB at hr;rw [decide_eq_true_iff] at hr;unfold formB at hf;unfold A.oT opdS;by_cases f1:c.f0=1
  · rw [if_pos (Or.inl f1),if_pos f1];exact IsW.itoaB (hr.1 f1)
  by_cases f4:c.f0=4
  · rw [if_pos (Or.inr f4),if_neg f1,if_pos f4];exact IsW.day _
  · rw [if_neg (by omega),if_neg f1,if_neg f4]
    rw [if_neg (by omega)] at hf;exact IsW.quo hf
theorem condsT_isW {cs:List S48} (h:∀ c∈cs,condS c=0):∀ link,IsW link 1 link→∀ x∈condsT link cs,IsW x.1 x.2.1 x.2.2:=by
  induction cs with
  | nil=>intro _ _ x hx;cases hx
  | cons c r ih =>
    intro link hl x hx;rw [condsT] at hx;rcases List.mem_cons.mp hx with rfl | hx
    · exact hl
    rcases List.mem_cons.mp hx with rfl | hx
    · exact IsW.kF _
    rcases List.mem_cons.mp hx with rfl | hx
    · exact IsW.kO _
    rcases List.mem_cons.mp hx with rfl | hx
    · exact IsW.oT (h c List.mem_cons_self)
    · exact ih (fun y hy=>h y (List.mem_cons_of_mem _ hy)) _ (IsW.kw (by decide)) x hx
theorem tagL_codes {tg:List S50}:∀ {p:Option ByteArray},tagL p tg=true→∀ t∈tg,codeW t.f0.data.toList=true∧codeW t.f1.data.toList=true:=by
  induction tg with
  | nil=>intro p _ t ht;cases ht
  | cons y r ih =>
    intro p h t ht;rw [tagL_cons] at h;simp only [Bool.and_eq_true] at h
    rcases List.mem_cons.mp ht with rfl | ht
    · exact ⟨h.1.1.1,h.1.1.2⟩
    · exact ih h.2 t ht
theorem tagsT_isW {tg:List S50} (h:∀ t∈tg,codeW t.f0.data.toList=true∧codeW t.f1.data.toList=true):∀ x∈tagsT tg,IsW x.1 x.2.1 x.2.2:=by
  induction tg with
  | nil=>intro x hx;cases hx
  | cons t r ih =>
    intro x hx;have ht:=h t List.mem_cons_self;rw [tagsT] at hx;rcases List.mem_cons.mp hx with rfl | hx
    · exact IsW.kw (by decide)
    rcases List.mem_cons.mp hx with rfl | hx
    · exact IsW.code ht.1
    rcases List.mem_cons.mp hx with rfl | hx
    · exact IsW.eq1
    rcases List.mem_cons.mp hx with rfl | hx
    · exact IsW.code ht.2
    · exact ih (fun y hy=>h y (List.mem_cons_of_mem _ hy)) x hx
theorem codeX_at {x:S73} {w:List UInt8} (h:keyX x=keyT (cT w)) (hc:codeW w=true):codeX x=true∧x.f1=oL w:=by
  obtain ⟨h0,h1⟩:=Prod.mk.inj h;refine ⟨?_,h1⟩;show decide (x.f0=1∨x.f0=2)=true
  rw [h0,decide_eq_true_iff];show ((codeK w:Nat):Int)=1∨((codeK w:Nat):Int)=2
  cases w with
  | nil=>exact absurd hc (by decide)
  | cons c r =>
    show (((if isLet c=true then 1 else 2):Nat):Int)=1∨(((if isLet c=true then 1 else 2):Nat):Int)=2
    split
    · exact Or.inl rfl
    · exact Or.inr rfl
theorem numS_kF {f:Int} (h:1≤f∧f≤4):numS fieldL (oL (kF f)) 0=f:=by
  have:f=1∨f=2∨f=3∨f=4:=by omega
  rcases this with rfl | rfl | rfl | rfl <;> decide +kernel
theorem numS_kO {o:Int} (h:1≤o∧o≤5):numS opL (oL (kO o)) 0=o:=by
  have:o=1∨o=2∨o=3∨o=4∨o=5:=by omega
  rcases this with rfl | rfl | rfl | rfl | rfl <;> decide +kernel
theorem run_val (cs:List S48):(∀ c∈cs,condS c=0)→∀ (A:List S48) (X:List S73),X.map keyX=cs.map (fun c=>keyT (oT c))→Ev (fun k=>valL k X A.length (A++cs.map blankC)) (A++cs,0,0):=by
  induction cs with
  | nil =>
    intro _ A X hX;obtain rfl:=List.map_eq_nil_iff.mp hX;exact Ev.is (by rw [List.map_nil])
  | cons c r ih =>
    intro hc A X hX;have h0:=hc c List.mem_cons_self;obtain ⟨su,rg,fm⟩:=condS_ok h0;rw [List.map_cons] at hX;obtain ⟨x,X,rfl,e,hX⟩:=List.map_eq_cons_iff.mp hX;obtain ⟨_,b⟩:=Prod.mk.inj e;unfold rangB at rg;rw [decide_eq_true_iff] at rg;unfold formB at fm;obtain ⟨r1,r2⟩:=suit_rng su
    have hr:rd_T48 (A++List.map blankC (c :: r)) (A.length:Int)=blankC c:=by
      unfold rd_T48;rw [Int.toNat_natCast,List.getD_eq_getElem?_getD,List.getElem?_append_right (Nat.le_refl _),Nat.sub_self];rfl
    have hset:∀ y,(A++List.map blankC (c :: r)).set A.length y=(A++[y])++r.map blankC:=fun y=>by
      rw [List.set_append_right _ _ (Nat.le_refl _),Nat.sub_self,List.append_assoc];rfl
    have hv:Ev (fun k=>valC k (blankC c) x) (c,0):=by
      unfold valC;show Ev (fun k=>if c.f0=1 then _ else if c.f0=4 then _ else _) _
      refine Ev.both (fun f1=>?_) (fun f1=>Ev.both (fun f4=>?_) (fun f4=>Ev.is ?_))
      · rw [if_pos (Or.inl f1),beq_iff_eq] at fm
        have hb:x.f1=oL (Lib.itoa c.f3):=by rw [b];unfold oT;rw [if_pos (Or.inl f1)];show oL (opdS c)=_;unfold opdS;rw [if_pos f1]
        have hlen:x.f1.size≤140737488351232:=by rw [hb,oL_size];have:=Lib.itoa_length_le c.f3 (by omega) (by omega);omega
        rw [num_Parse_at _ _ _ hlen,hb,oL_list,parse_itoa _ _ _ (by unfold I64;omega) (rg.1 f1).1 (rg.1 f1).2];refine Ev.is ?_;have:c.f2=⟨#[]⟩:=by rw [← oL_data c.f2,← ByteArray.toList_eq,fm];rfl
        show ((⟨c.f0,c.f1,⟨#[]⟩,c.f3⟩:S48),(0:Int))=(c,0)
        rw [← this]
      · rw [if_pos (Or.inr f4),beq_iff_eq] at fm
        have hb:x.f1=oL (dtx c.f3):=by rw [b];unfold oT;rw [if_pos (Or.inr f4)];show oL (opdS c)=_;unfold opdS;rw [if_neg f1,if_pos f4]
        have hd:dayB c.f3=true:=by unfold dayB;exact decide_eq_true (by omega)
        rw [hb];refine Ev.bind (days_Parse_ev _ (by have:=dtx_len hd;omega)) ?_;rw [dparse_dtx hd];refine Ev.is ?_;have:c.f2=⟨#[]⟩:=by rw [← oL_data c.f2,← ByteArray.toList_eq,fm];rfl
        show ((⟨c.f0,c.f1,⟨#[]⟩,c.f3⟩:S48),(0:Int))=(c,0)
        rw [← this]
      · have hb:x.f1=c.f2:=by rw [b];unfold oT;rw [if_neg (by omega)];exact oL_data _
        have:c.f3=0:=rg.2.2 (by omega);show ((⟨c.f0,c.f1,x.f1,0⟩:S48),(0:Int))=(c,0)
        rw [hb,← this]
    refine Ev.congr (fun k=>by rw [valL]) (Ev.yes (by rw [List.length_append,List.length_map,List.length_cons];omega) ?_);rw [hr];refine Ev.bind hv (Ev.yes rfl ?_);have:=ih (fun y hy=>hc y (List.mem_cons_of_mem _ hy)) (A++[c]) X hX;rw [List.length_append,List.length_singleton,List.append_assoc A [c] r] at this;rw [hset];exact this
theorem r09_Same_l0 (tg:List S50) (hl:tg.length≤1000) (R:List S50):∀ i:Nat,tg.drop i=R→Ev (fun k=>rf09_Same.l0 k tg tg (i:Int)) true:=by
  induction R with
  | nil =>
    intro i h;have:=List.drop_eq_nil_iff.mp h;refine Ev.step (fun k=>by rw [rf09_Same.l0]) (Ev.no (by omega) (Ev.is rfl))
  | cons x r ih =>
    intro i h;obtain ⟨hi,hx,hr⟩:=rd50_at h;refine Ev.step (fun k=>by rw [rf09_Same.l0]) (Ev.yes (by omega) (Ev.yes (by omega) (Ev.yes (by omega) (Ev.no (by simp) ?_))));rw [w_next i (by omega)];exact ih (i+1) hr
theorem r48_Same_l0 (nm:ByteArray) (cs:List S48) (acc par:ByteArray) (tg:List S50) (hl:cs.length≤1000) (R:List S48):∀ i:Nat,cs.drop i=R→Ev (fun k=>rf48_Same.l0 k (i:Int) nm cs acc par tg nm cs acc par tg) true:=by
  induction R with
  | nil =>
    intro i h;have:=List.drop_eq_nil_iff.mp h;refine Ev.step (fun k=>by rw [rf48_Same.l0]) (Ev.no (by omega) (Ev.is rfl))
  | cons x r ih =>
    intro i h;obtain ⟨hi,hx,hr⟩:=rd48_at h;refine Ev.step (fun k=>by rw [rf48_Same.l0]) (Ev.yes (by omega) (Ev.yes (by omega) (Ev.yes (by omega) (Ev.no (by simp) ?_))));rw [w_next i (by omega)];exact ih (i+1) hr
theorem r48_Same_refl (nm:ByteArray) (cs:List S48) (acc par:ByteArray) (tg:List S50) (hl:cs.length≤1000) (ht:tg.length≤1000):Ev (fun k=>rf48_Same.f k nm cs acc par tg nm cs acc par tg) true:=by
  unfold rf48_Same.f;refine Ev.yes rfl (Ev.yes rfl (Ev.yes rfl (Ev.yes rfl (Ev.bind (a:=true) ?_ ?_))))
  · unfold rf09_Same.f
    exact Ev.yes rfl (r09_Same_l0 tg ht tg 0 rfl)
  · refine Ev.step (fun k=>by rw [rf48_Same.j0]) ?_
    exact Ev.no (by decide) (r48_Same_l0 nm cs acc par tg hl cs 0 rfl)
end Go.Proofs.YtkbgkekegjfkfaaGreatDoor.A
namespace Go.Proofs.YtkbgkekegjfkfaaGreatDoor.A
open Go.RowKit B WW WL WM
section
variable (k:Nat) (nm:ByteArray) (cs:List S48) (acc par:ByteArray) (tg:List S50) (ws:List S73) (x:S73) (code:Bool)
theorem mv0:moveR k ⟨nm,cs,acc,par,tg,0,ws⟩ x code=some (⟨nm,cs,acc,par,tg,0,ws⟩,fol (keyB x (oL ruleL)) 1):=rfl
theorem mv1:moveR k ⟨nm,cs,acc,par,tg,1,ws⟩ x code=some (⟨x.f1,cs,acc,par,tg,1,ws⟩,fol code 2):=rfl
theorem mv2:moveR k ⟨nm,cs,acc,par,tg,2,ws⟩ x code=some (⟨nm,cs,acc,par,tg,2,ws⟩,fol (keyB x (oL [105,102])) 3):=rfl
theorem mv3:moveR k ⟨nm,cs,acc,par,tg,3,ws⟩ x code=if cs.length≤1000000 then some (⟨nm,cs++[⟨numS fieldL x.f1 0,0,⟨#[]⟩,0⟩],acc,par,tg,3,ws⟩,fol (decide (x.f0=1∧numS fieldL x.f1 0 > 0)) 4) else none:=rfl
theorem mv4:moveR k ⟨nm,cs,acc,par,tg,4,ws⟩ x code=if 0 < cs.length then (rules_suits.f k (rd_T48 cs ((cs.length - 1:Nat):Int)).f0 (numS opL x.f1 0)).bind fun b=>some (⟨nm,cs.set (cs.length - 1) { rd_T48 cs ((cs.length - 1:Nat):Int) with f1:=numS opL x.f1 0 },acc,par,tg,4,ws⟩,fol (decide (x.f0=1) && b) 5) else none:=rfl
theorem mv5:moveR k ⟨nm,cs,acc,par,tg,5,ws⟩ x code=if ws.length≤1000000∧0 < cs.length then some (⟨nm,cs,acc,par,tg,5,ws++[x]⟩,if (rd_T48 cs ((cs.length - 1:Nat):Int)).f0=1∨(rd_T48 cs ((cs.length - 1:Nat):Int)).f0=4 then fol (decide (x.f0=2)) 6 else fol (decide (x.f0=3)) 6) else none:=rfl
theorem mv6:moveR k ⟨nm,cs,acc,par,tg,6,ws⟩ x code=some (⟨nm,cs,acc,par,tg,6,ws⟩,if keyB x (oL [97,110,100])=true then 3 else fol (keyB x (oL [116,104,101,110])) 7):=rfl
theorem mv7:moveR k ⟨nm,cs,acc,par,tg,7,ws⟩ x code=some (⟨nm,cs,x.f1,par,tg,7,ws⟩,fol code 8):=rfl
theorem mv8:moveR k ⟨nm,cs,acc,par,tg,8,ws⟩ x code=some (⟨nm,cs,acc,par,tg,8,ws⟩,if keyB x (oL [112,97,114,116,121])=true then 9 else fol (keyB x (oL [116,97,103])) 10):=rfl
theorem mv9:moveR k ⟨nm,cs,acc,par,tg,9,ws⟩ x code=some (⟨nm,cs,acc,x.f1,tg,9,ws⟩,fol code 13):=rfl
theorem mv10:moveR k ⟨nm,cs,acc,par,tg,10,ws⟩ x code=if tg.length≤1000000 then some (⟨nm,cs,acc,par,tg++[⟨x.f1,⟨#[]⟩⟩],10,ws⟩,fol code 11) else none:=rfl
theorem mv11:moveR k ⟨nm,cs,acc,par,tg,11,ws⟩ x code=some (⟨nm,cs,acc,par,tg,11,ws⟩,fol (decide (x.f0=4) && (x.f1.toList == ([61]:List UInt8))) 12):=rfl
theorem mv12:moveR k ⟨nm,cs,acc,par,tg,12,ws⟩ x code=if 0 < tg.length then some (⟨nm,cs,acc,par,tg.set (tg.length - 1) { rd_T50 tg ((tg.length - 1:Nat):Int) with f1:=x.f1 },12,ws⟩,fol code 13) else none:=rfl
theorem mv13:moveR k ⟨nm,cs,acc,par,tg,13,ws⟩ x code=some (⟨nm,cs,acc,par,tg,13,ws⟩,fol (keyB x (oL [116,97,103])) 10):=rfl
end
end Go.Proofs.YtkbgkekegjfkfaaGreatDoor.A
namespace Go.Proofs.YtkbgkekegjfkfaaGreatDoor.A
open Go.RowKit B WW WL WM
theorem run_conds (s:ByteArray) (v:RRes) (nm:ByteArray) (rest:List (Int×ByteArray)) (cs:List S48):(∀ c∈cs,condS c=0)→∀ (link:List UInt8) (st:Int) (C:List S48) (X R:List S73),
    ((st=6∧link=[97,110,100])∨(st=2∧link=[105,102]∧cs≠[]))→C.length+cs.length≤1000→X.length+cs.length≤1000→R.map keyX=(condsT link cs).map keyT++rest →
    (∀ R' Y,R'.map keyX=rest→Y.map keyX=cs.map (fun c=>keyT (oT c))→Ev (fun k=>runP k s R' ⟨nm,C++cs.map blankC,⟨#[]⟩,⟨#[]⟩,[],6,X++Y⟩) v) →
    Ev (fun k=>runP k s R ⟨nm,C,⟨#[]⟩,⟨#[]⟩,[],st,X⟩) v:=by
  induction cs with
  | nil =>
    intro _ link st C X R hl _ _ hR K;rcases hl with ⟨rfl,rfl⟩ | ⟨_,_,h⟩
    · have:=K R [] hR rfl
      rw [List.map_nil,List.append_nil,List.append_nil] at this;exact this
    · exact absurd rfl h
  | cons c r ih =>
    intro hc link st C X R hl h1 h2 hR K;have h0:=hc c List.mem_cons_self;obtain ⟨su,_,_⟩:=condS_ok h0;obtain ⟨r1,r2⟩:=suit_rng su;rw [List.length_cons] at h1 h2;rw [condsT,List.map_cons,List.map_cons,List.map_cons,List.map_cons] at hR;obtain ⟨x1,R,rfl,e1,hR⟩:=List.map_eq_cons_iff.mp hR;obtain ⟨x2,R,rfl,e2,hR⟩:=List.map_eq_cons_iff.mp hR;obtain ⟨x3,R,rfl,e3,hR⟩:=List.map_eq_cons_iff.mp hR;obtain ⟨x4,R,rfl,e4,hR⟩:=List.map_eq_cons_iff.mp hR;obtain ⟨a2,b2⟩:=Prod.mk.inj e2;obtain ⟨a3,b3⟩:=Prod.mk.inj e3
    have s1:Ev (fun k=>moveR k ⟨nm,C,⟨#[]⟩,⟨#[]⟩,[],st,X⟩ x1 (codeX x1)) (⟨nm,C,⟨#[]⟩,⟨#[]⟩,[],st,X⟩,3):=by
      rcases hl with ⟨rfl,rfl⟩ | ⟨rfl,rfl,_⟩
      · exact Ev.congr (fun k=>mv6 _ _ _ _ _ _ _ _ _) (Ev.is (by rw [keyB_at e1,if_pos (by decide)]))
      · exact Ev.congr (fun k=>mv2 _ _ _ _ _ _ _ _ _) (Ev.is (by rw [keyB_at e1];rfl))
    refine runP_step s1 (by decide) ?_
    have s2:Ev (fun k=>moveR k ⟨nm,C,⟨#[]⟩,⟨#[]⟩,[],3,X⟩ x2 (codeX x2)) (⟨nm,C++[⟨c.f0,0,⟨#[]⟩,0⟩],⟨#[]⟩,⟨#[]⟩,[],3,X⟩,4):=by
      refine Ev.congr (fun k=>mv3 _ _ _ _ _ _ _ _ _) (Ev.yes (by omega) (Ev.is ?_));rw [b2,show oL (wT (kF c.f0)).2.2=oL (kF c.f0) from rfl,numS_kF r1,decide_eq_true ⟨a2,by omega⟩];rfl
    refine runP_step s2 (by decide) ?_
    have s3:Ev (fun k=>moveR k ⟨nm,C++[⟨c.f0,0,⟨#[]⟩,0⟩],⟨#[]⟩,⟨#[]⟩,[],4,X⟩ x3 (codeX x3)) (⟨nm,C++[blankC c],⟨#[]⟩,⟨#[]⟩,[],4,X⟩,5):=by
      refine Ev.congr (fun k=>mv4 _ _ _ _ _ _ _ _ _) (Ev.yes (by rw [List.length_append,List.length_singleton];omega) ?_);rw [b3,show oL (wT (kO c.f1)).2.2=oL (kO c.f1) from rfl,numS_kO r2,rd48_last,set_last];refine Ev.bind (suits_at _ _) (Ev.is ?_);rw [su,decide_eq_true (show x3.f0=1 from a3)];rfl
    refine runP_step s3 (by decide) ?_
    have s4:Ev (fun k=>moveR k ⟨nm,C++[blankC c],⟨#[]⟩,⟨#[]⟩,[],5,X⟩ x4 (codeX x4)) (⟨nm,C++[blankC c],⟨#[]⟩,⟨#[]⟩,[],5,X++[x4]⟩,6):=by
      refine Ev.congr (fun k=>mv5 _ _ _ _ _ _ _ _ _) (Ev.yes ⟨by omega,by rw [List.length_append,List.length_singleton];omega⟩ (Ev.is ?_));rw [rd48_last,show (blankC c).f0=c.f0 from rfl];obtain ⟨a4,_⟩:=Prod.mk.inj e4;unfold oT at a4;by_cases n:c.f0=1∨c.f0=4
      · rw [if_pos n] at a4
        rw [if_pos n,decide_eq_true (show x4.f0=2 from a4)];rfl
      · rw [if_neg n] at a4
        rw [if_neg n,decide_eq_true (show x4.f0=3 from a4)];rfl
    refine runP_step s4 (by decide) ?_;refine ih (fun y hy=>hc y (List.mem_cons_of_mem _ hy)) [97,110,100] 6 (C++[blankC c]) (X++[x4]) R (Or.inl ⟨rfl,rfl⟩) (by rw [List.length_append,List.length_singleton];omega) (by rw [List.length_append,List.length_singleton];omega) hR (fun R' Y hR' hY=>?_);have:=K R' (x4 :: Y) hR' (by rw [List.map_cons,List.map_cons,hY,e4]);rw [List.append_assoc,List.append_assoc];exact this
theorem run_tags (s:ByteArray) (v:RRes) (nm:ByteArray) (C:List S48) (acc par:ByteArray) (X:List S73) (tg:List S50):(∀ t∈tg,codeW t.f0.data.toList=true∧codeW t.f1.data.toList=true)→∀ (st:Int) (G:List S50) (R:List S73),
    (st=13∨st=8)→G.length+tg.length≤1000→R.map keyX=(tagsT tg).map keyT →
    (∀ st,(st=13∨st=8)→Ev (fun k=>finP k s (⟨nm,C,acc,par,G++tg,st,X⟩,0,0)) v)→Ev (fun k=>runP k s R ⟨nm,C,acc,par,G,st,X⟩) v:=by
  induction tg with
  | nil =>
    intro _ st G R hst _ hR K;obtain rfl:=List.map_eq_nil_iff.mp hR;have:=K st hst;rw [List.append_nil] at this;exact runP_nil this
  | cons t r ih =>
    intro hc st G R hst hl hR K;obtain ⟨c1,c2⟩:=hc t List.mem_cons_self;rw [List.length_cons] at hl;rw [tagsT,List.map_cons,List.map_cons,List.map_cons,List.map_cons] at hR;obtain ⟨x1,R,rfl,e1,hR⟩:=List.map_eq_cons_iff.mp hR;obtain ⟨x2,R,rfl,e2,hR⟩:=List.map_eq_cons_iff.mp hR;obtain ⟨x3,R,rfl,e3,hR⟩:=List.map_eq_cons_iff.mp hR;obtain ⟨x4,R,rfl,e4,hR⟩:=List.map_eq_cons_iff.mp hR;obtain ⟨d2,b2⟩:=codeX_at e2 c1;obtain ⟨d4,b4⟩:=codeX_at e4 c2;obtain ⟨a3,b3⟩:=Prod.mk.inj e3
    have s1:Ev (fun k=>moveR k ⟨nm,C,acc,par,G,st,X⟩ x1 (codeX x1)) (⟨nm,C,acc,par,G,st,X⟩,10):=by
      rcases hst with rfl | rfl
      · exact Ev.congr (fun k=>mv13 _ _ _ _ _ _ _ _ _) (Ev.is (by rw [keyB_at e1];rfl))
      · exact Ev.congr (fun k=>mv8 _ _ _ _ _ _ _ _ _) (Ev.is (by rw [keyB_at e1,keyB_at e1,if_neg (by decide)];rfl))
    refine runP_step s1 (by decide) ?_
    have s2:Ev (fun k=>moveR k ⟨nm,C,acc,par,G,10,X⟩ x2 (codeX x2)) (⟨nm,C,acc,par,G++[⟨t.f0,⟨#[]⟩⟩],10,X⟩,11):=by
      refine Ev.congr (fun k=>mv10 _ _ _ _ _ _ _ _ _) (Ev.yes (by omega) (Ev.is ?_));rw [d2,b2,oL_data];rfl
    refine runP_step s2 (by decide) ?_
    have s3:Ev (fun k=>moveR k ⟨nm,C,acc,par,G++[⟨t.f0,⟨#[]⟩⟩],11,X⟩ x3 (codeX x3)) (⟨nm,C,acc,par,G++[⟨t.f0,⟨#[]⟩⟩],11,X⟩,12):=by
      refine Ev.congr (fun k=>mv11 _ _ _ _ _ _ _ _ _) (Ev.is ?_);rw [b3,decide_eq_true (show x3.f0=4 from a3),oL_toList];rfl
    refine runP_step s3 (by decide) ?_
    have s4:Ev (fun k=>moveR k ⟨nm,C,acc,par,G++[⟨t.f0,⟨#[]⟩⟩],12,X⟩ x4 (codeX x4)) (⟨nm,C,acc,par,G++[t],12,X⟩,13):=by
      refine Ev.congr (fun k=>mv12 _ _ _ _ _ _ _ _ _) (Ev.yes (by rw [List.length_append,List.length_singleton];omega) (Ev.is ?_));rw [rd50_last,set_last,d4,b4,oL_data];rfl
    refine runP_step s4 (by decide) ?_;refine ih (fun y hy=>hc y (List.mem_cons_of_mem _ hy)) 13 (G++[t]) R (Or.inl rfl) (by rw [List.length_append,List.length_singleton];omega) hR (fun st hst=>?_);have:=K st hst;rw [List.append_assoc];exact this
end Go.Proofs.YtkbgkekegjfkfaaGreatDoor.A
namespace Go.Proofs.YtkbgkekegjfkfaaGreatDoor.B
open Go.Deep Go.ChangeShapes Go.WideShapes Go.ChangeAt Go.Joins WW
theorem weights_mem_all {H:Type} {P:Program} {e:TypeId} {l:List (DataW H)} {d:DataW H} (h:d∈l) {x:Nat} (hx:x∈d.weights P e):x∈DataW.weightsAll P e l:=by
  induction l with
  | nil=>cases h
  | cons a l ih =>
    rw [DataW.weightsAll];rcases List.mem_cons.mp h with rfl | h
    · exact List.mem_append_left _ hx
    · exact List.mem_append_right _ (ih h)
theorem Opens.slice {α:Type} {P:Program} {t e:TypeId} {d:Kd α} {G:α→Prop} (ht:P.underlying t=some (.slice e)) (hc:P.cellsOf t=1) (h:Opens P e d G):Opens P t (Kd.slice e d) (fun xs=>(∀ x∈xs,G x)∧xs.length≤maxLen∧xs.length * P.bytesOf e≤140737488351232) where
  size:=hc
  get:=by
    intro H enc W base spare held n cs y hh hw;rcases open_slice ht hh with ⟨rfl,_⟩ | ⟨a,len,cap,m,n',D,Pl,rfl,_,hlc,hcm,hm,rfl,hel⟩
    · exact ⟨[],⟨none,0,rfl,Nat.le_refl _,rfl,Nat.zero_le _,fun h=>absurd h (Nat.lt_irrefl _)⟩,⟨fun x hx=>(by cases hx),Nat.zero_le _,by simp⟩⟩
    · have hml:len≤m:=by rw [hm];split <;> omega
      have hw1:∀ i,i < len→∀ x∈(D i).weights P e,x≤reachBytes:=by
        intro i hi x hx;refine hw x ?_;show x∈DataW.weights P t (.slice ((List.range len).map D) _)
        rw [DataW.weights,ht];refine List.mem_cons_of_mem _ (List.mem_append_left _ ?_);exact weights_mem_all (List.mem_map.mpr ⟨i,List.mem_range.mpr hi,rfl⟩) hx
      have hw2:len * P.bytesOf e≤140737488351232:=by
        have:=hw ((((List.range len).map D).length+((List.range (m - len)).map fun j=>D (len+j)).length) * P.bytesOf e) (by
          show _∈DataW.weights P t (.slice ((List.range len).map D) _)
          rw [DataW.weights,ht];exact List.mem_cons_self ..)
        rw [List.length_map,List.length_range] at this;exact Nat.le_trans (Nat.mul_le_mul_right _ (Nat.le_add_right _ _)) this
      have key:∀ i,i < len→∃ x:α,∃ cs',W.cells? base (a.add (i * d.sz)) d.sz=some cs'∧d.K W x cs'∧G x:=by
        intro i hi;obtain ⟨cs',h1,h2⟩:=hel i (by omega);obtain ⟨x,hx,hg⟩:=h.get h2 (hw1 i hi);rw [h.size] at h1;exact ⟨x,cs',h1,hx,hg⟩
      have build:∀ k,k≤len→∃ xs:List α,xs.length=k∧∀ j x,xs[j]?=some x→∃ cs',W.cells? base (a.add (j * d.sz)) d.sz=some cs'∧d.K W x cs'∧G x:=by
        intro k;induction k with
        | zero=>intro _;exact ⟨[],rfl,fun j x hj=>by simp at hj⟩
        | succ k ih =>
          intro hk;obtain ⟨xs,hxs,hget⟩:=ih (by omega);obtain ⟨x,hx⟩:=key k (by omega);refine ⟨xs++[x],by rw [List.length_append,hxs];rfl,fun j z hj=>?_⟩;by_cases hjk:j < k
          · rw [List.getElem?_append_left (by omega)] at hj;exact hget j z hj
          · rw [List.getElem?_append_right (by omega)] at hj
            obtain rfl:j=k:=by
              have:=(List.getElem?_eq_some_iff.mp hj).1;rw [List.length_singleton] at this;omega
            rw [hxs,Nat.sub_self] at hj;obtain rfl:x=z:=Option.some.inj hj;exact hx
      obtain ⟨xs,hxs,hget⟩:=build len (Nat.le_refl _);unfold maxLen at hcm;refine ⟨xs,⟨some a,cap,by rw [hxs],by omega,rfl,by omega,fun _=>⟨a,rfl,fun j x hj=>?_⟩⟩,⟨fun x hx=>?_,by unfold maxLen;omega,by rw [hxs];exact hw2⟩⟩
      · obtain ⟨cs',h1,h2,_⟩:=hget j x hj
        refine ⟨cs',d.K_len h2,h2,fun i u hu=>?_⟩;obtain ⟨_,h4,h3⟩:=World.cells?_some h1;have hi:=(List.getElem?_eq_some_iff.mp hu).1;have h5:=h3 i (by omega);rw [← hu,← h5,Deep.add_add]
      · obtain ⟨j,hj⟩:=List.getElem?_of_mem hx
        obtain ⟨_,_,_,hg⟩:=hget j x hj;exact hg
end Go.Proofs.YtkbgkekegjfkfaaGreatDoor.B
namespace Go.Proofs.YtkbgkekegjfkfaaGreatDoor.A
open Go.ChangeShapes Go.WideShapes Go.ChangeAt Go.Joins Go.RowKit B WW
abbrev KRule:=Kd.pair Kd.string (Kd.pair (Kd.slice 48 k48) (Kd.pair Kd.string (Kd.pair Kd.string (Kd.slice 50 k50))))
set_option maxRecDepth 100000 in
theorem opens_rule:Opens Tryz.prog 25 KRule GRule :=
  Opens.struct (fs := #[⟨"Name", 9, 0, false, "", "", 0⟩, ⟨"Conds", 22, 1, false, "", "", 16⟩, ⟨"Account", 9, 2, false, "", "", 40⟩, ⟨"Party", 9, 3, false, "", "", 56⟩, ⟨"Tags", 23, 4, false, "", "", 72⟩]) (by kernel_rfl) (by kernel_rfl)
    (OpensF.cons (Opens.string Tryz.underlying9 (by kernel_rfl)) rfl (OpensF.cons (Opens.slice (by kernel_rfl) (by kernel_rfl) opens_cond) rfl (OpensF.cons (Opens.string Tryz.underlying9 (by kernel_rfl)) rfl (OpensF.cons (Opens.string Tryz.underlying9 (by kernel_rfl)) rfl (OpensF.one (Opens.slice (by kernel_rfl) (by kernel_rfl) opens_tag) rfl) rfl) rfl) rfl) rfl)
set_option maxRecDepth 100000 in
theorem open_rule {H:Type} {enc:TypeId×Value→H} {W:World} {base b0:Nat} {spare:Nat→Bool} {held:Bool} {r:Reach} {v:Value} {y:DataW H} {p:List MemPlace}
    (hv:Value.okWide Tryz.prog W r b0 25 v) (hh:DataW.Trod enc Tryz.prog W base spare held 25 v y p) (hw:∀ x∈y.weights Tryz.prog 25,x≤reachBytes) :
    ∃ (nm acc par:ByteArray) (A1:Option Addr) (c1:Nat) (cs:List S48) (A4:Option Addr) (c4:Nat) (tg:List S50),v=.agg #[.string nm,.slice A1 cs.length c1,.string acc,.string par,.slice A4 tg.length c4]∧(cs.length≤c1∧Kd.C k48 W A1 cs.length cs∧tg.length≤c4∧Kd.C k50 W A4 tg.length tg) ∧
      ((nm.size≤140737488351232∧acc.size≤140737488351232∧par.size≤140737488351232)∧(∀ x∈cs,x.f2.size≤140737488351232)∧∀ x∈tg,x.f0.size≤140737488351232∧x.f1.size≤140737488351232)∧∀ x∈cs,I64 x.f0∧I64 x.f1∧I64 x.f3:=by
  obtain ⟨cv,⟨nm,cs,acc,par,tg⟩,rfl,⟨_,_,hcs,rfl,_,_,rfl,⟨A1,c1,rfl,h1,h2⟩,_,_,rfl,rfl,_,_,rfl,rfl,A4,c4,rfl,h3,h4⟩,g1,⟨g2,_,_⟩,g3,g4,g5,_,_⟩:=opens_rule.agg Tryz.underlying25 hv hh hw;obtain ⟨l⟩:=cv;obtain rfl:l=_:=hcs;exact ⟨nm,acc,par,A1,c1,cs,A4,c4,tg,rfl,⟨h1,h2,h3,h4⟩,⟨⟨g1,g3,g4⟩,fun x hx=>(g2 x hx).2.2.1,g5⟩,fun x hx=>⟨bounds_i64 (g2 x hx).1,bounds_i64 (g2 x hx).2.1,bounds_i64 (g2 x hx).2.2.2⟩⟩
end Go.Proofs.YtkbgkekegjfkfaaGreatDoor.A
