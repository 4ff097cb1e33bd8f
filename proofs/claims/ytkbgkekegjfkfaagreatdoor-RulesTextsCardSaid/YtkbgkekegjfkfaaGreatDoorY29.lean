-- By pack.py, a program of this session's.
import Derived.Test.YtkbgkekegjfkfaaGreatDoorY27
import Derived.Test.YtkbgkekegjfkfaaGreatDoorY28
set_option linter.unusedVariables false
set_option linter.unusedSimpArgs false
namespace Go.Proofs.YtkbgkekegjfkfaaGreatDoor.A
open Go.RowKit B WW WL WM
theorem r48_Check_l0 (nm acc par:ByteArray) (tg:List S50) (cs:List S48) (hs:ShortC cs) (hl:cs.length≤1000) (R:List S48):∀ i:Nat,cs.drop i=R→Ev (fun k=>rf48_Check.l0 k (i:Int) nm cs acc par tg) (checkC R):=by
  induction R with
  | nil =>
    intro i h;have:=List.drop_eq_nil_iff.mp h;refine Ev.step (fun k=>by rw [rf48_Check.l0]) ?_;exact Ev.no (by omega) (Ev.is rfl)
  | cons x r ih =>
    intro i h;obtain ⟨hi,hx,hr⟩:=rd48_at h;have hm:=hs x (List.mem_of_mem_drop (i:=i) (by rw [h];exact List.mem_cons_self));refine Ev.step (fun k=>by rw [rf48_Check.l0]) (Ev.yes (by omega) (Ev.yes (by omega) ?_));rw [hx,w_next i (by omega),checkC];exact Ev.bind (r48_cond_ev x hm) (Ev.both (fun e=>by rw [if_pos e];exact ih (i+1) hr) (fun e=>Ev.is (by rw [if_neg e])))
theorem r48_Check_ev (nm:ByteArray) (cs:List S48) (acc par:ByteArray) (tg:List S50) (h1:nm.size≤1000000) (h2:acc.size≤1000000) (h3:par.size≤1000000) (hc:ShortC cs) (ht:ShortT tg) (hl:tg.length≤1000) :
    Ev (fun k=>rf48_Check.f k nm cs acc par tg) (checkS nm cs acc par tg):=by
  have j:∀ b:Bool,b=!(nameB nm acc par)→Ev (fun k=>rf48_Check.j0 k b nm cs acc par tg) (checkS nm cs acc par tg):=fun b hb=>by
    refine Ev.step (fun k=>by rw [rf48_Check.j0]) ?_;unfold checkS
    cases n:nameB nm acc par with
    | false=>rw [hb,n,if_neg (by decide)];exact Ev.yes rfl (Ev.is rfl)
    | true =>
      rw [hb,n,if_pos rfl];refine Ev.no (by decide) (Ev.bind (r09_Right_ev tg ht hl) (Ev.both (fun e=>?_) (fun e=>Ev.is (by rw [if_neg e]))));rw [if_pos e];refine Ev.both (fun a=>Ev.is (by rw [if_pos (by omega)])) (fun a=>Ev.both (fun b=>Ev.is (by rw [if_neg (by omega),if_pos (by omega)])) (fun b=>?_));rw [if_neg (by omega),if_neg (by omega)];exact r48_Check_l0 nm acc par tg cs hc (by omega) cs 0 rfl
  unfold rf48_Check.f;unfold nameB at j;refine Ev.bind (ref06_Code_at _ h1) (Ev.both (fun a=>Ev.bind (ref06_Code_at _ h2) (Ev.both (fun b=>Ev.both (fun c=>j _ ?_) (fun c=>Ev.bind (ref06_Code_at _ h3) (j _ ?_))) (fun b=>j _ ?_))) (fun a=>j _ ?_))
  · rw [a,b,decide_eq_true c];rfl
  · rw [a,b,decide_eq_false c];simp
  · rw [a,Bool.eq_false_iff.mpr b];rfl
  · rw [Bool.eq_false_iff.mpr a];rfl
theorem txtL_len {nm:ByteArray} {cs:List S48} {acc par:ByteArray} {tg:List S50} (hs:SmallR nm cs acc par tg) (h:checkS nm cs acc par tg=0):(txtL nm cs acc par tg).length≤100000:=by
  have h1:=condsW_len (checkS_conds h).2.2.2.2 [105,102] (by decide);have h2:=tagsW_len hs.t;have h3:=partyW_len par;have h4:=hs.ln;have h5:=hs.lc;have h6:=hs.lt;rw [size_eq',size_eq'] at h4;unfold txtL restW;rw [tailW_cons,tailW_append,tailW_cons,tailW_cons,tailW_append];simp only [List.length_cons,List.length_append,List.length_nil,ruleL]
  omega
theorem rules_Text_ev {nm:ByteArray} {cs:List S48} {acc par:ByteArray} {tg:List S50} (hs:SmallR nm cs acc par tg):Ev (fun k=>rules_Text.f k nm cs acc par tg) (textS nm cs acc par tg):=by
  unfold rules_Text.f textS;refine Ev.bind hs.check (Ev.both (fun e=>?_) (fun e=>Ev.is (by rw [if_neg e])));rw [if_pos e];refine Ev.yes ⟨by have:=hs.lc;omega,by have:=hs.lt;omega⟩ ?_;refine Ev.bind (txC_ev (checkS_conds e).2.2.2.2 hs.c [ruleB,nm] [105,102]) ?_
  have hw:txT tg (if par.toList=[] then ([ruleB,nm]++(condsW [105,102] cs).map oL)++[thenB,acc] else ([ruleB,nm]++(condsW [105,102] cs).map oL)++[thenB,acc]++[partyB,par])=(ruleL :: restW nm cs acc par tg).map oL:=by
    rw [txT_eq];unfold restW partyW;split
    · simp only [List.map_cons,List.map_append,oL_data,List.append_assoc,List.cons_append,List.nil_append];rfl
    · simp only [List.map_cons,List.map_append,oL_data,List.append_assoc,List.cons_append,List.nil_append];rfl
  rw [hw];unfold txJ;rw [joinB_eq,show ruleL++tailW (restW nm cs acc par tg)=txtL nm cs acc par tg from rfl,oL_size];have hl:=txtL_len hs e
  have hn:((ruleL :: restW nm cs acc par tg).map oL).length≤140737488355328:=by
    have:∀ ws:List (List UInt8),ws.length≤(tailW ws).length:=fun ws=>by
      induction ws with
      | nil=>exact Nat.zero_le _
      | cons w r ih=>rw [tailW_cons];simp only [List.length_cons,List.length_append];omega
    have:=this (restW nm cs acc par tg);have e2:(txtL nm cs acc par tg).length=4+(tailW (restW nm cs acc par tg)).length:=by unfold txtL;rw [List.length_append];rfl
    rw [List.length_map,List.length_cons];omega
  exact Ev.yes ⟨hn,by omega⟩ (Ev.both (fun a=>Ev.is (by rw [if_pos a])) (fun a=>Ev.is (by rw [if_neg a])))
theorem restT_fst (nm:ByteArray) (cs:List S48) (acc par:ByteArray) (tg:List S50):(restT nm cs acc par tg).map (·.1)=restW nm cs acc par tg:=by
  unfold restT restW;simp only [List.map_cons,List.map_append,condsT_fst,tagsT_fst,partyT_fst]
  rfl
theorem restT_isW {nm:ByteArray} {cs:List S48} {acc par:ByteArray} {tg:List S50} (h:checkS nm cs acc par tg=0):∀ x∈restT nm cs acc par tg,IsW x.1 x.2.1 x.2.2:=by
  obtain ⟨hn,ht,_,_,hc⟩:=checkS_conds h;unfold nameB at hn;unfold tagsOk at ht;simp only [Bool.and_eq_true,Bool.or_eq_true,decide_eq_true_iff] at hn ht
  intro x hx;unfold restT at hx;rcases List.mem_cons.mp hx with rfl | hx
  · exact IsW.code hn.1.1
  rcases List.mem_append.mp hx with hx | hx
  · exact condsT_isW hc _ (IsW.kw (by decide)) x hx
  rcases List.mem_cons.mp hx with rfl | hx
  · exact IsW.kw (by decide)
  rcases List.mem_cons.mp hx with rfl | hx
  · exact IsW.code hn.1.2
  rcases List.mem_append.mp hx with hx | hx
  · unfold partyT at hx
    split at hx
    · cases hx
    rename_i hp
    rcases List.mem_cons.mp hx with rfl | hx
    · exact IsW.kw (by decide)
    rcases List.mem_cons.mp hx with rfl | hx
    · exact IsW.code (hn.2.resolve_left hp)
    · cases hx
  · exact tagsT_isW (tagL_codes ht.2) x hx
theorem cut_txt {nm:ByteArray} {cs:List S48} {acc par:ByteArray} {tg:List S50} (h:checkS nm cs acc par tg=0) (hl:(txtL nm cs acc par tg).length≤400) :
    ∃ ws j,cutW (txtL nm cs acc par tg)=(ws,j,0)∧ws.map keyX=keyT (wT ruleL) :: (restT nm cs acc par tg).map keyT:=by
  obtain ⟨b,c⟩:=cuts_tail (restT nm cs acc par tg) (restT_isW h);rw [restT_fst] at b c;have hw:IsW ruleL 1 ruleL:=IsW.kw (by decide);obtain ⟨ws,j,h1,h2⟩:=Cuts.cutW (Cuts.word hw b c) hl;refine ⟨ws,j,h1,?_⟩;rw [h2,List.map_cons,List.map_map];rfl
theorem rules_Parse_txt {nm:ByteArray} {cs:List S48} {acc par:ByteArray} {tg:List S50} (hs:SmallR nm cs acc par tg) (h:checkS nm cs acc par tg=0) (hl:(txtL nm cs acc par tg).length≤400) :
    Ev (fun k=>rules_Parse.f k (oL (txtL nm cs acc par tg))) (nm,cs,acc,par,tg,0,0):=by
  obtain ⟨hn,ht,h0,h8,hc⟩:=checkS_conds h;obtain ⟨ws,j,h1,h2⟩:=cut_txt h hl;unfold nameB at hn;unfold tagsOk at ht;simp only [Bool.and_eq_true,Bool.or_eq_true,decide_eq_true_iff] at hn ht
  have hcut:=words_Cut_ev (txtL nm cs acc par tg);rw [h1] at hcut;refine Ev.congr (fun k=>rules_Parse_eq k _) (Ev.bind hcut (Ev.yes rfl ?_));unfold restT at h2;rw [List.map_cons,List.map_append,List.map_cons,List.map_cons,List.map_append] at h2;obtain ⟨x1,ws,rfl,e1,h2⟩:=List.map_eq_cons_iff.mp h2;obtain ⟨x2,ws,rfl,e2,h2⟩:=List.map_eq_cons_iff.mp h2;obtain ⟨d2,b2⟩:=codeX_at e2 hn.1.1;refine runP_step (p':=pr0) (st:=1) (Ev.congr (fun k=>mv0 _ _ _ _ _ _ _ _ _) (Ev.is (by rw [keyB_at e1];rfl))) (by decide) ?_;refine runP_step (p':=⟨nm,[],⟨#[]⟩,⟨#[]⟩,[],1,[]⟩) (st:=2) (Ev.congr (fun k=>mv1 _ _ _ _ _ _ _ _ _) (Ev.is (by rw [d2,b2,oL_data];rfl))) (by decide) ?_;refine run_conds _ _ nm _ cs hc [105,102] 2 [] [] ws (Or.inr ⟨rfl,rfl,fun e=>by rw [e] at h0;cases h0⟩) (by rw [List.length_nil];omega) (by rw [List.length_nil];omega) h2 (fun R Y hR hY=>?_);obtain ⟨x3,R,rfl,e3,hR⟩:=List.map_eq_cons_iff.mp hR;obtain ⟨x4,R,rfl,e4,hR⟩:=List.map_eq_cons_iff.mp hR;obtain ⟨d4,b4⟩:=codeX_at e4 hn.1.2;rw [List.nil_append,List.nil_append];refine runP_step (p':=⟨nm,cs.map blankC,⟨#[]⟩,⟨#[]⟩,[],6,Y⟩) (st:=7) (Ev.congr (fun k=>mv6 _ _ _ _ _ _ _ _ _) (Ev.is (by rw [keyB_at e3,keyB_at e3,if_neg (by decide)];rfl))) (by decide) ?_;refine runP_step (p':=⟨nm,cs.map blankC,acc,⟨#[]⟩,[],7,Y⟩) (st:=8) (Ev.congr (fun k=>mv7 _ _ _ _ _ _ _ _ _) (Ev.is (by rw [d4,b4,oL_data];rfl))) (by decide) ?_;have hY8:Y.length=cs.length:=by have:=congrArg List.length hY;rw [List.length_map,List.length_map] at this;exact this
  have fin:∀ st,(st=13∨st=8)→Ev (fun k=>finP k (oL (txtL nm cs acc par tg)) (⟨nm,cs.map blankC,acc,par,[]++tg,st,Y⟩,0,0)) (nm,cs,acc,par,tg,0,0):=fun st hst=>by
    unfold finP;refine Ev.yes rfl (Ev.yes (by show st=8∨st=13;omega) (Ev.yes ⟨by show 0 < (cs.map blankC).length;rw [List.length_map];exact h0,by show Y.length≤_;omega⟩ ?_));refine Ev.bind (run_val cs hc [] Y hY) (Ev.yes rfl (Ev.bind hs.check ?_));exact Ev.yes h (Ev.is rfl)
  have hlt:=hs.lt;unfold partyT at hR;by_cases hp:par.toList=[]
  · rw [if_pos hp,List.map_nil,List.nil_append] at hR
    have hpar:par=⟨#[]⟩:=by rw [← oL_data par,← ByteArray.toList_eq,hp];rfl
    rw [hpar] at fin ⊢;exact run_tags _ _ nm _ acc _ Y tg (tagL_codes ht.2) 8 [] R (Or.inr rfl) (by rw [List.length_nil];omega) hR fin
  · rw [if_neg hp,List.map_cons,List.map_cons,List.map_nil,List.cons_append,List.cons_append,List.nil_append] at hR
    obtain ⟨x5,R,rfl,e5,hR⟩:=List.map_eq_cons_iff.mp hR;obtain ⟨x6,R,rfl,e6,hR⟩:=List.map_eq_cons_iff.mp hR;obtain ⟨d6,b6⟩:=codeX_at e6 (hn.2.resolve_left hp);refine runP_step (p':=⟨nm,cs.map blankC,acc,⟨#[]⟩,[],8,Y⟩) (st:=9) (Ev.congr (fun k=>mv8 _ _ _ _ _ _ _ _ _) (Ev.is (by rw [keyB_at e5,if_pos (by decide)]))) (by decide) ?_;refine runP_step (p':=⟨nm,cs.map blankC,acc,par,[],9,Y⟩) (st:=13) (Ev.congr (fun k=>mv9 _ _ _ _ _ _ _ _ _) (Ev.is (by rw [d6,b6,oL_data];rfl))) (by decide) ?_;exact run_tags _ _ nm _ acc _ Y tg (tagL_codes ht.2) 13 [] R (Or.inl rfl) (by rw [List.length_nil];omega) hR fin
end Go.Proofs.YtkbgkekegjfkfaaGreatDoor.A
namespace Go.Proofs.YtkbgkekegjfkfaaGreatDoor.A
open Go.RowKit B WW WL WM
section
variable {nm:ByteArray} {cs:List S48} {acc par:ByteArray} {tg:List S50}
theorem SmallR.rcheck (h:SmallR nm cs acc par tg):Ev (fun k=>rf48_Check.f k nm cs acc par tg) (checkS nm cs acc par tg) :=
  r48_Check_ev nm cs acc par tg (by have:=h.ln;omega) (by have:=h.ln;omega) (by have:=h.ln;omega) h.sc h.st (by have:=h.lt;omega)
end
end Go.Proofs.YtkbgkekegjfkfaaGreatDoor.A
namespace Go.Proofs.YtkbgkekegjfkfaaGreatDoor.A
open Go.RowKit B WW WL WM
theorem r48_Text_ev {nm:ByteArray} {cs:List S48} {acc par:ByteArray} {tg:List S50} (hs:SmallR nm cs acc par tg) (hi64:∀ c∈cs,I64 c.f3):Ev (fun k=>rf48_Text.f k nm cs acc par tg) (textS nm cs acc par tg):=by
  have sn:=size_eq' nm;have hln:=hs.ln;unfold rf48_Text.f textS;refine Ev.bind hs.rcheck (Ev.both (fun e=>?_) (fun e=>Ev.is (by rw [if_neg e])));rw [if_pos e];have e1:(⟨#[114,117,108,101,32]⟩:ByteArray)++nm=oL ([114,117,108,101,32]++nm.data.toList):=oL_append [114,117,108,101,32] nm.data.toList;have e2:oL ([114,117,108,101,32]++nm.data.toList)++(⟨#[32,105,102]⟩:ByteArray)=oL ([114,117,108,101,32]++nm.data.toList++[32,105,102]):=oL_append _ [32,105,102];rw [e1,e2,oL_size];obtain ⟨_,_,hc0,_,hcc⟩:=checkS_conds e;have:=r48_Text_l0 nm cs acc par tg hs hcc hi64 cs 0 ([114,117,108,101,32]++nm.data.toList++[32,105,102]) rfl (Nat.zero_le _) (by simp only [List.length_append,List.length_cons,List.length_nil];omega);rw [if_pos rfl] at this
  have et:[114,117,108,101,32]++nm.data.toList++[32,105,102]++(tailW (condsW [105,102] cs)).drop 3++tailW ([116,104,101,110] :: acc.data.toList :: (partyW par++tagsW tg))=txtL nm cs acc par tg:=by
    unfold txtL restW;rw [tailW_cons nm.data.toList,tailW_append (condsW [105,102] cs)]
    cases cs with
    | nil=>exact absurd hc0 (by decide)
    | cons c r=>rw [condsW,tailW_cons];simp [ruleL]
  rw [et] at this;unfold endS at this;exact Ev.yes (by omega) (Ev.yes (by simp only [List.length_append,List.length_cons,List.length_nil];omega) this)
end Go.Proofs.YtkbgkekegjfkfaaGreatDoor.A
