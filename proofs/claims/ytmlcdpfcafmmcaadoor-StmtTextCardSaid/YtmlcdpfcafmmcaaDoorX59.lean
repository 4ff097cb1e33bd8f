-- By pack.py, a program of this session's.
import Derived.Test.YtmlcdpfcafmmcaaDoorX22
import Derived.Test.YtmlcdpfcafmmcaaDoorX56
import Derived.Test.YtmlcdpfcafmmcaaDoorX57
set_option linter.unusedVariables false
set_option linter.unusedSimpArgs false
namespace Go.Proofs.YtmlcdpfcafmmcaaDoor.A
open Go.RowKit B WW WL WM
attribute [local go_sem] max2_int min2_int max_two min_two max_three min_three max_four min_four
set_option maxHeartbeats 8000000
set_option maxRecDepth 100000
def lw47_StmtText.j0:Nat→List (S77)→Bool→ByteArray→ByteArray→Int→Int→Int→List (S44)→Option (Bool)
 | 0,_,_,_,_,_,_,_,_=>none
 | k+1,x1,x16,x329000,x329001,x329002,x329003,x329004,x329005=>if x16=true then ((lw47_lives.f).bind fun t330=>(some t330)) else ((stmt_Text.f k x329000 x329001 x329002 x329003 x329004 x329005 x1).bind fun bt331=>((rf47_Text.f k x329000 x329001 x329002 x329003 x329004 x329005 x1).bind fun bt333=>(if bt331.1.toList=bt333.1.toList then (if bt331.2=bt333.2 then ((lw47_lives.f).bind fun t335=>(some t335)) else (some false)) else (some false))))
def lw47_StmtText.f (k:Nat) (a0_0:ByteArray) (a0_1:ByteArray) (a0_2:Int) (a0_3:Int) (a0_4:Int) (l0_5:List (S44)) (l1:List (S77)):Option (Bool):=(lw47_light.f k a0_0 a0_1 a0_2 a0_3 a0_4 l0_5).bind fun t329=>(if t329=true then (lw47_StmtText.j0 k l1 (decide ((l1.length:Int) > 60)) a0_0 a0_1 a0_2 a0_3 a0_4 l0_5) else (lw47_StmtText.j0 k l1 true a0_0 a0_1 a0_2 a0_3 a0_4 l0_5))
end Go.Proofs.YtmlcdpfcafmmcaaDoor.A
namespace Go.Proofs.YtmlcdpfcafmmcaaDoor.A
open Go.RowKit B WW WL WM
theorem ref07_Text_l0 (d:Nat) (hd:d≤4) (sg:ByteArray) (hsg:sg.size≤1):∀ (n:Nat) (s:ByteArray),s.size≤40→d+1 - s.size=n →
    Ev (fun k=>rf07_Text.l0 k (d:Int) s sg) (⟨(sg.data.toList++(if d=0 then padL d s.data.toList else (padL d s.data.toList).take ((padL d s.data.toList).length - d)++46 :: (padL d s.data.toList).drop ((padL d s.data.toList).length - d))).toArray⟩,0)
  | 0,s,hs,hn=>by
    have hsz:=size_eq' s;refine Ev.step (fun k=>by rw [rf07_Text.l0]) (Ev.no (by omega) ?_);have hp:padL d s.data.toList=s.data.toList:=by unfold padL;rw [← hsz,show d+1 - s.size=0 by omega];rfl
    rw [hp];refine Ev.both (fun h=>Ev.yes (by omega) (Ev.const ?_)) (fun h=>?_)
    · rw [if_pos (by omega),← ba_of (ba_append sg s)]
    · have hw:wrap64 ((s.size:Int) - (d:Int))=((s.size - d:Nat):Int):=by unfold wrap64;omega
      rw [hw,Int.toNat_natCast];have z1:(s.extract 0 (s.size - d)).size≤40:=by rw [ByteArray.size_extract];omega
      have z2:(s.extract (s.size - d) s.size).size≤40:=by rw [ByteArray.size_extract];omega
      refine Ev.yes (by omega) (Ev.yes (by omega) (Ev.yes (by omega) (Ev.yes (by rw [ByteArray.size_append];omega) (Ev.yes (by rw [ByteArray.size_append,ByteArray.size_append,show (⟨#[46]⟩:ByteArray).size=1 from rfl];omega) (Ev.const ?_)))));rw [if_neg (by omega)];congr 2
      refine ba_ext ?_;rw [ba_append,ba_append,ba_append,Lib.extract_to_end,← hsz];simp
  | n+1,s,hs,hn=>by
    have hsz:=size_eq' s;refine Ev.step (fun k=>by rw [rf07_Text.l0]) (Ev.yes (by omega) (Ev.yes (by omega) ?_));have e:((⟨#[48]⟩:ByteArray)++s).size=s.size+1:=by rw [ByteArray.size_append,Nat.add_comm];rfl
    have ih:=ref07_Text_l0 d hd sg hsg n ((⟨#[48]⟩:ByteArray)++s) (by omega) (by omega)
    have hp:padL d ((⟨#[48]⟩:ByteArray)++s).data.toList=padL d s.data.toList:=by
      unfold padL;rw [ba_append,List.length_append,← hsz];show List.replicate (d+1 - (1+s.size)) 48++(48 :: s.data.toList)=_
      rw [show d+1 - s.size=(d+1 - (1+s.size))+1 by omega,List.replicate_succ'];simp
    rw [hp] at ih;exact ih
theorem ref07_Text (a d:Int) (ha:I64 a):Ev (fun k=>rf07_Text.f k a d) (textS a d):=by
  rw [textS_eq]
  have j0:∀ b,b=!fitsB d→Ev (fun k=>rf07_Text.j0 k a d b) (if fitsB d=false then (⟨#[]⟩,2) else if farB a=true then (⟨#[]⟩,4) else (⟨(textL a d.toNat).toArray⟩,0)):=by
    intro b hb;refine Ev.step (fun k=>by rw [rf07_Text.j0]) ?_;by_cases h1:fitsB d=false
    · rw [if_pos h1];rw [h1] at hb;subst hb;exact Ev.yes rfl (Ev.const rfl)
    rw [if_neg h1];rw [Bool.not_eq_false] at h1;rw [h1] at hb;subst hb;obtain ⟨d0,d4⟩:=(fitsB_iff d).mp h1;refine Ev.no (by decide) ?_;rw [ref07_large];simp only [Option.bind_some]
    by_cases h2:farB a=true
    · rw [if_pos h2];exact Ev.yes h2 (Ev.const rfl)
    rw [if_neg h2];refine Ev.no h2 (Ev.bind (ref01_Text a ha) ?_);obtain ⟨D,rfl⟩:∃ D:Nat,d=D:=⟨d.toNat,by omega⟩
    rw [Int.toNat_natCast];have sz:=itoa_size a ha
    have fin:∀ (sg:ByteArray) (s:ByteArray),sg.size≤1→s.size≤40→s.data.toList=Lib.decDigits a.natAbs→sg.data.toList=(if a < 0 then [45] else [])→Ev (fun k=>rf07_Text.j1 k (D:Int) s sg) (⟨(textL a D).toArray⟩,0):=by
      intro sg s h3 h4 h5 h6;refine Ev.step (fun k=>by rw [rf07_Text.j1]) ?_;have:=ref07_Text_l0 D (by omega) sg h3 _ s h4 rfl;rw [h5,h6,pad_dec,List.length_append,digs_length,Nat.add_sub_cancel,List.take_left,List.drop_left] at this;unfold textL;by_cases hD:D=0
      · subst hD
        rw [if_pos rfl] at this ⊢;simpa [digs] using this
      · rw [if_neg hD] at this ⊢
        exact this
    refine Ev.both (fun hn=>Ev.yes ?_ (fin _ _ (by decide) ?_ ?_ (by rw [if_pos hn]))) (fun hn=>fin _ _ (by decide) (by omega) ?_ (by rw [if_neg hn]))
    · rw [size_eq'];show (1:Int)≤((Lib.itoa a).length:Int);rw [itoa_neg' hn,List.length_cons];omega
    · rw [ByteArray.size_extract];omega
    · rw [Lib.extract_to_end];show (Lib.itoa a).drop 1=_;rw [itoa_neg' hn];rfl
    · show Lib.itoa a=_;rw [itoa_pos hn]
  unfold rf07_Text.f;refine Ev.both (fun h=>j0 true (by simp [fitsB];omega)) (fun h=>j0 _ (by rw [Bool.eq_iff_iff];simp [fitsB];omega))
end Go.Proofs.YtmlcdpfcafmmcaaDoor.A
namespace Go.Proofs.YtmlcdpfcafmmcaaDoor.A
open Go.RowKit B WW WL WM
theorem ref47_Text_l0 (acc cur:ByteArray) (no op cl d:Int) (hcl:I64 cl) (ls:List S44) (hs:Short ls) (hl:ls.length≤200) (R:List S44):(∀ x∈R,dayB x.f0=true∧I64 x.f1)→∀ (i:Nat) (x:ByteArray),ls.drop i=R→i≤ls.length→x.size≤3000000+400 * i →
    Ev (fun k=>rf47_Text.l0 k d x (i:Int) acc cur no op cl ls) (stmt_Text.tail (bodyX d R x) (textS cl d).1,0):=by
  have ht:=textS_size cl d;induction R with
  | nil =>
    intro hd i x h hi hx;have:=List.drop_eq_nil_iff.mp h;refine Ev.step (fun k=>by rw [rf47_Text.l0]) (Ev.no (by omega) (Ev.bind (ref07_Text cl d hcl) ?_));have s6:(⟨#[99,108,111,115,101,32]⟩:ByteArray).size=6:=rfl;refine Ev.yes (by omega) (Ev.yes (by rw [ByteArray.size_append,s6];omega) (Ev.yes (by rw [ByteArray.size_append,ByteArray.size_append,s6];omega) (Ev.is rfl)))
  | cons y r ih =>
    intro hd i x h hi hx;obtain ⟨hj,hy,hr⟩:=rd44_at h;have hm:y∈ls:=List.mem_of_mem_drop (i:=i) (by rw [h];exact List.mem_cons_self);have hlen:=lineX_len d y;have l1:(oL (dtx y.f0)).size=10:=by rw [oL_size,dtx,dtext_len]
    have l2:=textS_size y.f1 d;have l3:=quoteS_size y.f2.data.toList;have l4:=quoteS_size y.f3.data.toList;have s5:(⟨#[108,105,110,101,32]⟩:ByteArray).size=5:=rfl;have s1:(⟨#[32]⟩:ByteArray).size=1:=rfl;refine Ev.step (fun k=>by rw [rf47_Text.l0]) (Ev.yes (by omega) (Ev.yes (by omega) ?_));rw [hy,w_next i (by omega)];refine Ev.bind (ref04_Text_dtx (hd y List.mem_cons_self).1) (Ev.bind (ref07_Text y.f1 d (hd y List.mem_cons_self).2) (Ev.bind (ref06_Quote_ev _ (hs y hm).1) (Ev.bind (ref06_Quote_ev _ (hs y hm).2) ?_)));refine Ev.yes (by simp only [ByteArray.size_append,s5,s1,l1];omega) (Ev.yes (by simp only [ByteArray.size_append,s5,s1,l1];omega) (Ev.yes (by simp only [ByteArray.size_append,s5,s1,l1];omega) (Ev.yes (by simp only [ByteArray.size_append,s5,s1,l1];omega) (Ev.yes (by simp only [ByteArray.size_append,s5,s1,l1];omega) (Ev.yes (by simp only [ByteArray.size_append,s5,s1,l1];omega) (Ev.yes (by simp only [ByteArray.size_append,s5,s1,l1];omega) (Ev.yes (by simp only [ByteArray.size_append,s5,s1,l1];omega) (Ev.yes ?_ ?_))))))))
    · show x.size+(lineX d y).size≤_;omega
    · exact ih (fun z hz=>hd z (List.mem_cons_of_mem _ hz)) (i+1) (x++lineX d y) hr (by omega) (by rw [ByteArray.size_append];omega)
theorem ref47_Text_ev (acc cur:ByteArray) (no op cl:Int) (ls:List S44) (cs:List S77) (ha:acc.size≤1000000) (hc:cur.size≤1000000) (hs:Short ls) (hcl:cs.length≤60) :
    Ev (fun k=>rf47_Text.f k acc cur no op cl ls cs) (stmtTextS acc cur no op cl ls cs):=by
  unfold rf47_Text.f stmtTextS;refine Ev.bind (ref07_Right_ev cs hcl) (Ev.both (fun e=>?_) (fun e=>Ev.is (by rw [if_neg e])));rw [if_pos e];refine Ev.bind (ref47_Check_ev acc cur no op cl ls ha hc hs) (Ev.both (fun ck=>?_) (fun e=>Ev.is (by rw [if_neg e])));rw [if_pos ck];refine Ev.bind (ref07_Digits_ev cs cur hcl) (Ev.both (fun e=>?_) (fun e=>Ev.is (by rw [if_neg e])));rw [if_pos e];obtain ⟨c1,c2,c3,c4,c5,c6⟩:=checkS_ok ck;have i1:I64 no:=by unfold I64;omega
  have hn:(oL (Lib.itoa no)).size≤20:=itoa_size no i1;have ht:=textS_size op (dgL cs cur).1;have hh:=head_len acc cur (oL (Lib.itoa no)) (textS op (dgL cs cur).1).1;have s10:(⟨#[115,116,97,116,101,109,101,110,116,32]⟩:ByteArray).size=10:=rfl;have s6:(⟨#[10,111,112,101,110,32]⟩:ByteArray).size=6:=rfl;have s1:(⟨#[32]⟩:ByteArray).size=1:=rfl;refine Ev.bind (ref07_Text op _ (inS_i64 c4.1)) ?_;refine Ev.yes (by omega) (Ev.yes (by simp only [ByteArray.size_append,s10,s1];omega) (Ev.yes (by simp only [ByteArray.size_append,s10,s1];omega) (Ev.yes (by simp only [ByteArray.size_append,s10,s1];omega) ?_)));refine Ev.bind (show Ev (fun k=>rf01_Text.f k no) (oL (Lib.itoa no)) from ref01_Text no i1) ?_;refine Ev.yes (by simp only [ByteArray.size_append,s10,s1];omega) (Ev.yes (by simp only [ByteArray.size_append,s10,s1];omega) (Ev.yes (by simp only [ByteArray.size_append,s10,s1,s6];omega) (Ev.yes (by simp only [ByteArray.size_append,s10,s1,s6];omega) ?_)));refine ref47_Text_l0 acc cur no op cl (dgL cs cur).1 (inS_i64 c4.2) ls hs c5 ls (fun x hx=>?_) 0 (stmt_Text.head acc cur (oL (Lib.itoa no)) (textS op (dgL cs cur).1).1) rfl (Nat.zero_le _) (by rw [hh];omega);obtain ⟨l,h⟩:=checkL_lines cl ls 0 op c6 x hx;refine ⟨lineS_day h,?_⟩;have:=lineS_in h;unfold I64;omega
end Go.Proofs.YtmlcdpfcafmmcaaDoor.A
