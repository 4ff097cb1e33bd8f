-- By pack.py, a program of this session's.
import Derived.Test.YtmlcdpfcafmmcaaDoorX47
import Derived.Test.YtmlcdpfcafmmcaaDoorX48
set_option linter.unusedVariables false
set_option linter.unusedSimpArgs false
namespace Go.Proofs.YtmlcdpfcafmmcaaDoor.A
open Go.RowKit B WW WL WM
theorem ref47_Parse_l0 (cs:List S77) (hcl:cs.length≤60) (L:List (List UInt8)) (hL:L.length≤1000000) (R:List (List UInt8)) :
    ∀ (i:Nat) (p:PSt),L.drop i=R→i≤L.length→Inv cs p i→Ev (fun k=>rf47_Parse.l0 k cs p (L.map oL) i) (endS (goS cs p R i)):=by
  induction R with
  | nil =>
    intro i p h hi hp;have:=List.drop_eq_nil_iff.mp h;have e:i=L.length:=by omega
    refine Ev.step (fun k=>by rw [rf47_Parse.l0]) (Ev.no (by rw [List.length_map];omega) ?_);rw [goS,endS,if_pos rfl,finS,List.length_map,e];have hh:=hp.hi;refine Ev.both (fun a=>Ev.is (by rw [if_neg (by show ¬ p.part=3;omega)])) (fun a=>?_);rw [if_pos (show p.part=3 by omega)];have ha:=hp.acc;have hc:=hp.cur;refine Ev.bind (ref47_Check_ev p.acc p.cur p.no p.op p.cl p.ls (by omega) (by omega) hp.short) (Ev.both (fun b=>Ev.is ?_) (fun b=>Ev.is ?_))
    · show _=if chkS p=0 then _ else _
      rw [if_pos (show chkS p=0 from b)]
    · show _=if chkS p=0 then _ else _
      rw [if_neg (show ¬ chkS p=0 from b)];rfl
  | cons x r ih =>
    intro i p h hi hp;obtain ⟨h1,h2,h3⟩:=rdOf_map h;refine Ev.step (fun k=>by rw [rf47_Parse.l0]) (Ev.yes (by rw [List.length_map];omega) ?_)
    have hs:EvP (fun k=>rf47_Parse.step k cs p (cutW x)) (stepS cs p x):=by
      have:=hp.len;unfold rf47_Parse.step stepS;by_cases a:(cutW x).2.2=0
      · rw [if_pos a]
        by_cases b:0 < (cutW x).1.length
        · rw [if_pos b]
          obtain ⟨q,q1,q2⟩:=ref47_read_ev cs p (cutW x).1 b (cutW_size x).2 (cutW_size x).1 (by omega) hcl;exact ⟨q,Ev.yes a (Ev.yes b q1),q2⟩
        · rw [if_neg b];exact EvP.of (Ev.yes a (Ev.no b (Ev.is rfl)))
      · rw [if_neg a];exact EvP.of (Ev.no a (Ev.is rfl))
    obtain ⟨q,q1,q2⟩:=hs;rw [goS];refine Ev.bind (by rw [h2];exact ref06_Cut_ev x) (Ev.bind q1 (Ev.both (fun e=>?_) (fun e=>Ev.is ?_)))
    · have e':(stepS cs p x).2=0:=e
      rw [if_pos e',q2 e'];exact ih (i+1) _ h3 (by omega) (stepS_inv hp e')
    · have e':¬ (stepS cs p x).2=0:=e
      rw [if_neg e',endS,if_neg e']
theorem ref47_Parse_ev (t:List UInt8) (cs:List S77) (hcl:cs.length≤60) (ht:t.length≤900000):Ev (fun k=>rf47_Parse.f k (oL t) cs) (parseS t cs):=by
  have hd:=divL_len t;unfold rf47_Parse.f parseS;refine Ev.bind (ref07_Right_ev cs hcl) (Ev.both (fun e=>?_) (fun e=>Ev.is (by rw [if_neg e])));rw [if_pos e];refine Ev.bind (ref47_divide_ev t ht) (Ev.yes (by rw [List.length_map];omega) ?_);exact ref47_Parse_l0 cs hcl (divL t) (by omega) (divL t) 0 pst0 rfl (Nat.zero_le _) (Inv.zero cs)
end Go.Proofs.YtmlcdpfcafmmcaaDoor.A
