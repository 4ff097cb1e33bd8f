-- By pack.py, a program of this session's.
import Derived.Test.YtmlcdpfcafmmcaaDoorX33
import Derived.Test.YtmlcdpfcafmmcaaDoorX37
import Derived.Test.YtmlcdpfcafmmcaaDoorX38
import Derived.Test.YtmlcdpfcafmmcaaDoorX40
set_option linter.unusedVariables false
set_option linter.unusedSimpArgs false
namespace Go.Proofs.YtmlcdpfcafmmcaaDoor.A
open Go.RowKit B WW WL WM
theorem zq105 {P:Prop} (h:P:=by exact Kd.C_below HR1.out (by repeat (first | (with_reducible first | exact HB.out | apply below_alloc | apply pw_below_drewN | apply below_drew1 | refine below_set ?_ GE430.out) | exact HB.out))):P:=h
theorem zq106 {P:Prop} (h:P:=by repeat (first | (with_reducible first | exact HB.out | apply below_alloc | apply pw_below_drewN | apply below_drew1 | refine below_set ?_ GE430.out) | exact HB.out)):P:=h
theorem zq107 {P:Prop} (h:P:=by (with_reducible repeat (first | refine blk_drewN ?_ _ | refine blk_drew ?_ | refine blk_alloc ?_ _));refine blk_put (cs:=#[.string t420,.string t421,.int .i64 t422,.int .i64 t423,.int .i64 t424,.slice none 0 0]) ?_ 5 _ rfl;(with_reducible repeat (first | refine blk_drewN ?_ _ | refine blk_drew ?_ | refine blk_alloc ?_ _));refine blk_put (cs:=#[.string t420,.string t421,.int .i64 t422,.int .i64 t423,.int .i64 0,.slice none 0 0]) ?_ 4 _ rfl;(with_reducible repeat (first | refine blk_drewN ?_ _ | refine blk_drew ?_ | refine blk_alloc ?_ _));refine blk_put (cs:=#[.string t420,.string t421,.int .i64 t422,.int .i64 0,.int .i64 0,.slice none 0 0]) ?_ 3 _ rfl;(with_reducible repeat (first | refine blk_drewN ?_ _ | refine blk_drew ?_ | refine blk_alloc ?_ _));refine blk_put (cs:=#[.string t420,.string t421,.int .i64 0,.int .i64 0,.int .i64 0,.slice none 0 0]) ?_ 2 _ rfl;(with_reducible repeat (first | refine blk_drewN ?_ _ | refine blk_drew ?_ | refine blk_alloc ?_ _));refine blk_put (cs:=#[.string t420,.string (⟨#[]⟩:ByteArray),.int .i64 0,.int .i64 0,.int .i64 0,.slice none 0 0]) ?_ 1 _ rfl;(with_reducible repeat (first | refine blk_drewN ?_ _ | refine blk_drew ?_ | refine blk_alloc ?_ _));refine blk_put (cs:=#[.string (⟨#[]⟩:ByteArray),.string (⟨#[]⟩:ByteArray),.int .i64 0,.int .i64 0,.int .i64 0,.slice none 0 0]) ?_ 0 _ rfl;(with_reducible repeat (first | refine blk_drewN ?_ _ | refine blk_drew ?_ | refine blk_alloc ?_ _));exact BK430.out):P:=h
theorem zq108 {P:Prop} (h:P:=by (with_reducible repeat (first | refine blk_drewN ?_ _ | refine blk_drew ?_ | refine blk_alloc ?_ _));refine blk_far ?_ NB430_441.out _;(with_reducible repeat (first | refine blk_drewN ?_ _ | refine blk_drew ?_ | refine blk_alloc ?_ _));refine blk_far ?_ NB430_441.out _;(with_reducible repeat (first | refine blk_drewN ?_ _ | refine blk_drew ?_ | refine blk_alloc ?_ _));refine blk_far ?_ NB430_441.out _;(with_reducible repeat (first | refine blk_drewN ?_ _ | refine blk_drew ?_ | refine blk_alloc ?_ _));refine blk_far ?_ NB430_441.out _;(with_reducible repeat (first | refine blk_drewN ?_ _ | refine blk_drew ?_ | refine blk_alloc ?_ _));refine blk_far ?_ NB430_441.out _;(with_reducible repeat (first | refine blk_drewN ?_ _ | refine blk_drew ?_ | refine blk_alloc ?_ _));refine blk_far ?_ NB430_441.out _;(with_reducible repeat (first | refine blk_drewN ?_ _ | refine blk_drew ?_ | refine blk_alloc ?_ _));exact BK430.out):P:=h
theorem zq109 {P:Prop} (h:P:=by (with_reducible repeat (first | refine blk_drewN ?_ _ | refine blk_drew ?_ | refine blk_alloc ?_ _));refine blk_put (cs:=#[.string t431,.string t432,.int .i64 t433,.int .i64 t434,.int .i64 t435,.slice none 0 0]) ?_ 5 _ rfl;(with_reducible repeat (first | refine blk_drewN ?_ _ | refine blk_drew ?_ | refine blk_alloc ?_ _));refine blk_put (cs:=#[.string t431,.string t432,.int .i64 t433,.int .i64 t434,.int .i64 0,.slice none 0 0]) ?_ 4 _ rfl;(with_reducible repeat (first | refine blk_drewN ?_ _ | refine blk_drew ?_ | refine blk_alloc ?_ _));refine blk_put (cs:=#[.string t431,.string t432,.int .i64 t433,.int .i64 0,.int .i64 0,.slice none 0 0]) ?_ 3 _ rfl;(with_reducible repeat (first | refine blk_drewN ?_ _ | refine blk_drew ?_ | refine blk_alloc ?_ _));refine blk_put (cs:=#[.string t431,.string t432,.int .i64 0,.int .i64 0,.int .i64 0,.slice none 0 0]) ?_ 2 _ rfl;(with_reducible repeat (first | refine blk_drewN ?_ _ | refine blk_drew ?_ | refine blk_alloc ?_ _));refine blk_put (cs:=#[.string t431,.string (⟨#[]⟩:ByteArray),.int .i64 0,.int .i64 0,.int .i64 0,.slice none 0 0]) ?_ 1 _ rfl;(with_reducible repeat (first | refine blk_drewN ?_ _ | refine blk_drew ?_ | refine blk_alloc ?_ _));refine blk_put (cs:=#[.string (⟨#[]⟩:ByteArray),.string (⟨#[]⟩:ByteArray),.int .i64 0,.int .i64 0,.int .i64 0,.slice none 0 0]) ?_ 0 _ rfl;(with_reducible repeat (first | refine blk_drewN ?_ _ | refine blk_drew ?_ | refine blk_alloc ?_ _));exact BK441.out):P:=h
theorem zq110 {P:Prop} (h:P:=by repeat (first | (with_reducible first | exact HB.out | apply below_alloc | apply pw_below_drewN | apply below_drew1 | refine below_set ?_ GE430.out | refine below_set ?_ GE441.out) | exact HB.out)):P:=h
theorem ref01_Add (a b:Int) (ha:I64 a) (hb:I64 b):rf01_Add.f a b=some (fit (a+b)):=by
  unfold rf01_Add.f;unfold I64 at ha hb;by_cases h1:b > 0
  · rw [if_pos h1]
    have e:wrap64 (9223372036854775807 - b)=9223372036854775807 - b:=by unfold wrap64;omega
    rw [e];by_cases h2:a > 9223372036854775807 - b
    · rw [if_pos h2,fit_no (by unfold I64;omega)]
    · rw [if_neg h2,if_neg (by omega),fit_yes (by unfold I64;omega)]
      congr 2;unfold wrap64;omega
  · rw [if_neg h1]
    by_cases h3:b < 0
    · rw [if_pos h3]
      have e:wrap64 ((-9223372036854775808) - b)=(-9223372036854775808) - b:=by unfold wrap64;omega
      rw [e];by_cases h2:a < (-9223372036854775808) - b
      · rw [if_pos h2,fit_no (by unfold I64;omega)]
      · rw [if_neg h2,fit_yes (by unfold I64;omega)]
        congr 2;unfold wrap64;omega
    · rw [if_neg h3,fit_yes (by unfold I64;omega)]
      congr 2;unfold wrap64;omega
theorem ref01_size (a:Int) (ha:I64 a):rf01_size.f a=some (a.natAbs:Int):=by
  unfold rf01_size.f;unfold I64 at ha;simp only [wu64]
  by_cases h:a < 0
  · rw [if_pos h];congr 1;omega
  · rw [if_neg h];congr 1;omega
theorem wrap64_neg_wrap (p:Int) (h0:0≤p) (h1:p≤9223372036854775808):wrap64 (-(wrap64 p))=-p:=by
  by_cases h:p=9223372036854775808
  · subst h;rw [show wrap64 9223372036854775808=-9223372036854775808 by unfold wrap64;omega];unfold wrap64;omega
  · rw [wrap64_in (x:=p) ⟨by omega,by omega⟩,wrap64_in ⟨by omega,by omega⟩]
theorem of_natAbs_nonneg {z:Int} {p:Nat} (h:z.natAbs=p) (hz:0≤z):(p:Int)=z:=by omega
theorem of_natAbs_nonpos {z:Int} {p:Nat} (h:z.natAbs=p) (hz:z≤0):-(p:Int)=z:=by omega
theorem ref01_Mul_sign (a b:Int) (ha:I64 a) (hb:I64 b) (s:Bool) (hs:s=true ↔ (a < 0∧b > 0∨a > 0∧b < 0)):Ev (fun k=>rf01_Mul.j0 k (a.natAbs:Int) (b.natAbs:Int) s) (fit (a * b)):=by
  unfold I64 at ha hb;have hp:=natAbs_mul' a b
  have hsg:(s=true→a * b≤0)∧(s=false→0≤a * b):=by
    constructor
    · intro h
      rcases hs.mp h with ⟨h1,h2⟩ | ⟨h1,h2⟩
      · exact Int.mul_nonpos_of_nonpos_of_nonneg (by omega) (by omega)
      · exact Int.mul_nonpos_of_nonneg_of_nonpos (by omega) (by omega)
    · intro h
      have hn:¬ (a < 0∧b > 0∨a > 0∧b < 0):=by rw [← hs,h];decide
      rcases Int.lt_trichotomy a 0 with h1 | h1 | h1
      · exact Int.mul_nonneg_of_nonpos_of_nonpos (by omega) (by omega)
      · rw [h1];simp
      · exact Int.mul_nonneg (by omega) (by omega)
  obtain ⟨x,hx⟩:∃ x:Nat,x=a.natAbs:=⟨_,rfl⟩
  obtain ⟨y,hy⟩:∃ y:Nat,y=b.natAbs:=⟨_,rfl⟩
  rw [← hx,← hy] at hp ⊢;have hxb:x≤9223372036854775808:=by omega
  have hyb:y≤9223372036854775808:=by omega
  have last:∀ L:Nat,L≤9223372036854775808→(s=true→L=9223372036854775808)→(s=false→L=9223372036854775807) →
      Ev (fun k=>rf01_Mul.j1 k (x:Int) (y:Int) s (L:Int)) (fit (a * b)):=by
    intro L hL hL1 hL2
    have fin:∀ t:Bool,(t=true ↔ ¬ x * y≤L)→Ev (fun k=>rf01_Mul.j2 k (x:Int) (y:Int) s t) (fit (a * b)):=by
      intro t ht;refine Ev.step (fun k=>by rw [rf01_Mul.j2]) ?_;refine Ev.both (fun h=>Ev.is ?_) (fun h=>?_)
      · have h2:=ht.mp h
        rw [fit_no];unfold I64
        cases s
        · have:=hsg.2 rfl;have:=hL2 rfl;omega
        · have:=hsg.1 rfl;have:=hL1 rfl;omega
      · have h2:x * y≤L:=by
          rcases Nat.lt_or_ge L (x * y) with h3 | h3
          · exact absurd (ht.mpr (by omega)) h
          · exact h3
        have e1:IntKind.u64.wrap ((x:Int) * (y:Int))=((x * y:Nat):Int):=by rw [wu64,← Int.natCast_mul];omega
        rw [e1];generalize x * y=p at *
        cases s
        · have h3:=of_natAbs_nonneg hp (hsg.2 rfl)
          have h4:=hL2 rfl;refine Ev.no (by decide) (Ev.is ?_);have hI:I64 (p:Int):=⟨by omega,by omega⟩
          rw [wrap64_in hI,← h3,fit_yes hI]
        · have h3:=of_natAbs_nonpos hp (hsg.1 rfl)
          have h4:=hL1 rfl;refine Ev.yes rfl (Ev.is ?_);rw [wrap64_neg_wrap p (by omega) (by omega),h3,fit_yes (by rw [← h3];exact ⟨by omega,by omega⟩)]
    refine Ev.step (fun k=>by rw [rf01_Mul.j1]) ?_;refine Ev.both (fun h=>?_) (fun h=>?_)
    · refine Ev.no (by omega) ?_
      have e2:=div_wrap L y hL;rw [e2];refine fin _ ?_;rw [decide_eq_true_iff];have key:x≤L / y ↔ x * y≤L:=Nat.le_div_iff_mul_le (by omega);rw [← key];omega
    · have hy0:y=0:=by omega
      refine fin false ?_;simp [hy0]
  refine Ev.step (fun k=>by rw [rf01_Mul.j0]) ?_;refine Ev.both (fun h=>?_) (fun h=>?_)
  · exact last 9223372036854775808 (by omega) (fun _=>rfl) (fun h2=>by rw [h2] at h;cases h)
  · rw [Bool.not_eq_true] at h
    exact last 9223372036854775807 (by omega) (fun h2=>by rw [h2] at h;cases h) (fun _=>rfl)
theorem ref01_Mul (a b:Int) (ha:I64 a) (hb:I64 b):Ev (fun k=>rf01_Mul.f k a b) (fit (a * b)):=by
  have key:=ref01_Mul_sign a b ha hb;unfold rf01_Mul.f;rw [ref01_size a ha,ref01_size b hb];simp only [Option.bind_some]
  refine Ev.both (fun h1=>Ev.both (fun h2=>key true (by simp;omega)) (fun h2=>Ev.both (fun h3=>by omega) (fun h3=>key false (by simp;omega)))) (fun h1=>Ev.both (fun h2=>key _ (by rw [decide_eq_true_iff];omega)) (fun h2=>key false (by simp;omega)))
theorem ref01_Digits_l0 (s:ByteArray) (hs:s.size≤140737488351232) (d:Nat):∀ i:Nat,i+d=s.size→Ev (fun k=>rf01_Digits.l0 k s (i:Int)) ((s.data.toList.drop i).all isDig && s.data.toList != []):=by
  induction d with
  | zero =>
    intro i hi;refine Ev.step (fun k=>by rw [rf01_Digits.l0]) ?_;refine Ev.no (by omega) (Ev.is ?_);rw [List.drop_eq_nil_of_le (by rw [← size_eq'];omega),ByteArray.toList_eq];rfl
  | succ d ih =>
    intro i hi;have hl:i < s.data.toList.length:=by rw [← size_eq'];omega
    have hd:s.data.toList.drop i=s.data.toList[i] :: s.data.toList.drop (i+1):=List.drop_eq_getElem_cons hl;have hb:bt s (i:Int)=(s.data.toList[i].toNat:Int):=by rw [bt_eq,Int.toNat_natCast,List.getD_eq_getElem?_getD,List.getElem?_eq_getElem hl];rfl
    have hc:=isDig_iff s.data.toList[i];rw [← hb] at hc;refine Ev.step (fun k=>by rw [rf01_Digits.l0]) ?_;refine Ev.yes (by omega) (Ev.yes (by omega) (Ev.both (fun h=>Ev.is ?_) (fun h=>Ev.both (fun h2=>Ev.is ?_) (fun h2=>?_))))
    · rw [hd,List.all_cons]
      have:isDig s.data.toList[i]=false:=by rw [← Bool.not_eq_true,hc];omega
      rw [this];rfl
    · rw [hd,List.all_cons]
      have:isDig s.data.toList[i]=false:=by rw [← Bool.not_eq_true,hc];omega
      rw [this];rfl
    · rw [hd,List.all_cons,hc.mpr ⟨by omega,by omega⟩,Bool.true_and,show wrap64 ((i:Int)+1)=((i+1:Nat):Int) by unfold wrap64;omega]
      exact ih (i+1) (by omega)
theorem ref01_Digits (s:ByteArray) (hs:s.size≤140737488351232):Ev (fun k=>rf01_Digits.f k s) (s.data.toList.all isDig && s.data.toList != []) :=
  ref01_Digits_l0 s hs s.size 0 (by omega)
theorem ref01_Parse_l0 (lo hi:Int) (m:ByteArray) (hs:m.size≤140737488351232) (neg:Bool) (hall:m.data.toList.all isDig=true) (d:Nat):∀ (i:Nat) (n:Int),i+d=m.size→I64 n→n=sgn neg (dval (m.data.toList.take i)) →
    Ev (fun k=>rf01_Parse.l0 k lo hi m neg n (i:Int)) (if I64 (sgn neg (dval m.data.toList))∧lo≤sgn neg (dval m.data.toList)∧sgn neg (dval m.data.toList)≤hi then (sgn neg (dval m.data.toList),0) else (0,3)):=by
  induction d with
  | zero =>
    intro i n hi hn he;rw [List.take_of_length_le (by rw [← size_eq'];omega)] at he;rw [← he];refine Ev.step (fun k=>by rw [rf01_Parse.l0]) ?_;refine Ev.no (by omega) (Ev.both (fun h=>Ev.is ?_) (fun h=>Ev.both (fun h2=>Ev.is ?_) (fun h2=>Ev.is ?_)))
    · rw [if_neg (fun hh=>by omega)]
    · rw [if_neg (fun hh=>by omega)]
    · rw [if_pos ⟨hn,by omega,by omega⟩]
  | succ d ih =>
    intro i n hi hn he;have hl:i < m.data.toList.length:=by rw [← size_eq'];omega
    have hb:bt m (i:Int)=(m.data.toList[i].toNat:Int):=by rw [bt_eq,Int.toNat_natCast,List.getD_eq_getElem?_getD,List.getElem?_eq_getElem hl];rfl
    have hdig:=(isDig_iff _).mp (List.all_eq_true.mp hall _ (List.getElem_mem hl));have hmod:(bt m (i:Int) - 48) % 256=((m.data.toList[i].toNat:Int) - 48):=by rw [hb];omega
    have hw:wrap64 ((i:Int)+1)=((i+1:Nat):Int):=by unfold wrap64;omega
    have hP:PInv neg m.data.toList i n true:=.inl ⟨rfl,he,hn⟩;refine Ev.step (fun k=>by rw [rf01_Parse.l0]) ?_;refine Ev.yes (by omega) ?_;refine Ev.bind (ref01_Mul n 10 hn (by unfold I64;omega)) ?_;by_cases hm:I64 (n * 10)
    · rw [fit_yes hm]
      refine Ev.yes rfl (Ev.yes (by omega) ?_);rw [hmod,hw]
      cases neg
      · refine Ev.no (by decide) ?_
        simp only [ref01_Add (n * 10) _ hm (show I64 ((m.data.toList[i].toNat:Int) - 48) by unfold I64;omega),Option.bind_some]
        have hN:=PInv.next hP hl (List.all_eq_true.mp hall _ (List.getElem_mem hl)) (x:=n * 10+((m.data.toList[i].toNat:Int) - 48)) rfl;rcases hN with ⟨h1,h2,h3⟩ | ⟨h1,h2,h3⟩
        · rw [h1]
          exact Ev.yes rfl (ih (i+1) _ (by omega) h3 h2)
        · rw [h1]
          refine Ev.no (by decide) (Ev.is ?_);rw [if_neg];intro hh;have:=sgn_big_append false (m.data.toList.take (i+1)) (m.data.toList.drop (i+1)) h3;rw [List.take_append_drop] at this;exact this hh.1
      · refine Ev.yes rfl ?_
        simp only [ref01_Add (n * 10) _ hm (show I64 (-((m.data.toList[i].toNat:Int) - 48)) by unfold I64;omega),Option.bind_some]
        have hN:=PInv.next hP hl (List.all_eq_true.mp hall _ (List.getElem_mem hl)) (x:=n * 10 + -((m.data.toList[i].toNat:Int) - 48)) (by rw [← Int.sub_eq_add_neg];rfl);rcases hN with ⟨h1,h2,h3⟩ | ⟨h1,h2,h3⟩
        · rw [h1]
          exact Ev.yes rfl (ih (i+1) _ (by omega) h3 h2)
        · rw [h1]
          refine Ev.no (by decide) (Ev.is ?_);rw [if_neg];intro hh;have:=sgn_big_append true (m.data.toList.take (i+1)) (m.data.toList.drop (i+1)) h3;rw [List.take_append_drop] at this;exact this hh.1
    · rw [fit_no hm]
      refine Ev.no (by decide) (Ev.is ?_);have h3:=PInv.over hP hl hm;rw [if_neg];intro hh;exact h3.stop hh.1
end Go.Proofs.YtmlcdpfcafmmcaaDoor.A
namespace Go.Proofs.YtmlcdpfcafmmcaaDoor.A
open Go.RowKit B WW WL WM
def tR (a:Nat) (z:List UInt8×Nat×Nat×Nat):ByteArray×Int×Int×Int:=if z.2.2.2=0 then (if 60 < z.1.length then (⟨#[]⟩,0,(a:Int),9) else (oL z.1,(z.2.1:Int),0,0)) else (⟨#[]⟩,0,(z.2.2.1:Int),(z.2.2.2:Int))
theorem isPrint_iff (c:UInt8):isPrint c=true ↔ 32≤c.toNat∧c.toNat≤126:=by unfold isPrint;simp only [Bool.and_eq_true,decide_eq_true_iff]
theorem r6text_l0 (L:List UInt8) (hL:L.length≤1000000) (a:Nat) (n:Nat):∀ (R:List UInt8) (i:Nat) (acc:List UInt8),R.length≤n→L.drop i=R→i≤L.length→acc.length≤i →
    Ev (fun k=>rf06_text.l0 k (oL L) (a:Int) (toI acc) (i:Int)) (tR a (quoS a R i acc)):=by
  induction n with
  | zero =>
    intro R i acc hn h hi hacc;have hR:R=[]:=List.eq_nil_of_length_eq_zero (by omega);subst hR;have:=drop_end h;refine Ev.step (fun k=>by rw [rf06_text.l0]) ?_;exact Ev.no (by rw [oL_size];omega) (Ev.is rfl)
  | succ n ih =>
    intro R i acc hn h hi hacc
    cases R with
    | nil =>
      have:=drop_end h;refine Ev.step (fun k=>by rw [rf06_text.l0]) ?_;exact Ev.no (by rw [oL_size];omega) (Ev.is rfl)
    | cons c r =>
      obtain ⟨h1,h2,h3⟩:=drop_at h;rw [List.length_cons] at hn;refine Ev.step (fun k=>by rw [rf06_text.l0]) (Ev.yes (by rw [oL_size];omega) (Ev.yes (by omega) ?_));rw [w_next i (by omega),bt_oL L i,h2,toI_len]
      have bad:c.toNat≠34→c.toNat≠92→¬ isPrint c=true→Ev (fun k=>rf06_text.j1 k (oL L) (a:Int) (toI acc) (i:Int) (c.toNat:Int) true) (tR a (quoS a (c :: r) i acc)):=fun x y z=>by
        refine Ev.step (fun k=>by rw [rf06_text.j1]) (Ev.yes rfl (Ev.is ?_));rw [quoS.eq_def];dsimp only;rw [if_neg x,if_neg y,if_neg z];rfl
      refine Ev.both (fun q=>?_) (fun q=>Ev.both (fun b=>?_) (fun b=>?_))
      · have e:tR a (quoS a (c :: r) i acc)=(if 60 < acc.length then (⟨#[]⟩,0,(a:Int),9) else (oL acc,((i+1:Nat):Int),0,0)):=by
          rw [quoS.eq_def];dsimp only;rw [if_pos (by omega)];unfold tR;rw [if_pos rfl]
        rw [e];refine Ev.both (fun x=>Ev.is ?_) (fun x=>Ev.is ?_)
        · rw [if_pos (by omega)]
        · rw [if_neg (by omega),strOf_toI]
      · exact bad (by omega) (by omega) (by rw [isPrint_iff];omega)
      · by_cases b2:(c.toNat:Int) > 126
        · rw [decide_eq_true b2]
          exact bad (by omega) (by omega) (by rw [isPrint_iff];omega)
        · rw [decide_eq_false b2]
          refine Ev.step (fun k=>by rw [rf06_text.j1]) (Ev.no (by decide) ?_);rw [w_next i (by omega)];refine Ev.both (fun b=>?_) (fun b=>?_)
          · cases r with
            | nil =>
              have:=drop_end h3;refine Ev.yes (by rw [oL_size];omega) (Ev.is ?_);rw [quoS.eq_def];dsimp only;rw [if_neg (by omega),if_pos (by omega)];rfl
            | cons d r =>
              obtain ⟨g1,g2,g3⟩:=drop_at h3;rw [List.length_cons] at hn;refine Ev.no (by rw [oL_size];omega) (Ev.yes (by omega) (Ev.yes (by rw [oL_size];omega) ?_));rw [bt_oL L (i+1),g2,w_next (i+1) (by omega),toI_snoc,toI_len];have key:=ih r (i+1+1) (acc++[d]) (by omega) g3 (by omega) (by rw [List.length_append,List.length_singleton];omega)
              have e:d.toNat=34∨d.toNat=92→quoS a (c :: d :: r) i acc=quoS a r (i+1+1) (acc++[d]):=fun a=>by
                rw [quoS.eq_def];dsimp only;rw [if_neg (by omega),if_pos (by omega),if_pos a]
              refine Ev.both (fun x=>Ev.yes (by omega) ?_) (fun x=>Ev.both (fun y=>Ev.yes (by omega) ?_) (fun y=>Ev.is ?_))
              · rw [e (by omega)];exact key
              · rw [e (by omega)];exact key
              · rw [quoS.eq_def];dsimp only;rw [if_neg (by omega),if_pos (by omega),if_neg (by omega)];rfl
          · rw [toI_snoc,toI_len]
            refine Ev.yes (by omega) ?_;have key:=ih r (i+1) (acc++[c]) (by omega) h3 (by omega) (by rw [List.length_append,List.length_singleton];omega);rw [show quoS a (c :: r) i acc=quoS a r (i+1) (acc++[c]) by rw [quoS.eq_def];dsimp only;rw [if_neg (by omega),if_neg (by omega),if_pos (by rw [isPrint_iff];omega)]];exact key
theorem r6in_l0 (l:List ByteArray) (s:ByteArray) (hl:l.length≤1000) (d:Nat):∀ i:Nat,i+d=l.length→Ev (fun k=>rf06_in.l0 k l s (i:Int)) ((l.drop i).any (fun x=>x.toList == s.toList)):=by
  induction d with
  | zero =>
    intro i h;refine Ev.step (fun k=>by rw [rf06_in.l0]) (Ev.no (by omega) (Ev.is ?_));rw [List.drop_eq_nil_of_le (by omega)];rfl
  | succ d ih =>
    intro i h;refine Ev.step (fun k=>by rw [rf06_in.l0]) (Ev.yes (by omega) (Ev.yes (by omega) ?_));have hlt:i < l.length:=by omega
    rw [w_next i (by omega),List.drop_eq_getElem_cons hlt,List.any_cons];have e:rdOf ByteArray.empty l (i:Int)=l[i]:=by unfold rdOf;rw [Int.toNat_natCast,List.getD_eq_getElem?_getD,List.getElem?_eq_getElem hlt];rfl
    rw [e];refine Ev.both (fun q=>Ev.is ?_) (fun q=>?_)
    · rw [q,beq_self_eq_true,Bool.true_or]
    · rw [show (l[i].toList == s.toList)=false from beq_eq_false_iff_ne.mpr q,Bool.false_or]
      exact ih (i+1) (by omega)
theorem r6in_ev (l:List ByteArray) (s:ByteArray) (hl:l.length≤1000):Ev (fun k=>rf06_in.f k l s) (l.any (fun x=>x.toList == s.toList)):=by
  have:=r6in_l0 l s hl l.length 0 (by omega);exact this
theorem one_list (c:UInt8):(([⟨#[40]⟩,⟨#[41]⟩,⟨#[123]⟩,⟨#[125]⟩,⟨#[91]⟩,⟨#[93]⟩,⟨#[44]⟩,⟨#[59]⟩,⟨#[58]⟩,⟨#[61]⟩,⟨#[43]⟩,⟨#[45]⟩,⟨#[42]⟩,⟨#[47]⟩,⟨#[60]⟩,⟨#[62]⟩,⟨#[124]⟩,⟨#[38]⟩,⟨#[33]⟩,⟨#[64]⟩,⟨#[37]⟩]:List ByteArray).any fun x=>x.toList == [c])=decide (oneSg c=1):=by
  simp only [List.any_cons,List.any_nil,Bool.or_false,ByteArray.toList_eq]
  have h:∀ n:Nat,n < 256→((([40]:List UInt8) == [UInt8.ofNat n]) || (([41]:List UInt8) == [UInt8.ofNat n]) || (([123]:List UInt8) == [UInt8.ofNat n]) || (([125]:List UInt8) == [UInt8.ofNat n]) || (([91]:List UInt8) == [UInt8.ofNat n]) || (([93]:List UInt8) == [UInt8.ofNat n]) || (([44]:List UInt8) == [UInt8.ofNat n]) || (([59]:List UInt8) == [UInt8.ofNat n]) || (([58]:List UInt8) == [UInt8.ofNat n]) || (([61]:List UInt8) == [UInt8.ofNat n]) || (([43]:List UInt8) == [UInt8.ofNat n]) || (([45]:List UInt8) == [UInt8.ofNat n]) || (([42]:List UInt8) == [UInt8.ofNat n]) || (([47]:List UInt8) == [UInt8.ofNat n]) || (([60]:List UInt8) == [UInt8.ofNat n]) || (([62]:List UInt8) == [UInt8.ofNat n]) || (([124]:List UInt8) == [UInt8.ofNat n]) || (([38]:List UInt8) == [UInt8.ofNat n]) || (([33]:List UInt8) == [UInt8.ofNat n]) || (([64]:List UInt8) == [UInt8.ofNat n]) || (([37]:List UInt8) == [UInt8.ofNat n]))=decide (oneSg (UInt8.ofNat n)=1):=by decide +kernel
  have:=h c.toNat c.toNat_lt;rw [UInt8.ofNat_toNat] at this;simp only [Bool.or_assoc] at this
  exact this
theorem r1digits_part (l:List UInt8) (hl:l.length≤10) (hn:l≠[]):Ev (fun k=>rf01_Digits.f k (oL l)) (l.all isDig):=by
  have:=ref01_Digits (oL l) (by rw [oL_size];omega);rw [show (oL l).data.toList=l from rfl,show (l != [])=true from bne_iff_ne.mpr hn,Bool.and_true] at this;exact this
end Go.Proofs.YtmlcdpfcafmmcaaDoor.A
namespace Go.Proofs.YtmlcdpfcafmmcaaDoor.A
open Go.RowKit B WW WL WM
attribute [local go_sem] max2_int min2_int max_two min_two max_three min_three max_four min_four
set_option maxHeartbeats 8000000
set_option maxRecDepth 100000
def rf47_head.f (k:Nat) (curs:List S77) (p:PSt) (ws:List S93):Option (PSt×Int) :=
 if 3 < ws.length then (rf06_Code.f k (rd_T93 ws 1).f1).bind fun b=>if b=true then (rf07_Digits.f k curs (rd_T93 ws 2).f1).bind fun q=>if q.2=true then
   (rf01_Parse.f k (rd_T93 ws 3).f1 1 4000).bind fun r=>some ({ p with acc:=(rd_T93 ws 1).f1,cur:=(rd_T93 ws 2).f1,no:=r.1,dg:=q.1,part:=1 },r.2)
  else some ({ p with acc:=(rd_T93 ws 1).f1,cur:=(rd_T93 ws 2).f1 },13) else some ({ p with acc:=(rd_T93 ws 1).f1,cur:=(rd_T93 ws 2).f1 },7) else none
theorem rf47_head.calls (k bd:Nat) (AC:Option Addr) (cc:Nat) (curs:List S77) (p:PSt) (v:Value) (AW:Option Addr) (cw:Nat) (ws:List S93) (p':PSt) (x:Int) (w:World)
  (hr:Kd.R k44 44 w bd (fun _=>True) v p.ls) (hbd:bd≤w.heap.size) (hc:Kd.C k77 w AC curs.length curs) (hcc:curs.length≤cc) (hw:Kd.C k93 w AW ws.length ws) (hwc:ws.length≤cw) (h:rf47_head.f k curs p ws=some (p',x)) :
  Calls Tryd.prog 73 #[.agg #[.string p.acc,.string p.cur,.int .i64 p.no,.int .i64 p.op,.int .i64 p.cl,v,(.slice AC curs.length cc),.int .i64 p.dg,.int .i64 p.part],.slice AW ws.length cw] w fun e w'=>∃ v',e=.returned (.tuple #[.agg (p'.rd (.slice AC curs.length cc) v'),.int .i64 x])∧Kd.R k44 44 w' bd (fun _=>True) v' p'.ls∧Below w.heap.size w w':=by
 obtain ⟨va,vc,rfl⟩:=Kd.R_slice hr;have HR:=sd hr;have HC:=sd hc;have HCC:=sd hcc;have HWR:=sd hw;have HWC:=sd hwc;have HB:=sd (Below.refl w.heap.size w);have HQ:=sd (show ∀ (v':Value) (W:World),Kd.R k44 44 W bd (fun _=>True) v' p'.ls→Below w.heap.size w W→(fun (e:Ending) (w':World)=>∃ v',e=.returned (.tuple #[.agg (p'.rd (.slice AC curs.length cc) v'),.int .i64 x])∧Kd.R k44 44 w' bd (fun _=>True) v' p'.ls∧Below w.heap.size w w') (.returned (.tuple #[.agg (p'.rd (.slice AC curs.length cc) v'),.int .i64 x])) W from fun v' W h1 h2=>⟨v',rfl,h1,h2⟩);clear hr hc hcc hw hwc;generalize (fun (e:Ending) (w':World)=>∃ v',e=.returned (.tuple #[.agg (p'.rd (.slice AC curs.length cc) v'),.int .i64 x])∧Kd.R k44 44 w' bd (fun _=>True) v' p'.ls∧Below w.heap.size w w')=Post at HQ ⊢;unfold rf47_head.f at h;split at h
 case isFalse=>cases h
 rename_i hlen
 replace h:=Option.bind_eq_some_iff.mp h;obtain ⟨b,hb1,h⟩:=h;have C_:=sd (fun W=>rf06_Code.calls k _ b W hb1);have H:=sd h;clear h hb1;go_enter Tryd.func73,Tryd.ntmps73
 go_wp2_with (first | ((with_reducible refine gate_dst (N:=2) rfl ?_);refine bxA 2 #[.string p.acc,.string p.cur,.int .i64 p.no,.int .i64 p.op,.int .i64 p.cl,(.slice va p.ls.length vc),(.slice AC curs.length cc),.int .i64 p.dg,.int .i64 p.part] 71 ?_;intro g2 hg w2 hbox hb;have BK2:=sd hbox;have GE2:=gem hg HB;replace HB:=hbm HB hb;clear hb hbox hg) | ((with_reducible refine gate_dst (N:=4) rfl ?_);refine bxA 4 #[.string (⟨#[]⟩:ByteArray),.string (⟨#[]⟩:ByteArray),.int .i64 0,.int .i64 0,.int .i64 0,.slice none 0 0,.slice none 0 0,.int .i64 0,.int .i64 0] 71 ?_;intro g4 hg w3 hbox hb;have BK4:=sd hbox;have GE4:=gem hg HB;have NB24:=ngm hg BK2;replace BK2:=bkm BK2 hb;replace HB:=hbm HB hb;clear hb hbox hg))
 have HP:=sd (RB.mk (p:=p) (C:=(.slice AC curs.length cc)) (v:=(.slice va p.ls.length vc)) BK2.out BK4.out (Kd.R_below HR.out HB.out) (Nat.le_trans hbd GE2.out) (Nat.le_trans hbd GE4.out) NB24.out);have hwg:∀ ad,AW=some ad→0 < ws.length→ad.block≠g2:=fun ad e hn=>by have:=Kd.C_lt (by rw [← e];exact HWR.out) hn (by decide);have:=GE2.out;omega
 have HW:=sd (WdC.mk (g:=g2) (Kd.C_below HWR.out HB.out) HWC.out hwg);clear BK2 BK4 HR HWR hwg;obtain ⟨ad,rfl,hne,x1,y1⟩:=HW.out.at_ 1 3 (by omega) rfl (by decide);obtain ⟨ad2,e2,hne2,x2,y2⟩:=HW.out.at_ 2 6 (by omega) rfl (by decide)
 cases e2
 clear x1 x2;have l1:(1:Int) < (ws.length:Int):=by omega
 have l2:(2:Int) < (ws.length:Int):=by omega
 replace HP:=sd (HP.out.below (below_drew1 (Below.refl _ _)));replace HW:=sd (HW.out.below (below_drew1 (Below.refl _ _)));replace HB:=sd (below_drew1 HB.out);obtain ⟨k0,k1,k2,k3,k4,k5,k6,k7,k8,f0,f1,f2,f3,f4,f5,f6,f7,f8⟩:=HP.out.facts;refine start_ (n:=14) (S:=fun w'=>w'.cell? ⟨ad.block,ad.off+3+1,none⟩=some (.string (rd_T93 ws 1).f1)∧w'.cell? ⟨ad.block,ad.off+6+1,none⟩=some (.string (rd_T93 ws 2).f1)) (ds:=[]) #[false,false,false,false,false,false,false,false,false,false,false,false,false,false] (by kernel_rfl) rfl rfl ⟨y1,y2⟩ (fun hHeld=>?_);generalize w3.drew=w4 at HP HW HB k0 k1 k2 k3 k4 k5 k6 k7 k8 f0 f1 f2 f3 f4 f5 f6 f7 f8 hHeld ⊢;clear y1 y2;have hh_:=hHeld;obtain ⟨y1,y2⟩:=hh_;refine pB 0 10 ?_;refine pB 4 14 ?_;refine pB 1 11 ?_;refine pB 5 15 ?_;refine pB 2 12 ?_;refine pB 6 16 ?_;refine tB 3 13 hHeld ?_;refine tB 7 17 hHeld ?_;refine pB 8 18 ?_;refine pB 9 19 ?_;refine one_ (i:=10) (N:=none) #[true,true,true,true,true,true,true,true,true,true,true,false,false,false] rfl rfl (by kernel_rfl) (by decide) (fun K hK=>?_);refine skip_ (w1:=w4.setCell ⟨g2,0,none⟩ (.string (rd_T93 ws 1).f1)) (by rfl) rfl (by go_simp;try rfl) ?_;have HP_:=sd (HP.out.set 0 (.string (rd_T93 ws 1).f1) ({ p with acc:=(rd_T93 ws 1).f1 }) rfl rfl);have HW_:=sd (HW.out.set 0 (.string (rd_T93 ws 1).f1));have HB_:=sd (below_setN (o:=0) HB.out GE2.out (.string (rd_T93 ws 1).f1));have y1_:=has_other (g:=g2) (o:=0) (v:=.string (rd_T93 ws 1).f1) (fun h=>hne h.1.symm) y1;have y2_:=has_other (g:=g2) (o:=0) (v:=.string (rd_T93 ws 1).f1) (fun h=>hne h.1.symm) y2;clear HP HW HB y1 y2 k0 k1 k2 k3 k4 k5 k6 k7 k8 f0 f1 f2 f3 f4 f5 f6 f7 f8;generalize w4.setCell ⟨g2,0,none⟩ (.string (rd_T93 ws 1).f1)=w5 at *;have HP:=HP_;have HW:=HW_;have HB:=HB_;have y1:=y1_;have y2:=y2_;clear HP_ HW_ HB_ y1_ y2_;obtain ⟨k0,k1,k2,k3,k4,k5,k6,k7,k8,f0,f1,f2,f3,f4,f5,f6,f7,f8⟩:=HP.out.facts;refine hK.out _ _ ⟨y1,y2⟩ (fun hHeld=>?_);clear hK K;refine pB 11 20 ?_;refine pB 12 21 ?_;refine one_ (i:=13) (N:=none) #[true,true,true,true,true,true,true,true,true,true,true,true,true,true] rfl rfl (by kernel_rfl) (by decide) (fun K hK=>?_);refine skip_ (w1:=w5.setCell ⟨g2,1,none⟩ (.string (rd_T93 ws 2).f1)) (by rfl) rfl (by go_simp;try rfl) ?_;have HP_:=sd (HP.out.set 1 (.string (rd_T93 ws 2).f1) ({ p with acc:=(rd_T93 ws 1).f1,cur:=(rd_T93 ws 2).f1 }) rfl rfl);have HW_:=sd (HW.out.set 1 (.string (rd_T93 ws 2).f1));have HB_:=sd (below_setN (o:=1) HB.out GE2.out (.string (rd_T93 ws 2).f1));have y1_:=has_other (g:=g2) (o:=1) (v:=.string (rd_T93 ws 2).f1) (fun h=>hne h.1.symm) y1;have y2_:=has_other (g:=g2) (o:=1) (v:=.string (rd_T93 ws 2).f1) (fun h=>hne h.1.symm) y2;clear HP HW HB y1 y2 k0 k1 k2 k3 k4 k5 k6 k7 k8 f0 f1 f2 f3 f4 f5 f6 f7 f8;generalize w5.setCell ⟨g2,1,none⟩ (.string (rd_T93 ws 2).f1)=w6 at *;have HP:=HP_;have HW:=HW_;have HB:=HB_;have y1:=y1_;have y2:=y2_;clear HP_ HW_ HB_ y1_ y2_;obtain ⟨k0,k1,k2,k3,k4,k5,k6,k7,k8,f0,f1,f2,f3,f4,f5,f6,f7,f8⟩:=HP.out.facts;refine hK.out _ _ ⟨y1,y2⟩ (fun hHeld=>?_);clear hK K;refine done_ (by kernel_rfl) ?_;clear hHeld y1 y2;go_wp2_with fail
 refine (C_.out _).mono ?_;rintro e w7 ⟨rfl,hd⟩;obtain ⟨⟨nd,rfl⟩⟩:=hd;clear k0 k1 k2 k3 k4 k5 k6 k7 k8 f0 f1 f2 f3 f4 f5 f6 f7 f8;replace HP:=sd (HP.out.drawn nd);replace HW:=sd (HW.out.below (pw_below_drewN (Below.refl _ _) nd));replace HB:=sd (pw_below_drewN HB.out nd);generalize w6.drewN nd=w7 at HP HW HB ⊢;obtain ⟨k0,k1,k2,k3,k4,k5,k6,k7,k8,f0,f1,f2,f3,f4,f5,f6,f7,f8⟩:=HP.out.facts;have z_:=HP.out.zfacts;obtain ⟨z0,z1,z2,z3,z4,z5,z6,z7,z8,q0,q1,q2,q3,q4,q5,q6,q7,q8⟩:=z_;have h:=H.out;clear H C_
 cases b
 ·rw [if_neg (by decide)] at h;obtain ⟨rfl,rfl⟩:=Prod.mk.inj (Option.some.inj h);go_wp2_with fail
  exact rret rfl Post _ _ w bd g2 g4 ({ p with acc:=(rd_T93 ws 1).f1,cur:=(rd_T93 ws 2).f1 }) (.slice AC curs.length cc) _ 7 rfl rfl HP.out HB.out GE4.out (fun W' h1 h2=>HQ.out _ W' h1 h2)
 rw [if_pos rfl] at h;replace h:=Option.bind_eq_some_iff.mp h;obtain ⟨q,hq,h⟩:=h;obtain ⟨dg,ok⟩:=q;have D_:=sd (fun W hW=>rf07_Digits.calls k AC cc curs _ dg ok W hW HCC.out hq);have H:=sd h;clear h hq;go_wp2_with fail
 refine (D_.out _ (Kd.C_below HC.out HB.out)).mono ?_;rintro e w8 ⟨rfl,hb⟩;clear k0 k1 k2 k3 k4 k5 k6 k7 k8 f0 f1 f2 f3 f4 f5 f6 f7 f8 z0 z1 z2 z3 z4 z5 z6 z7 z8 q0 q1 q2 q3 q4 q5 q6 q7 q8 D_;replace HP:=sd (HP.out.below hb);replace HW:=sd (HW.out.below hb);replace HB:=hbm HB hb;clear hb;obtain ⟨k0,k1,k2,k3,k4,k5,k6,k7,k8,f0,f1,f2,f3,f4,f5,f6,f7,f8⟩:=HP.out.facts;have z_:=HP.out.zfacts;obtain ⟨z0,z1,z2,z3,z4,z5,z6,z7,z8,q0,q1,q2,q3,q4,q5,q6,q7,q8⟩:=z_;have h:=H.out;clear H
 cases ok
 ·rw [if_neg (by decide)] at h;obtain ⟨rfl,rfl⟩:=Prod.mk.inj (Option.some.inj h);go_wp2_with fail
  exact rret rfl Post _ _ w bd g2 g4 ({ p with acc:=(rd_T93 ws 1).f1,cur:=(rd_T93 ws 2).f1 }) (.slice AC curs.length cc) _ 13 rfl rfl HP.out HB.out GE4.out (fun W' h1 h2=>HQ.out _ W' h1 h2)
 rw [if_pos rfl] at h;replace h:=Option.bind_eq_some_iff.mp h;obtain ⟨q,hq,h⟩:=h;obtain ⟨no,x⟩:=q;have N_:=sd (fun W=>rf01_Parse.calls k _ 1 4000 no x W hq);obtain ⟨rfl,rfl⟩:=Prod.mk.inj (Option.some.inj h);clear h hq;obtain ⟨ad3,e3,hne3,x3,y3⟩:=HW.out.at_ 3 9 (by omega) rfl (by decide)
 cases e3
 have l3:(3:Int) < (ws.length:Int):=by omega
 go_wp2_with fail
 refine (N_.out _).mono ?_;rintro e w9 ⟨rfl,hd⟩;obtain ⟨⟨nd,rfl⟩⟩:=hd;clear k0 k1 k2 k3 k4 k5 k6 k7 k8 f0 f1 f2 f3 f4 f5 f6 f7 f8 z0 z1 z2 z3 z4 z5 z6 z7 z8 q0 q1 q2 q3 q4 q5 q6 q7 q8 N_ x3 y3;replace HP:=sd (HP.out.drawn nd);replace HB:=sd (pw_below_drewN HB.out nd);generalize w8.drewN nd=w9 at HP HB ⊢;obtain ⟨k0,k1,k2,k3,k4,k5,k6,k7,k8,f0,f1,f2,f3,f4,f5,f6,f7,f8⟩:=HP.out.facts;have z_:=HP.out.zfacts;obtain ⟨z0,z1,z2,z3,z4,z5,z6,z7,z8,q0,q1,q2,q3,q4,q5,q6,q7,q8⟩:=z_;go_upto_region 9 with fail
 have HP_:=sd (HP.out.set 2 (.int .i64 no) { p with acc:=(rd_T93 ws 1).f1,cur:=(rd_T93 ws 2).f1,no:=no } rfl rfl);have HB_:=sd (below_setN (o:=2) HB.out GE2.out (.int .i64 no));clear HP HB k0 k1 k2 k3 k4 k5 k6 k7 k8 f0 f1 f2 f3 f4 f5 f6 f7 f8 z0 z1 z2 z3 z4 z5 z6 z7 z8 q0 q1 q2 q3 q4 q5 q6 q7 q8;generalize w9.setCell ⟨g2,2,none⟩ (.int .i64 no)=w10 at HP_ HB_ ⊢;have HP:=HP_;have HB:=HB_;clear HP_ HB_;obtain ⟨k0,k1,k2,k3,k4,k5,k6,k7,k8,f0,f1,f2,f3,f4,f5,f6,f7,f8⟩:=HP.out.facts;have z_:=HP.out.zfacts;obtain ⟨z0,z1,z2,z3,z4,z5,z6,z7,z8,q0,q1,q2,q3,q4,q5,q6,q7,q8⟩:=z_;go_upto_region 10 with fail
 have HP_:=sd (HP.out.set 7 (.int .i64 dg) { p with acc:=(rd_T93 ws 1).f1,cur:=(rd_T93 ws 2).f1,no:=no,dg:=dg } rfl rfl);have HB_:=sd (below_setN (o:=7) HB.out GE2.out (.int .i64 dg));clear HP HB k0 k1 k2 k3 k4 k5 k6 k7 k8 f0 f1 f2 f3 f4 f5 f6 f7 f8 z0 z1 z2 z3 z4 z5 z6 z7 z8 q0 q1 q2 q3 q4 q5 q6 q7 q8;generalize w10.setCell ⟨g2,7,none⟩ (.int .i64 dg)=w11 at HP_ HB_ ⊢;have HP:=HP_;have HB:=HB_;clear HP_ HB_;obtain ⟨k0,k1,k2,k3,k4,k5,k6,k7,k8,f0,f1,f2,f3,f4,f5,f6,f7,f8⟩:=HP.out.facts;have z_:=HP.out.zfacts;obtain ⟨z0,z1,z2,z3,z4,z5,z6,z7,z8,q0,q1,q2,q3,q4,q5,q6,q7,q8⟩:=z_;go_upto_region 11 with fail
 have HP_:=sd (HP.out.set 8 (.int .i64 1) { p with acc:=(rd_T93 ws 1).f1,cur:=(rd_T93 ws 2).f1,no:=no,dg:=dg,part:=1 } rfl rfl);have HB_:=sd (below_setN (o:=8) HB.out GE2.out (.int .i64 1));clear HP HB k0 k1 k2 k3 k4 k5 k6 k7 k8 f0 f1 f2 f3 f4 f5 f6 f7 f8 z0 z1 z2 z3 z4 z5 z6 z7 z8 q0 q1 q2 q3 q4 q5 q6 q7 q8;generalize w11.setCell ⟨g2,8,none⟩ (.int .i64 1)=w12 at HP_ HB_ ⊢;have HP:=HP_;have HB:=HB_;clear HP_ HB_;obtain ⟨k0,k1,k2,k3,k4,k5,k6,k7,k8,f0,f1,f2,f3,f4,f5,f6,f7,f8⟩:=HP.out.facts;have z_:=HP.out.zfacts;obtain ⟨z0,z1,z2,z3,z4,z5,z6,z7,z8,q0,q1,q2,q3,q4,q5,q6,q7,q8⟩:=z_;go_wp2_with fail
 exact rret rfl Post _ _ w bd g2 g4 ({ p with acc:=(rd_T93 ws 1).f1,cur:=(rd_T93 ws 2).f1,no:=no,dg:=dg,part:=1 }) (.slice AC curs.length cc) _ _ rfl rfl HP.out HB.out GE4.out (fun W' h1 h2=>HQ.out _ W' h1 h2)
theorem below9 {B:Nat} {w0 W:World} {g7:Nat} (q:PSt) (C u:Value) (h:Below B w0 W) (hg:B≤g7):Below B w0 (((((((((W.setCell ⟨g7,0,none⟩ (.string q.acc)).setCell ⟨g7,1,none⟩ (.string q.cur)).setCell ⟨g7,2,none⟩ (.int .i64 q.no)).setCell ⟨g7,3,none⟩ (.int .i64 q.op)).setCell ⟨g7,4,none⟩ (.int .i64 q.cl)).setCell ⟨g7,5,none⟩ (u)).setCell ⟨g7,6,none⟩ (C)).setCell ⟨g7,7,none⟩ (.int .i64 q.dg)).setCell ⟨g7,8,none⟩ (.int .i64 q.part)):=below_setN (below_setN (below_setN (below_setN (below_setN (below_setN (below_setN (below_setN (below_setN (h) hg _) hg _) hg _) hg _) hg _) hg _) hg _) hg _) hg _
theorem rd9 {w:World} {g7:Nat} {C v:Value} {p:PSt} (h:w.heap[g7]?=some (.cells (p.rd C v) 71 (0,0))) :
  w.cell? ⟨g7,0,none⟩=some (.string p.acc)∧w.cell? ⟨g7,1,none⟩=some (.string p.cur)∧w.cell? ⟨g7,2,none⟩=some (.int .i64 p.no)∧w.cell? ⟨g7,3,none⟩=some (.int .i64 p.op)∧w.cell? ⟨g7,4,none⟩=some (.int .i64 p.cl)∧w.cell? ⟨g7,5,none⟩=some (v)∧w.cell? ⟨g7,6,none⟩=some (C)∧w.cell? ⟨g7,7,none⟩=some (.int .i64 p.dg)∧w.cell? ⟨g7,8,none⟩=some (.int .i64 p.part)∧w.frozen? ⟨g7,0,none⟩=false∧w.frozen? ⟨g7,1,none⟩=false∧w.frozen? ⟨g7,2,none⟩=false∧w.frozen? ⟨g7,3,none⟩=false∧w.frozen? ⟨g7,4,none⟩=false∧w.frozen? ⟨g7,5,none⟩=false∧w.frozen? ⟨g7,6,none⟩=false∧w.frozen? ⟨g7,7,none⟩=false∧w.frozen? ⟨g7,8,none⟩=false :=
 ⟨(blk_cell h 0).trans rfl,(blk_cell h 1).trans rfl,(blk_cell h 2).trans rfl,(blk_cell h 3).trans rfl,(blk_cell h 4).trans rfl,(blk_cell h 5).trans rfl,(blk_cell h 6).trans rfl,(blk_cell h 7).trans rfl,(blk_cell h 8).trans rfl,blk_frozen h 0,blk_frozen h 1,blk_frozen h 2,blk_frozen h 3,blk_frozen h 4,blk_frozen h 5,blk_frozen h 6,blk_frozen h 7,blk_frozen h 8⟩
end Go.Proofs.YtmlcdpfcafmmcaaDoor.A
namespace Go.Proofs.YtmlcdpfcafmmcaaDoor.WW
open Go.RowKit
namespace Foot
variable {P Q:World→Prop} {W W1:World} {ok ok':Nat→Prop}
theorem now (h:Foot P W ok):P W:=h W (fun _ _ _=>rfl)
end Foot
end Go.Proofs.YtmlcdpfcafmmcaaDoor.WW
namespace Go.Proofs.YtmlcdpfcafmmcaaDoor.A
open Go.RowKit B WW WL WM
theorem ref01_Parse_j1 (lo hi:Int) (m:ByteArray) (hs:m.size≤140737488351232) (neg:Bool) :
    Ev (fun k=>rf01_Parse.j1 k lo hi m neg) (if formedM m.data.toList neg=true then (if I64 (sgn neg (dval m.data.toList))∧lo≤sgn neg (dval m.data.toList)∧sgn neg (dval m.data.toList)≤hi then (sgn neg (dval m.data.toList),0) else (0,3)) else (0,5)):=by
  have hj2:∀ t:Bool,(m.data.toList.all isDig=true∨t=true)→Ev (fun k=>rf01_Parse.j2 k lo hi m neg t) (if t=true then (0,5) else (if I64 (sgn neg (dval m.data.toList))∧lo≤sgn neg (dval m.data.toList)∧sgn neg (dval m.data.toList)≤hi then (sgn neg (dval m.data.toList),0) else (0,3))):=by
    intro t ht;refine Ev.step (fun k=>by rw [rf01_Parse.j2]) ?_
    cases t
    · refine Ev.no (by decide) ?_
      exact ref01_Parse_l0 lo hi m hs neg (by simpa using ht) m.size 0 0 (by omega) (by unfold I64;omega) (by cases neg <;> rfl)
    · exact Ev.yes rfl (Ev.now _)
  have hsz:=size_eq' m;refine Ev.step (fun k=>by rw [rf01_Parse.j1]) ?_;refine Ev.bind (ref01_Digits m hs) ?_;have hb:bt m 0=((m.data.toList.getD 0 0).toNat:Int):=bt_eq m 0
  cases hl:m.data.toList with
  | nil =>
    rw [hl] at hj2;exact Ev.no (by simp) (hj2 true (.inr rfl))
  | cons c r =>
    rw [hl] at hj2 hsz hb;rw [List.length_cons] at hsz;have hne:((c :: r) != ([]:List UInt8))=true:=rfl;rw [hne,Bool.and_true];have ef:formedM (c :: r) neg=(!(c == 48 && (neg || decide (1 < (c :: r).length))) && (c :: r).all isDig):=by simp [formedM]
    rw [ef];have h48:bt m 0=48 ↔ (c == 48)=true:=by rw [hb,beq_iff_eq];exact byte_is c 48
    refine Ev.both (fun h=>?_) (fun h=>?_)
    · rw [h,Bool.and_true]
      refine Ev.yes (by omega) (Ev.both (fun h0=>?_) (fun h0=>?_))
      · rw [h48.mp h0]
        refine Ev.both (fun h1=>?_) (fun h1=>?_)
        · have:=hj2 true (.inr rfl)
          rw [show decide (1 < (c :: r).length)=true by rw [decide_eq_true_iff,List.length_cons];omega];simpa using this
        · have:=hj2 neg (.inl h)
          rw [show decide (1 < (c :: r).length)=false by rw [decide_eq_false_iff_not,List.length_cons];omega]
          cases neg <;> simpa using this
      · have:=hj2 false (.inl h)
        rw [Bool.not_eq_true _ |>.mp (fun hh=>h0 (h48.mpr hh))];simpa using this
    · have:=hj2 true (.inr rfl)
      rw [Bool.not_eq_true _ |>.mp h];simpa using this
theorem ref01_Parse (s:ByteArray) (lo hi:Int) (hs:s.size≤140737488351232):Ev (fun k=>rf01_Parse.f k s lo hi) (parseL s.data.toList lo hi):=by
  have hx:=Lib.extract_to_end s 1;have hsz:=size_eq' s;have hxs:(s.extract 1 s.size).size≤140737488351232:=by rw [size_eq',hx,List.length_drop];omega
  have key:Ev (fun k=>rf01_Parse.j0 k s lo hi s (negOf s.data.toList)) (parseL s.data.toList lo hi):=by
    refine Ev.step (fun k=>by rw [rf01_Parse.j0]) ?_;refine Ev.both (fun h=>?_) (fun h=>?_)
    · have hp:1≤s.size:=by
        rw [hsz];cases hl:s.data.toList with
        | nil=>rw [hl] at h;simp [negOf] at h
        | cons c r=>simp
      refine Ev.yes (by omega) ?_;have:=ref01_Parse_j1 lo hi (s.extract 1 s.size) hxs (negOf s.data.toList);rw [hx] at this;have hm:magOf s.data.toList=s.data.toList.drop 1:=by simp [magOf,h]
      rw [parseL_eq,hm];exact this
    · have:=ref01_Parse_j1 lo hi s hs (negOf s.data.toList)
      have hm:magOf s.data.toList=s.data.toList:=by simp [magOf,h]
      rw [parseL_eq,hm];exact this
  unfold rf01_Parse.f;rw [ByteArray.toList_eq]
  cases hl:s.data.toList with
  | nil =>
    refine Ev.yes rfl ?_;rw [hl] at key;exact key
  | cons c r =>
    refine Ev.no (by simp) (Ev.yes (by rw [hsz,hl,List.length_cons];omega) ?_);have hb:bt s 0=(c.toNat:Int):=by rw [bt_eq,hl];rfl
    have e:(bt s 0 == 45)=negOf (c :: r):=by
      rw [hb];simp only [negOf,List.head?_cons]
      rw [Bool.eq_iff_iff,beq_iff_eq,beq_iff_eq,Option.some_inj];exact byte_is c 45
    rw [hl] at key;rw [e];exact key
theorem ref07_Parse_j7 (sg x:ByteArray) (neg:Bool) (hsg:sg.data.toList=if neg=true then [45] else []) (ha:x.data.toList.all isDig=true) (hn:x.data.toList≠[]) (hh:x.data.toList.head?=some 48→x.data.toList=[48]) (hl:x.size≤400) :
    Ev (fun k=>rf07_Parse.j6 k sg x) (parseCore neg x.data.toList):=by
  have key:∀ b,b=decide (neg=true∧x.data.toList=[48])→Ev (fun k=>rf07_Parse.j7 k sg x b) (parseCore neg x.data.toList):=by
    intro b hb;refine Ev.step (fun k=>by rw [rf07_Parse.j7]) ?_;unfold parseCore;by_cases h:neg=true∧x.data.toList=[48]
    · rw [decide_eq_true h] at hb;subst hb
      rw [if_pos h];exact Ev.yes rfl (Ev.const rfl)
    · rw [decide_eq_false h] at hb;subst hb
      rw [if_neg h];have hs1:=sg_len hsg;refine Ev.no (by decide) (Ev.yes (by omega) ?_);refine Ev.bind (ref01_Parse (sg++x) _ _ (by rw [ByteArray.size_append];omega)) ?_;rw [ba_append,hsg,parse_core neg _ ha hn hh,if_neg h];by_cases h2:dval x.data.toList≤1000000000000000
      · rw [if_pos h2,if_pos h2];exact Ev.yes rfl (Ev.const rfl)
      · rw [if_neg h2,if_neg h2];exact Ev.no (by decide) (Ev.const rfl)
  refine Ev.step (fun k=>by rw [rf07_Parse.j6]) ?_;rw [ByteArray.toList_eq,ByteArray.toList_eq,hsg]
  cases neg
  · exact Ev.no (by simp) (key false (by simp))
  · refine Ev.yes rfl (key _ ?_)
    rw [Bool.eq_iff_iff];simp
theorem ref07_Parse_l0 (sg:ByteArray) (neg:Bool) (hsg:sg.data.toList=if neg=true then [45] else []):∀ (l:List UInt8) (x:ByteArray),x.data.toList=l→l.all isDig=true→l≠[]→l.length≤400→Ev (fun k=>rf07_Parse.l0 k sg x) (parseCore neg (plainL l))
  | [],_,_,_,h,_=>absurd rfl h
  | c :: r,x,hx,ha,_,hl=>by
    have hsz:=size_eq' x;rw [hx,List.length_cons] at hsz;rw [List.length_cons] at hl;refine Ev.step (fun k=>by rw [rf07_Parse.l0]) ?_;rw [bt_head x c r hx];unfold plainL
    have fin:(¬ (c=48∧r≠[]))→Ev (fun k=>rf07_Parse.j6 k sg x) (parseCore neg (c :: r)):=by
      intro h
      have:=ref07_Parse_j7 sg x neg hsg (by rw [hx];exact ha) (by rw [hx];simp) (by
        rw [hx];intro h2;simp only [List.head?_cons,Option.some.injEq] at h2
        by_cases hr:r=[]
        · rw [h2,hr]
        · exact absurd ⟨h2,hr⟩ h) (by omega)
      rw [hx] at this;exact this
    by_cases hr:r=[]
    · rw [if_neg (fun h=>h.2 hr)]
      have:=fin (fun h=>h.2 hr);subst hr;exact Ev.no (by simp at hsz;omega) this
    · have:0 < r.length:=List.length_pos_iff.2 hr
      refine Ev.yes (by omega) (Ev.yes (by omega) ?_);by_cases hc:c=48
      · rw [if_pos ⟨hc,hr⟩]
        rw [List.all_cons,Bool.and_eq_true] at ha;exact Ev.yes ((byte48 c).mpr hc) (Ev.yes (by omega) (ref07_Parse_l0 sg neg hsg r _ (extract_tail x c r hx) ha.2 hr (by omega)))
      · rw [if_neg (fun h=>hc h.1)]
        exact Ev.no (fun h=>hc ((byte48 c).mp h)) (fin (fun h=>hc h.1))
end Go.Proofs.YtmlcdpfcafmmcaaDoor.A
namespace Go.Proofs.YtmlcdpfcafmmcaaDoor.A
open Go.RowKit B WW WL WM
theorem ref47_head_ev (cs:List S77) (p:PSt) (ws:List S93) (hl:3 < ws.length) (hw:WS ws) (hcl:cs.length≤60):EvP (fun k=>rf47_head.f k cs p ws) (headS cs p ws):=by
  unfold rf47_head.f headS
  show EvP (fun k=>if 3 < ws.length then (rf06_Code.f k (wB ws 1)).bind fun b=>if b=true then (rf07_Digits.f k cs (wB ws 2)).bind fun q=>if q.2=true then
      (rf01_Parse.f k (wB ws 3) 1 4000).bind fun r=>some ({ p with acc:=wB ws 1,cur:=wB ws 2,no:=r.1,dg:=q.1,part:=1 },r.2)
    else some ({ p with acc:=wB ws 1,cur:=wB ws 2 },13) else some ({ p with acc:=wB ws 1,cur:=wB ws 2 },7) else none) _
  have s1:=wB_size hw 1;have s3:=wB_size hw 3;have hc:=ref06_Code_at (wB ws 1) (by omega);have hp:=ref01_Parse (wB ws 3) 1 4000 (by omega);by_cases c:codeW (wB ws 1).data.toList=true
  · rw [if_pos c]
    by_cases d:(dgL cs (wB ws 2)).2=true
    · rw [if_pos d]
      exact EvP.of (Ev.yes hl (Ev.bind hc (Ev.yes c (Ev.bind (ref07_Digits_ev cs (wB ws 2) hcl) (Ev.yes d (Ev.bind hp (Ev.is rfl)))))))
    · rw [if_neg d]
      exact EvP.no (Ev.yes hl (Ev.bind hc (Ev.yes c (Ev.bind (ref07_Digits_ev cs (wB ws 2) hcl) (Ev.no d (Ev.is rfl)))))) (by decide)
  · rw [if_neg c]
    exact EvP.no (Ev.yes hl (Ev.bind hc (Ev.no c (Ev.is rfl)))) (by decide)
end Go.Proofs.YtmlcdpfcafmmcaaDoor.A
