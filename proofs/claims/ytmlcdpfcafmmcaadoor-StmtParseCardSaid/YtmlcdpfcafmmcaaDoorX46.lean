-- By pack.py, a program of this session's.
import Derived.Test.YtmlcdpfcafmmcaaDoorX42
import Derived.Test.YtmlcdpfcafmmcaaDoorX43
import Derived.Test.YtmlcdpfcafmmcaaDoorX44
set_option linter.unusedVariables false
set_option linter.unusedSimpArgs false
namespace Go.Proofs.YtmlcdpfcafmmcaaDoor.A
open Go.RowKit B WW WL WM
theorem r6sign_j0 (L:List UInt8) (hL:L.length≤1000000) (i:Nat) (c:UInt8) (r:List UInt8) (h:L.drop i=c :: r):Ev (fun k=>rf06_sign.j0 k (oL L) (i:Int) false) ((oneSg c:Nat):Int):=by
  obtain ⟨h1,h2,h3⟩:=drop_at h;refine Ev.step (fun k=>by rw [rf06_sign.j0]) (Ev.no (by decide) (Ev.yes (by omega) ?_));rw [w_next i (by omega)];refine Ev.yes (by omega) (Ev.yes (by rw [oL_size];omega) ?_);rw [Int.toNat_natCast,Int.toNat_natCast];refine Ev.bind (r6in_ev _ _ (by decide)) ?_;rw [take_one h,one_list];have:oneSg c≤1:=by unfold oneSg;split <;> omega
  refine Ev.both (fun e=>Ev.is ?_) (fun e=>Ev.is ?_)
  · rw [decide_eq_true_iff] at e;omega
  · rw [decide_eq_true_iff] at e;omega
theorem r6sign_ev (L:List UInt8) (hL:L.length≤1000000) (i:Nat) (c:UInt8) (r:List UInt8) (h:L.drop i=c :: r):Ev (fun k=>rf06_sign.f k (oL L) (i:Int)) ((signN (c :: r):Nat):Int):=by
  obtain ⟨h1,h2,h3⟩:=drop_at h;have hl:=drop_len h;have key:=r6sign_j0 L hL i c r h;unfold rf06_sign.f;rw [show wrap64 ((i:Int)+2)=((i+2:Nat):Int) by unfold wrap64;omega,w_next i (by omega),oL_size]
  cases r with
  | nil=>rw [List.length_singleton] at hl;exact Ev.no (by omega) key
  | cons d r =>
    rw [List.length_cons,List.length_cons] at hl;refine Ev.yes (by omega) (Ev.yes (by omega) (Ev.yes (by omega) (Ev.yes (by omega) ?_)));rw [Int.toNat_natCast,Int.toNat_natCast];refine Ev.bind (r6in_ev _ _ (by decide)) ?_;rw [take_two h,two_list,signN];by_cases e:twoSg c d=true
    · rw [if_pos e,e]
      refine Ev.step (fun k=>by rw [rf06_sign.j0]) ?_;exact Ev.yes rfl (Ev.is rfl)
    · rw [if_neg e,Bool.eq_false_iff.mpr e]
      exact key
theorem r6num_j0 (L:List UInt8) (hL:L.length≤1000000) (i:Nat) (c:UInt8) (r:List UInt8) (h:L.drop i=c :: r) (m x:Int) (y:ByteArray) :
    ∃ v,Wd6 (gS 2 (c :: r) i (numN r+1) 60) i v∧Ev (fun k=>rf06_word.j0 k (oL L) (i:Int) m true x y (i:Int)) v:=by
  obtain ⟨h1,h2,h3⟩:=drop_at h;have hl:=drop_len h;rw [List.length_cons] at hl;have:=numN_le r;rw [← h];refine wd6_g L hL i (numN r+1) 2 60 (by omega) _ rfl ?_;refine Ev.step (fun k=>by rw [rf06_word.j0]) (Ev.yes rfl (Ev.bind (r6number_ev L hL i c r h) ?_));rw [show wrap64 (((i+(numN r+1):Nat):Int) - (i:Int))=((numN r+1:Nat):Int) by unfold wrap64;omega];refine Ev.both (fun e=>Ev.is ?_) (fun e=>Ev.yes (by omega) (Ev.yes (by omega) (Ev.yes (by rw [oL_size];omega) (Ev.is ?_))))
  · rw [if_pos (by omega)]
  · rw [if_neg (by omega),Int.toNat_natCast,Int.toNat_natCast,oL_extract,List.drop_take,show i+(numN r+1) - i=numN r+1 by omega];rfl
theorem r6sgn_j0 (L:List UInt8) (hL:L.length≤1000000) (i:Nat) (c:UInt8) (r:List UInt8) (h:L.drop i=c :: r) (x:Int) (y:ByteArray) :
    ∃ v,Wd6 (wordH (c :: r) i) i v∧Ev (fun k=>rf06_word.j0 k (oL L) (i:Int) 12 false x y (i:Int)) v:=by
  obtain ⟨h1,h2,h3⟩:=drop_at h;have hl:=drop_len h;rw [List.length_cons] at hl;have hle:=signN_le c r;rw [List.length_cons] at hle
  have h2s:signN (c :: r)≤2:=by
    have h:oneSg c≤1:=by unfold oneSg;split <;> omega
    cases r with
    | nil=>show oneSg c≤2;omega
    | cons d r=>rw [signN];split <;> omega
  unfold wordH;by_cases e:signN (c :: r)=0
  · rw [if_pos e]
    refine ⟨((0:Int),(⟨#[]⟩:ByteArray),(0:Int),(0:Int),(i:Int),(5:Int)),⟨rfl,fun _=>rfl,fun h=>by exact absurd h (by show ¬ (5=0);omega)⟩,?_⟩;refine Ev.step (fun k=>by rw [rf06_word.j0]) (Ev.no (by decide) (Ev.bind (r6sign_ev L hL i c r h) ?_));exact Ev.yes (by omega) (Ev.is rfl)
  · rw [if_neg e]
    have key:Ev (fun k=>rf06_word.j0 k (oL L) (i:Int) 12 false x y (i:Int)) ((4:Int),oL ((L.drop i).take (signN (c :: r))),(i:Int),((i+signN (c :: r):Nat):Int),0,0):=by
      refine Ev.step (fun k=>by rw [rf06_word.j0]) (Ev.no (by decide) (Ev.bind (r6sign_ev L hL i c r h) ?_));refine Ev.no (by omega) ?_;rw [show wrap64 ((i:Int)+(signN (c :: r):Int))=((i+signN (c :: r):Nat):Int) by unfold wrap64;omega,show wrap64 (((i+signN (c :: r):Nat):Int) - (i:Int))=(signN (c :: r):Int) by unfold wrap64;omega];refine Ev.no (by omega) (Ev.yes (by omega) (Ev.yes (by omega) (Ev.yes (by rw [oL_size];omega) (Ev.is ?_))));rw [Int.toNat_natCast,Int.toNat_natCast,oL_extract,List.drop_take,show i+signN (c :: r) - i=signN (c :: r) by omega]
    have:=wd6_g L hL i (signN (c :: r)) 4 60 (by omega) _ (by rw [if_neg (by omega)];rfl) key;rw [h] at this;exact this
theorem r6word_ev (L:List UInt8) (hL:L.length≤1000000) (i:Nat) (c:UInt8) (r:List UInt8) (h:L.drop i=c :: r) :
    ∃ v,Wd6 (wordS (c :: r) i) i v∧Ev (fun k=>rf06_word.f k (oL L) (i:Int)) v:=by
  obtain ⟨h1,h2,h3⟩:=drop_at h;have hl:=drop_len h;rw [List.length_cons] at hl;unfold rf06_word.f;rw [bt_oL,h2,r6letter_eq,r6digit_eq,w_next i (by omega),r6follows_eq,h3];simp only [Option.bind_some]
  rw [wordS_cons]
  have lift:∀ {w:Nat×List UInt8×Nat×Nat×Nat} {f:Nat→Option (Int×ByteArray×Int×Int×Int×Int)},(∃ v,Wd6 w i v∧Ev f v)→∃ v,Wd6 w i v∧Ev (fun k=>if (0:Int)≤(i:Int) then (if (i:Int) < ((oL L).size:Int) then f k else none) else none) v:=fun {w f} ⟨v,hv,he⟩ =>
    ⟨v,hv,Ev.yes (by omega) (Ev.yes (by rw [oL_size];omega) he)⟩
  refine lift ?_;by_cases q:c.toNat=34
  · rw [if_neg (by unfold isLet;rw [q];decide),if_neg (by rw [isDig_range];omega),if_pos q]
    have key:=r6text_l0 L hL i r.length r (i+1) [] (Nat.le_refl _) h3 (by omega) (Nat.zero_le _);refine ⟨_,?_,Ev.yes (by omega) (Ev.bind (show Ev (fun k=>rf06_text.f k (oL L) (i:Int)) _ from by unfold rf06_text.f;rw [w_next i (by omega)];exact key) (Ev.is rfl))⟩;generalize quoS i r (i+1) []=z;unfold Wd6 qS tR;by_cases z0:z.2.2.2=0
    · rw [if_pos z0,if_pos z0]
      by_cases z1:60 < z.1.length
      · rw [if_pos z1];dsimp only;rw [if_pos z1,if_pos z1];exact ⟨rfl,fun _=>rfl,fun h=>by omega⟩
      · rw [if_neg z1];dsimp only;rw [if_neg z1,if_neg z1];exact ⟨rfl,fun h=>absurd rfl h,fun _=>⟨rfl,rfl,rfl,rfl⟩⟩
    · rw [if_neg z0,if_neg z0];exact ⟨rfl,fun _=>rfl,fun h=>absurd h z0⟩
  · have skip:∀ {w:Nat×List UInt8×Nat×Nat×Nat} {f g:Nat→Option (Int×ByteArray×Int×Int×Int×Int)},(∃ v,Wd6 w i v∧Ev f v)→∃ v,Wd6 w i v∧Ev (fun k=>if (c.toNat:Int)=34 then g k else f k) v:=fun {w f g} ⟨v,hv,he⟩=>⟨v,hv,Ev.no (by omega) he⟩
    refine skip ?_;by_cases a:isLet c=true
    · rw [if_pos a]
      have:=nameN_le (c :: r);rw [List.length_cons] at this
      have key:Ev (fun k=>(rf06_name.f k (oL L) (i:Int)).bind fun t=>if wrap64 (t - (i:Int)) > 12 then (some ((0:Int),(⟨#[]⟩:ByteArray),(0:Int),(0:Int),(i:Int),(9:Int))) else (if (i:Int)≤t then (if t≤((oL L).size:Int) then (some ((1:Int),(oL L).extract (i:Int).toNat (t:Int).toNat,(i:Int),t,(0:Int),(0:Int))) else none) else none))
          (if 12 < nameN (c :: r) then (0,⟨#[]⟩,0,0,(i:Int),9) else ((1:Int),oL ((L.drop i).take (nameN (c :: r))),(i:Int),((i+nameN (c :: r):Nat):Int),0,0)):=by
        refine Ev.bind (r6name_l0 L hL (c :: r) i h (by omega)) ?_;rw [show wrap64 (((i+nameN (c :: r):Nat):Int) - (i:Int))=(nameN (c :: r):Int) by unfold wrap64;omega];refine Ev.both (fun e=>Ev.is ?_) (fun e=>Ev.yes (by omega) (Ev.yes (by rw [oL_size];omega) (Ev.is ?_)))
        · rw [if_pos (by omega)]
        · rw [if_neg (by omega),Int.toNat_natCast,Int.toNat_natCast,oL_extract,List.drop_take,show i+nameN (c :: r) - i=nameN (c :: r) by omega]
      obtain ⟨v,hv,he⟩:=wd6_g L hL i (nameN (c :: r)) 1 12 (by omega) _ rfl key;rw [h] at hv;exact ⟨v,hv,Ev.yes a he⟩
    · rw [if_neg a]
      by_cases d:isDig c=true
      · rw [if_pos (.inl d)]
        obtain ⟨v,hv,he⟩:=r6num_j0 L hL i c r h 12 1 ⟨#[]⟩;exact ⟨v,hv,Ev.no a (Ev.yes d he)⟩
      · by_cases m:c.toNat=45
        · cases b:headDig r with
          | true =>
            rw [if_pos (.inr ⟨m,rfl⟩)];obtain ⟨v,hv,he⟩:=r6num_j0 L hL i c r h 12 1 ⟨#[]⟩;exact ⟨v,hv,Ev.no a (Ev.no d (Ev.yes (by omega) he))⟩
          | false =>
            rw [if_neg (fun x=>x.elim d (fun y=>by cases y.2)),if_neg q];obtain ⟨v,hv,he⟩:=r6sgn_j0 L hL i c r h 1 ⟨#[]⟩;exact ⟨v,hv,Ev.no a (Ev.no d (Ev.yes (by omega) he))⟩
        · rw [if_neg (fun x=>x.elim d (fun y=>m y.1)),if_neg q]
          obtain ⟨v,hv,he⟩:=r6sgn_j0 L hL i c r h 1 ⟨#[]⟩;exact ⟨v,hv,Ev.no a (Ev.no d (Ev.no (by omega) he))⟩
theorem ref04_Parse_ev (l:List UInt8):Ev (fun k=>rf04_Parse.f k (oL l)) (dparse l):=by
  have bad:¬ DP l→Ev (fun k=>rf04_Parse.j0 k (oL l) true) (dparse l):=fun h=>by
    refine Ev.step (fun k=>by rw [rf04_Parse.j0]) ?_;exact Ev.yes rfl (Ev.is (dparse_no h))
  unfold rf04_Parse.f;have b4:=bt45 l 4;have b7:=bt45 l 7;by_cases h:l.length=10
  rotate_left
  · exact Ev.no (by rw [oL_size];omega) (bad (fun x=>h x.1))
  have ne4:l.take 4≠[]:=fun x=>by have:=congrArg List.length x;rw [List.length_take] at this;simp only [List.length_nil] at this;omega
  have ne7:(l.take 7).drop 5≠[]:=fun x=>by have:=congrArg List.length x;rw [List.length_drop,List.length_take] at this;simp only [List.length_nil] at this;omega
  have ne8:l.drop 8≠[]:=fun x=>by have:=congrArg List.length x;rw [List.length_drop] at this;simp only [List.length_nil] at this;omega
  refine Ev.yes (by rw [oL_size];omega) (Ev.yes (by omega) (Ev.yes (by rw [oL_size];omega) ?_));rw [oL_extract,oL_extract,oL_tail,List.drop_zero];refine Ev.bind (r1digits_part (l.take 4) (by rw [List.length_take];omega) ne4) (Ev.both (fun a1=>?_) (fun a1=>bad (fun x=>a1 x.2.2.2.1)));refine Ev.yes (by rw [oL_size];omega) (Ev.both (fun h4=>?_) (fun h4=>bad (fun x=>h4 (b4.mpr x.2.1))));refine Ev.yes (by omega) (Ev.yes (by rw [oL_size];omega) ?_);refine Ev.bind (r1digits_part ((l.take 7).drop 5) (by rw [List.length_drop,List.length_take];omega) ne7) (Ev.both (fun a2=>?_) (fun a2=>bad (fun x=>a2 x.2.2.2.2.1)));refine Ev.yes (by rw [oL_size];omega) (Ev.both (fun h7=>?_) (fun h7=>bad (fun x=>h7 (b7.mpr x.2.2.1))));refine Ev.yes (by rw [oL_size];omega) ?_;refine Ev.bind (r1digits_part (l.drop 8) (by rw [List.length_drop];omega) ne8) ?_;by_cases a3:(l.drop 8).all isDig=true
  rotate_left
  · rw [Bool.eq_false_iff.mpr a3]
    exact bad (fun x=>a3 x.2.2.2.2.2)
  rw [a3,show dparse l=ofS (dval (l.take 4)) (dval ((l.take 7).drop 5)) (dval (l.drop 8)) from if_pos ⟨h,b4.mp h4,b7.mp h7,a1,a2,a3⟩];refine Ev.step (fun k=>by rw [rf04_Parse.j0]) (Ev.no (by decide) (Ev.yes (by omega) (Ev.yes (by rw [oL_size];omega) ?_)));rw [oL_extract,oL_extract,oL_tail,List.drop_zero];refine Ev.bind (ref04_value_ev (l.take 4) (by rw [List.length_take];omega) a1) (Ev.yes (by omega) (Ev.yes (by rw [oL_size];omega) ?_));refine Ev.bind (ref04_value_ev ((l.take 7).drop 5) (by rw [List.length_drop,List.length_take];omega) a2) (Ev.yes (by rw [oL_size];omega) ?_);refine Ev.bind (ref04_value_ev (l.drop 8) (by rw [List.length_drop];omega) a3) ?_;exact Ev.bind (ref04_Of_any _ _ _) (Ev.is rfl)
theorem ref04_Parse_at (s:ByteArray):Ev (fun k=>rf04_Parse.f k s) (dparse s.data.toList):=ref04_Parse_ev s.data.toList
end Go.Proofs.YtmlcdpfcafmmcaaDoor.A
namespace Go.Proofs.YtmlcdpfcafmmcaaDoor.A
open Go.RowKit B WW WL WM
attribute [local go_sem] max2_int min2_int max_two min_two max_three min_three max_four min_four
set_option maxHeartbeats 8000000
set_option maxRecDepth 100000
mutual
def rf06_Cut.l0:Nat→ByteArray→List (S93)→Int→Option ((List (S93))×Int×Int)
 | 0,_,_,_=>none
 | k+1,x0,x5,x6=>if x6 < (x0.size:Int) then (if 0≤x6 then (rf06_Cut.j1 k x0 x5 x6 ((bt x0 x6) != 35)) else (none)) else (rf06_Cut.j1 k x0 x5 x6 false)
def rf06_Cut.j1:Nat→ByteArray→List (S93)→Int→Bool→Option ((List (S93))×Int×Int)
 | 0,_,_,_,_=>none
 | k+1,x0,x5,x6,x23=>if x23=true then (if 0≤x6 then (if x6 < (x0.size:Int) then (if (bt x0 x6)=32 then (rf06_Cut.l0 k x0 x5 (wrap64 (x6+1))) else ((rf06_word.f k x0 x6).bind fun bt380=>(if bt380.2.2.2.2.2=0 then (if x5.length < 4398046511104 then (rf06_Cut.l0 k x0 (x5++[(⟨bt380.1,bt380.2.1,bt380.2.2.1⟩:S93)]) bt380.2.2.2.1) else (none)) else (some (([]:List (S93)),bt380.2.2.2.2.1,bt380.2.2.2.2.2))))) else (none)) else (none)) else (some (x5,(x0.size:Int),0))
end
def rf06_Cut.f (k:Nat) (a0:ByteArray):Option ((List (S93))×Int×Int):=if (a0.size:Int) > 400 then (some (([]:List (S93)),0,9)) else (rf06_Cut.l0 k a0 ([]:List (S93)) 0)
theorem rf06_Cut.calls (k:Nat) (a0:ByteArray) (r1:List (S93)) (r2 r3:Int) (w:World) (h:rf06_Cut.f k a0=some (r1,r2,r3)) :
  Calls Tryd.prog 48 #[.string a0] w fun e w'=>∃ v0_:Value,e=.returned (.tuple #[v0_,.int .i64 r2,.int .i64 r3])∧Kd.R k93 93 w' w.heap.size (fun _=>True) v0_ r1∧Below w.heap.size w w':=by
 have hu93:=Tryd.underlying93;have HB:=sd (Below.refl w.heap.size w);have H:=h;clear h;unfold rf06_Cut.f at H;replace H:=ifI H;rcases H with ⟨c2,H⟩ | ⟨c2,H⟩
 ·have c2b0:decide (400 < (a0.size:Int))=true:=decide_eq_true c2;have c2b1:decide (400 < a0.size)=true:=decide_eq_true (by omega);clear c2;simp only [Option.some.injEq,Prod.mk.injEq] at H
  obtain ⟨rfl,rfl,rfl⟩:=H;go_enter Tryd.func48,Tryd.ntmps48
  go_wp2
  go_ret3
  exact ⟨_,zq10,zq39,zq7⟩
 have c2b0:decide (400 < (a0.size:Int))=false:=decide_eq_false c2;have c2b1:decide (400 < a0.size)=false:=decide_eq_false (by omega);clear c2;have H':=sd H;clear H;go_enter Tryd.func48,Tryd.ntmps48
 go_wp2
 go_loopg [5,6] k (fun kq v5 v6 w'=>∃ (x5_1:List (S93)) (x6_1:Int),v6=.int .i64 x6_1∧Aside0 (rf06_Cut.l0 kq a0 x5_1 x6_1=some (r1,r2,r3))∧Aside0 (kq≤k)∧Aside0 (Kd.R k93 93 w' w.heap.size (fun _=>True) v5 x5_1)∧Aside0 (Below w.heap.size w w'))
 case atStart=>exact ⟨(([]:List (S93))),(0),zq1,H',⟨Nat.le_refl _⟩,⟨zq39⟩,⟨zq7⟩⟩
 case round =>
  clear H';try clear c2
  try clear c2b0
  try clear c2b1
  try clear p2
  obtain ⟨x5_1,x6_1,rfl,HA,HK1,HO_5,HB⟩:=hrel
  cases gk with
  | zero=>exact absurd HA.out (by simp [rf06_Cut.l0])
  | succ k1 =>
   have H:=HA.out;clear HA;simp only [rf06_Cut.l0] at H
   have HC3:=sd H;clear H;go_upto_region 5 with (fail)
   go_cut [23] (fun v23 wc=>∃ (kq:Nat) (x23_2:Bool),v23=.bool x23_2∧Aside0 (rf06_Cut.j1 kq a0 x5_1 x6_1 x23_2=some (r1,r2,r3))∧Aside0 (kq≤k1)∧Aside0 (Kd.R k93 93 wc w.heap.size (fun _=>True) u5 x5_1)∧Aside0 (Below w.heap.size w wc))
   case first =>
    have H:=HC3.out;clear HC3;replace H:=ifI H;rcases H with ⟨c4,H⟩ | ⟨c4,H⟩
    ·have c4b0:decide (x6_1 < (a0.size:Int))=true:=decide_eq_true c4;clear c4;(first | rw [c4b0] | (simp only [i64_w,i32_w];rw [c4b0]) | skip)
     replace H:=ifI H;rcases H with ⟨c5,H⟩ | ⟨c5,H⟩
     ·have c5b0:decide (0≤x6_1)=true:=decide_eq_true c5;clear c5;have H':=sd H;clear H;have p6:0≤(x6_1:Int):=od;have q6:x6_1 < (a0.size:Int):=od;have hx6:=bt_at a0 x6_1;replace p6:=eq_true p6;replace q6:=eq_true q6;go_wp2
      go_meet
      case rel=>exact ⟨_,(((bt a0 x6_1) != 35)),zq1,H',⟨zq43⟩,⟨zq49⟩,⟨zq7⟩⟩
     exact absurd H (by simp)
    have c4b0:decide (x6_1 < (a0.size:Int))=false:=decide_eq_false c4;clear c4;(first | rw [c4b0] | (simp only [i64_w,i32_w];rw [c4b0]) | skip)
    have H':=sd H;clear H;go_wp2
    go_meet
    case rel=>exact ⟨_,(false),zq1,H',⟨zq43⟩,⟨zq49⟩,⟨zq7⟩⟩
   case rest =>
    clear HC3;try clear c2
    try clear c2b0
    try clear c2b1
    try clear p2
    try clear c4
    try clear c4b0
    try clear c5
    try clear c5b0
    try clear p6
    try clear q6
    try clear hx6
    try clear p2
    try clear p6
    try clear q6
    obtain ⟨kq,x23_2,rfl,HA,HJ2,HO_5,HB⟩:=hcut
    cases kq with
    | zero=>exact absurd HA.out (by simp [rf06_Cut.j1])
    | succ kj2 =>
     have H:=HA.out;clear HA;simp only [rf06_Cut.j1] at H
     by_cases c7:x23_2=true
     ·subst c7;rw [if_pos rfl] at H;replace H:=ifI H;rcases H with ⟨c8,H⟩ | ⟨c8,H⟩
      ·have c8b0:decide (0≤x6_1)=true:=decide_eq_true c8;clear c8;replace H:=ifI H;rcases H with ⟨c9,H⟩ | ⟨c9,H⟩
       ·have c9b0:decide (x6_1 < (a0.size:Int))=true:=decide_eq_true c9;clear c9;replace H:=ifI H;rcases H with ⟨c11,H⟩ | ⟨c11,H⟩
        ·obtain ⟨c11b0,c11b1⟩:=eqI c11;clear c11;have H':=sd H;clear H;have p10:0≤(x6_1:Int):=od;have q10:x6_1 < (a0.size:Int):=od;have hx10:=bt_at a0 x6_1;replace p10:=eq_true p10;replace q10:=eq_true q10;go_wp2
         go_roundg kj2
         case measure=>have:=HK1.out;have:=HJ2.out;omega
         case rel=>exact ⟨(x5_1),(wrap64 (x6_1+1)),zq1,H',⟨zq50⟩,⟨zq49⟩,⟨zq7⟩⟩
        obtain ⟨c11b0,c11b1⟩:=neI c11;replace H:=bdI H;obtain ⟨⟨t380,t381,t382,t383,t384,t385⟩,A12,H⟩:=H;(try dsimp only at H)
        replace H:=ifI H;rcases H with ⟨c13,H⟩ | ⟨c13,H⟩
        ·obtain ⟨c13b0,c13b1⟩:=eqI c13;clear c13;replace H:=ifI H;rcases H with ⟨c14,H⟩ | ⟨c14,H⟩
         ·have LMc14:=sd c14;clear c14;obtain ⟨y387,hy387⟩:∃ y_:List (S93),y_=(x5_1++[(⟨t380,t381,t382⟩:S93)]):=⟨_,rfl⟩
          replace H:(rf06_Cut.l0 kj2 a0 y387 t383)=some (r1,r2,r3):=by first | (rw [hy387];with_reducible exact H) | (have H2_:=(Option.bind_some _ _).symm.trans H;rw [hy387];with_reducible exact H2_) | (have H2_:=(Option.bind_some _ _).symm.trans H;with_reducible exact H2_) | with_reducible exact H | (rw [hy387];exact H) | exact H
          have Ny387:=sd hy387;clear hy387;have H':=sd H;clear H;have p10:0≤(x6_1:Int):=od;have q10:x6_1 < (a0.size:Int):=od;have hx10:=bt_at a0 x6_1;replace p10:=eq_true p10;replace q10:=eq_true q10;go_wp2_with (first | ((with_reducible refine gate_callee (f:=71) rfl ?_);refine gL 33 Tryd.func71 #[.string a0,.int .i64 x6_1] ?_;(with_reducible refine (rf06_word.calls kj2 a0 x6_1 t380 t381 t382 t383 t384 t385 _ A12.out).mono ?_);rintro e w15 ⟨rfl,hb⟩;refine ⟨_,rfl,?_⟩;replace HO_5:=rbm HO_5 hb;replace HB:=hbm HB hb;clear hb) | ((with_reducible refine gate_dst (N:=7) rfl ?_);refine bxA 7 #[.int .i64 0,.string (⟨#[]⟩:ByteArray),.int .i64 0] 93 ?_;intro gb386 hg w16 hbox hb;have BK386:=sd (hbox);have GW386:=gem hg HB;have GE386:=GW386;replace HO_5:=sd (Kd.R_below (Kd.R_elderB zq49 gb386 (Nat.le_of_eq hg.symm)) hb);replace HB:=hbm HB hb;clear hb hbox hg;obtain ⟨_,_,_,_,_,_⟩:=bk3 BK386) | ((with_reducible refine gate_builtin (b:=.append) (xs:=#[.tmp 42,.tmp 44]) rfl ?_);at_builtin;refine Kd.R_append k93 (w0:=w) w.heap.size rfl (.tmp 42) (.tmp 44) 66 93 (.agg #[(.int .i64 0),(.string ⟨#[]⟩),(.int .i64 0)]) 32 rfl Tryd.underlying66 info93 rfl (by decide) (by omega) u5 x5_1 (⟨t380,t381,t382⟩:S93) [.int .i64 t380,.string t381,.int .i64 t382] (fun k_=>k_≠gb386) (fun _=>False) rfl zq51 ?aP (fun _ hk=>hk.elim) ?aF ?aO ?aB ?aS ?aL ?_;(case aP=>exact k93_mkM _ _ _ (⟨t380,t381,t382⟩:S93));(case aB=>exact zq52);(case aF=>exact (fun k_ hk=>Kd.freshB (g:=gb386) (o:=.cells #[.int .i64 t380,.string t381,.int .i64 t382] 93 (0,0)) (by (with_reducible repeat (first | refine blk_drewN ?_ _ | refine blk_drew ?_ | refine blk_alloc ?_ _));refine blk_put (cs:=#[.int .i64 t380,.string t381,.int .i64 0]) ?_ 2 _ rfl;(with_reducible repeat (first | refine blk_drewN ?_ _ | refine blk_drew ?_ | refine blk_alloc ?_ _));refine blk_put (cs:=#[.int .i64 t380,.string (⟨#[]⟩:ByteArray),.int .i64 0]) ?_ 1 _ rfl;(with_reducible repeat (first | refine blk_drewN ?_ _ | refine blk_drew ?_ | refine blk_alloc ?_ _));refine blk_put (cs:=#[.int .i64 0,.string (⟨#[]⟩:ByteArray),.int .i64 0]) ?_ 0 _ rfl;(with_reducible repeat (first | refine blk_drewN ?_ _ | refine blk_drew ?_ | refine blk_alloc ?_ _));exact BK386.out) k_ hk));(case aO=>exact (by (with_reducible repeat (first | apply Kd.R_alloc | apply Kd.R_drewN | apply Kd.R_drew));exact Kd.R_mono (Kd.R_far (p:=⟨gb386,2,none⟩) (Kd.R_far (p:=⟨gb386,1,none⟩) (Kd.R_far (p:=⟨gb386,0,none⟩) (Kd.R_mono HO_5.out (fun k_ hk=>(⟨hk,hk.2⟩:_∧k_≠gb386))) (fun _ hk=>hk.2) (.int .i64 t380)) (fun _ hk=>hk.2) (.string t381)) (fun _ hk=>hk.2) (.int .i64 t382)) (fun _ hk=>hk.1.2)));(case aS=>exact (below_size zq52));(case aL=>have:=LMc14.out;omega);intro v388 w18 ho hb hg hat;rw [← Ny387.out] at ho;have HO389:=sd (ho);replace BK386:=sd (blk_grown (g:=gb386) (o:=.cells #[.int .i64 t380,.string t381,.int .i64 t382] 93 (0,0)) (by (with_reducible repeat (first | refine blk_drewN ?_ _ | refine blk_drew ?_ | refine blk_alloc ?_ _));refine blk_put (cs:=#[.int .i64 t380,.string t381,.int .i64 0]) ?_ 2 _ rfl;(with_reducible repeat (first | refine blk_drewN ?_ _ | refine blk_drew ?_ | refine blk_alloc ?_ _));refine blk_put (cs:=#[.int .i64 t380,.string (⟨#[]⟩:ByteArray),.int .i64 0]) ?_ 1 _ rfl;(with_reducible repeat (first | refine blk_drewN ?_ _ | refine blk_drew ?_ | refine blk_alloc ?_ _));refine blk_put (cs:=#[.int .i64 0,.string (⟨#[]⟩:ByteArray),.int .i64 0]) ?_ 0 _ rfl;(with_reducible repeat (first | refine blk_drewN ?_ _ | refine blk_drew ?_ | refine blk_alloc ?_ _));exact BK386.out) hg (Kd.R_away HO_5.out (fun _ hk=>hk.2)));replace HB:=sd (hb);clear HO_5;clear ho hb hg hat))
          go_roundg kj2
          case measure=>have:=HK1.out;have:=HJ2.out;omega
          case rel=>exact ⟨(y387),(t383),zq1,H',⟨zq50⟩,⟨by (with_reducible repeat (first | apply Kd.R_alloc | apply Kd.R_drewN | apply Kd.R_drew));exact Kd.R_mono HO389.out (fun _ hk=>trivial)⟩,⟨zq52⟩⟩
         exact absurd H (by simp)
        obtain ⟨c13b0,c13b1⟩:=neI c13;simp only [Option.some.injEq,Prod.mk.injEq] at H
        obtain ⟨rfl,rfl,rfl⟩:=H;have p10:0≤(x6_1:Int):=od;have q10:x6_1 < (a0.size:Int):=od;have hx10:=bt_at a0 x6_1;replace p10:=eq_true p10;replace q10:=eq_true q10;go_wp2_with (first | ((with_reducible refine gate_callee (f:=71) rfl ?_);refine gL 33 Tryd.func71 #[.string a0,.int .i64 x6_1] ?_;(with_reducible refine (rf06_word.calls kj2 a0 x6_1 t380 t381 t382 t383 t384 t385 _ A12.out).mono ?_);rintro e w19 ⟨rfl,hb⟩;refine ⟨_,rfl,?_⟩;replace HO_5:=rbm HO_5 hb;replace HB:=hbm HB hb;clear hb) | ((with_reducible refine gate_dst (N:=7) rfl ?_);refine bxA 7 #[.int .i64 0,.string (⟨#[]⟩:ByteArray),.int .i64 0] 93 ?_;intro gb386 hg w20 hbox hb;have BK386:=sd (hbox);have GW386:=gem hg HB;have GE386:=GW386;replace HO_5:=sd (Kd.R_below (Kd.R_elderB zq49 gb386 (Nat.le_of_eq hg.symm)) hb);replace HB:=hbm HB hb;clear hb hbox hg;obtain ⟨_,_,_,_,_,_⟩:=bk3 BK386))
        go_ret3
        exact ⟨_,zq10,zq39,zq52⟩
       exact absurd H (by simp)
      exact absurd H (by simp)
     replace c7:=Bool.eq_false_iff.mpr c7;subst c7;rw [if_neg Bool.false_ne_true] at H;simp only [Option.some.injEq,Prod.mk.injEq] at H
     obtain ⟨rfl,rfl,rfl⟩:=H;go_wp2
     go_ret3
     exact ⟨_,zq10,zq49,zq7⟩
end Go.Proofs.YtmlcdpfcafmmcaaDoor.A
namespace Go.Proofs.YtmlcdpfcafmmcaaDoor.A
open Go.RowKit B WW WL WM
theorem r6Cut_l0 (L:List UInt8) (hL:L.length≤1000000) (f:Nat):∀ (R:List UInt8) (i:Nat) (acc:List S93),R.length≤f→L.drop i=R→i≤L.length→acc.length≤i →
    Ev (fun k=>rf06_Cut.l0 k (oL L) acc (i:Int)) (outR acc (cutR f R i)):=by
  have fin:∀ (i:Nat) (acc:List S93) (n:Nat),n=L.length→Ev (fun k=>rf06_Cut.j1 k (oL L) acc (i:Int) false) (outR acc ([],n,0)):=fun i acc n hn=>by
    refine Ev.step (fun k=>by rw [rf06_Cut.j1]) (Ev.no (by decide) (Ev.is ?_));unfold outR;rw [if_pos rfl,List.append_nil,oL_size,hn]
  have nil:∀ (i:Nat) (acc:List S93),L.drop i=[]→i≤L.length→Ev (fun k=>rf06_Cut.l0 k (oL L) acc (i:Int)) (outR acc ([],i,0)):=fun i acc h hi=>by
    have:=drop_end h;refine Ev.step (fun k=>by rw [rf06_Cut.l0]) (Ev.no (by rw [oL_size];omega) ?_);exact fin i acc i (by omega)
  induction f with
  | zero =>
    intro R i acc hn h hi ha;have hR:R=[]:=List.eq_nil_of_length_eq_zero (by omega);subst hR;exact nil i acc h hi
  | succ f ih =>
    intro R i acc hn h hi ha
    cases R with
    | nil=>exact nil i acc h hi
    | cons c r =>
      obtain ⟨h1,h2,h3⟩:=drop_at h;have hl:=drop_len h;rw [List.length_cons] at hl hn;refine Ev.step (fun k=>by rw [rf06_Cut.l0]) (Ev.yes (by rw [oL_size];omega) (Ev.yes (by omega) ?_));rw [bt_oL,h2,cutR];by_cases h35:c.toNat=35
      · rw [if_pos h35,show ((c.toNat:Int) != 35)=false by rw [h35];rfl]
        exact fin i acc _ (by omega)
      rw [if_neg h35,show ((c.toNat:Int) != 35)=true by rw [bne_iff_ne];omega];refine Ev.step (fun k=>by rw [rf06_Cut.j1]) (Ev.yes rfl (Ev.yes (by omega) (Ev.yes (by rw [oL_size];omega) ?_)));rw [bt_oL,h2,w_next i (by omega)];refine Ev.both (fun s=>?_) (fun s=>?_)
      · rw [if_pos (by omega)]
        exact ih r (i+1) acc (by omega) h3 (by omega) (by omega)
      · rw [if_neg (by omega)]
        obtain ⟨v,hv,hw⟩:=r6word_ev L hL i c r h;refine Ev.bind hw ?_;have he:=wordS_end c r i;generalize wordS (c :: r) i=w at *;obtain ⟨v0,v1,v2⟩:=hv;refine Ev.both (fun e=>Ev.yes (by omega) ?_) (fun e=>Ev.is ?_)
        · have e0:w.2.2.2.2=0:=by omega
          have:=he e0;obtain ⟨x1,x2,x3,x4⟩:=v2 e0;rw [if_pos e0,x1,x2,x3,x4];have key:=ih ((c :: r).drop (w.2.2.1 - i)) w.2.2.1 (acc++[wdOf w i]) (by rw [List.length_drop,List.length_cons];omega) (by rw [← h,List.drop_drop];congr 1;omega) (by omega) (by rw [List.length_append,List.length_singleton];omega);rw [outR_pre] at key;exact key
        · rw [if_neg (by omega),v0,v1 (by omega)]
          unfold outR;rw [if_neg (by dsimp only;omega)]
theorem ref06_Cut_ev (L:List UInt8):Ev (fun k=>rf06_Cut.f k (oL L)) (cutW L):=by
  unfold rf06_Cut.f cutW;rw [oL_size];refine Ev.both (fun h=>Ev.is (by rw [if_pos (by omega)])) (fun h=>?_);rw [if_neg (by omega)];exact r6Cut_l0 L (by omega) L.length L 0 [] (Nat.le_refl _) rfl (Nat.zero_le _) (Nat.le_refl _)
end Go.Proofs.YtmlcdpfcafmmcaaDoor.A
namespace Go.Proofs.YtmlcdpfcafmmcaaDoor.A
open Go.RowKit B WW WL WM
theorem ref07_Parse_j3 (w r sg:ByteArray) (d:Nat) (neg:Bool) (hsg:sg.data.toList=if neg=true then [45] else []) (hl:w.size+r.size≤400) (h0:d=0→r.data.toList=[]) :
    Ev (fun k=>rf07_Parse.j3 k (d:Int) w r sg) (if w.data.toList.all isDig=true∧w.data.toList≠[]∧(d≠0→r.data.toList.all isDig=true∧r.data.toList≠[])∧plainL w.data.toList=w.data.toList then parseCore neg (plainL (w.data.toList++r.data.toList)) else (0,5)):=by
  have hsw:=size_eq' w;have hsr:=size_eq' r;refine Ev.step (fun k=>by rw [rf07_Parse.j3]) (Ev.bind (ref01_Digits w (by omega)) ?_);by_cases hw:w.data.toList.all isDig=true∧w.data.toList≠[]
  · obtain ⟨hw1,hw2⟩:=hw
    have e:(w.data.toList.all isDig && w.data.toList != [])=true:=by rw [hw1];simpa using hw2
    rw [e];refine Ev.yes rfl ?_
    have good:(d≠0→r.data.toList.all isDig=true∧r.data.toList≠[])→plainL w.data.toList=w.data.toList→Ev (fun k=>rf07_Parse.j4 k w r sg false) (parseCore neg (plainL (w.data.toList++r.data.toList))):=by
      intro hr _
      have hra:r.data.toList.all isDig=true:=by
        by_cases hd:d=0
        · rw [h0 hd];rfl
        · exact (hr hd).1
      refine Ev.step (fun k=>by rw [rf07_Parse.j4]) (Ev.no (by decide) (Ev.yes (by omega) ?_));exact ref07_Parse_l0 sg neg hsg _ (w++r) (ba_append w r) (by rw [List.all_append,hw1,hra];rfl) (by simp [hw2]) (by rw [List.length_append];omega)
    have tl:plainL w.data.toList=w.data.toList→Ev (fun k=>if (d:Int) > 0 then (rf01_Digits.f k r).bind fun t=>rf07_Parse.j4 k w r sg (!t) else rf07_Parse.j4 k w r sg false) (if w.data.toList.all isDig=true∧w.data.toList≠[]∧(d≠0→r.data.toList.all isDig=true∧r.data.toList≠[])∧plainL w.data.toList=w.data.toList then parseCore neg (plainL (w.data.toList++r.data.toList)) else (0,5)):=by
      intro hp;refine Ev.both (fun hd=>Ev.bind (ref01_Digits r (by omega)) ?_) (fun hd=>?_)
      · by_cases hr:r.data.toList.all isDig=true∧r.data.toList≠[]
        · have e2:(r.data.toList.all isDig && r.data.toList != [])=true:=by rw [hr.1];simpa using hr.2
          rw [e2,if_pos ⟨hw1,hw2,fun _=>hr,hp⟩];exact good (fun _=>hr) hp
        · have e2:(r.data.toList.all isDig && r.data.toList != [])=false:=by
            rw [Bool.eq_false_iff];intro h;rw [Bool.and_eq_true] at h;exact hr ⟨h.1,by simpa using h.2⟩
          rw [e2,if_neg (fun h=>hr (h.2.2.1 (by omega)))];exact ref07_Parse_j4_bad w r sg
      · rw [if_pos ⟨hw1,hw2,fun h=>absurd h (by omega),hp⟩]
        exact good (fun h=>absurd h (by omega)) hp
    have hps:=plainL_same_iff w.data.toList;refine Ev.both (fun h1=>Ev.yes (by omega) ?_) (fun h1=>tl (hps.mpr (by omega)))
    cases hlw:w.data.toList with
    | nil=>exact absurd hlw hw2
    | cons c r' =>
      rw [hlw] at hps;rw [bt_head w c r' hlw,← hlw];refine Ev.both (fun h2=>?_) (fun h2=>tl ?_)
      · have hc:=(byte48 c).mp h2
        rw [if_neg]
        · exact ref07_Parse_j4_bad w r sg
        · rintro ⟨_,_,_,h3⟩
          rw [hlw] at h3;refine hps.mp h3 ⟨?_,by rw [hc];rfl⟩;rw [← hlw];omega
      · rw [hlw]
        exact hps.mpr (fun h3=>h2 ((byte48 c).mpr (by simpa using h3.2)))
  · have e:(w.data.toList.all isDig && w.data.toList != [])=false:=by
      rw [Bool.eq_false_iff];intro h;rw [Bool.and_eq_true] at h;exact hw ⟨h.1,by simpa using h.2⟩
    rw [e,if_neg (fun h=>hw ⟨h.1,h.2.1⟩)];exact Ev.no (by decide) (ref07_Parse_j4_bad w r sg)
theorem ref07_Parse_j2 (m sg:ByteArray) (d:Nat) (hd4:d≤4) (neg:Bool) (hsg:sg.data.toList=if neg=true then [45] else []) (hm:m.size≤400) :
    Ev (fun k=>rf07_Parse.j2 k (d:Int) m (⟨#[]⟩:ByteArray) sg) (formM neg m.data.toList d):=by
  have hsz:=size_eq' m;refine Ev.step (fun k=>by rw [rf07_Parse.j2]) ?_;have w1:wrap64 (wrap64 ((m.size:Int) - (d:Int)) - 1)=(m.size:Int) - d - 1:=by unfold wrap64;omega
  have w2:wrap64 ((m.size:Int) - (d:Int) - 1+1)=(m.size:Int) - d:=by unfold wrap64;omega
  rw [w1,w2];unfold formM refForm;by_cases h0:d=0
  · subst h0
    refine Ev.no (by decide) ?_;have:=ref07_Parse_j3 m (⟨#[]⟩:ByteArray) sg 0 neg hsg (by show m.size+0≤400;omega) (fun _=>rfl);rw [if_pos rfl];rw [show (⟨#[]⟩:ByteArray).data.toList=[] from rfl] at this;by_cases h1:m.data.toList.all isDig=true∧m.data.toList≠[]
    · rw [if_pos h1]
      dsimp only
      by_cases h2:plainL m.data.toList=m.data.toList
      · rw [if_pos ⟨h1.1,h1.2,fun h=>absurd rfl h,h2⟩] at this
        rw [if_pos h2];exact this
      · rw [if_neg (fun h=>h2 h.2.2.2)] at this
        rw [if_neg h2];exact this
    · rw [if_neg h1]
      rw [if_neg (fun h=>h1 ⟨h.1,h.2.1⟩)] at this;exact this
  · rw [if_neg h0]
    refine Ev.yes (by omega) ?_;refine Ev.both (fun h1=>?_) (fun h1=>?_)
    · rw [if_neg (fun h=>by have:=h.1;omega)]
      exact Ev.const rfl
    · obtain ⟨n,hn⟩:∃ n:Nat,n=m.size - d - 1:=⟨_,rfl⟩
      have e1:(m.size:Int) - d - 1=(n:Int):=by omega
      have e2:(m.size:Int) - d=((n+1:Nat):Int):=by omega
      rw [e1,e2,Int.toNat_natCast,Int.toNat_natCast,← hsz,← hn];have hnl:n < m.data.toList.length:=by omega
      have hbt:bt m (n:Int)=((m.data.toList.getD n 0).toNat:Int):=bt_eq m n;rw [hbt,List.getD_eq_getElem?_getD,List.getElem?_eq_getElem hnl];simp only [Option.getD_some]
      refine Ev.yes (by omega) (Ev.yes (by omega) ?_)
      have h46:((m.data.toList[n].toNat:Int)=46) ↔ m.data.toList[n]=46:=by
        have:=byte_is m.data.toList[n] 46;simpa using this
      refine Ev.both (fun h2=>?_) (fun h2=>?_)
      · rw [h46] at h2
        refine Ev.yes (by omega) (Ev.yes (by omega) (Ev.yes (by omega) ?_));have:=ref07_Parse_j3 (m.extract 0 n) (m.extract (n+1) m.size) sg d neg hsg (by rw [ByteArray.size_extract,ByteArray.size_extract];omega) (fun h=>absurd h h0);rw [Lib.extract_to_end,show (m.extract 0 n).data.toList=m.data.toList.take n by simp] at this
        have hne:m.data.toList.take n≠[]:=by
          intro e;have:=congrArg List.length e;rw [List.length_take,List.length_nil] at this;omega
        have hne2:m.data.toList.drop (n+1)≠[]:=by
          intro e;have:=congrArg List.length e;rw [List.length_drop,List.length_nil] at this;omega
        by_cases hc:(m.data.toList.take n).all isDig=true∧(m.data.toList.drop (n+1)).all isDig=true
        · rw [if_pos ⟨by omega,by rw [h2],hc.1,hc.2⟩]
          dsimp only
          by_cases h3:plainL (m.data.toList.take n)=m.data.toList.take n
          · rw [if_pos ⟨hc.1,hne,fun _=>⟨hc.2,hne2⟩,h3⟩] at this
            rw [if_pos h3];exact this
          · rw [if_neg (fun h=>h3 h.2.2.2)] at this
            rw [if_neg h3];exact this
        · rw [if_neg (fun h=>hc ⟨h.2.2.1,h.2.2.2⟩)]
          rw [if_neg (fun h=>hc ⟨h.1,(h.2.2.1 h0).1⟩)] at this;exact this
      · rw [if_neg (fun h=>h2 (h46.mpr (by simpa using h.2.1)))]
        exact Ev.const rfl
theorem ref07_Parse (s:ByteArray) (d:Int) (hs:s.size≤400):Ev (fun k=>rf07_Parse.f k s d) (parseM s.data.toList d):=by
  have hsz:=size_eq' s
  have j0:∀ b,b=!fitsB d→Ev (fun k=>rf07_Parse.j0 k s d b) (parseM s.data.toList d):=by
    intro b hb;refine Ev.step (fun k=>by rw [rf07_Parse.j0]) ?_;unfold parseM;by_cases hf:fitsB d=false
    · rw [if_pos hf];rw [hf] at hb;subst hb;exact Ev.yes rfl (Ev.const rfl)
    rw [if_neg hf];rw [Bool.not_eq_false] at hf;rw [hf] at hb;subst hb;obtain ⟨d0,d4⟩:=(fitsB_iff d).mp hf;obtain ⟨D,rfl⟩:∃ D:Nat,d=D:=⟨d.toNat,by omega⟩
    rw [Int.toNat_natCast];refine Ev.no (by decide) ?_
    have no:Ev (fun k=>rf07_Parse.j1 k (D:Int) s (⟨#[]⟩:ByteArray) (⟨#[]⟩:ByteArray) false) (formM false s.data.toList D) :=
      Ev.step (fun k=>by rw [rf07_Parse.j1]) (Ev.no (by decide) (ref07_Parse_j2 s _ D (by omega) false rfl hs))
    cases hl:s.data.toList with
    | nil =>
      rw [hl] at no;exact Ev.yes (by rw [ByteArray.toList_eq];exact hl) no
    | cons c r =>
      rw [hl,List.length_cons] at hsz;refine Ev.no (by rw [ByteArray.toList_eq,hl];simp) (Ev.yes (by omega) ?_);rw [bt_head s c r hl]
      have hb:((c.toNat:Int) == 45)=negOf (c :: r):=by
        unfold negOf;rw [List.head?_cons,Bool.eq_iff_iff];have:=byte_is c 45;simpa using this
      rw [hb]
      cases hn:negOf (c :: r)
      · rw [hl] at no
        have:magOf (c :: r)=c :: r:=by unfold magOf;rw [hn];rfl
        rw [this];exact no
      · have:magOf (c :: r)=r:=by unfold magOf;rw [hn];rfl
        rw [this];refine Ev.step (fun k=>by rw [rf07_Parse.j1]) (Ev.yes rfl (Ev.yes (by omega) ?_));have:=ref07_Parse_j2 (s.extract 1 s.size) (⟨#[45]⟩:ByteArray) D (by omega) true rfl (by rw [ByteArray.size_extract];omega);rw [extract_tail s c r hl] at this;exact this
  unfold rf07_Parse.f;refine Ev.both (fun h=>j0 true (by simp [fitsB];omega)) (fun h=>j0 _ (by rw [Bool.eq_iff_iff];simp [fitsB];omega))
end Go.Proofs.YtmlcdpfcafmmcaaDoor.A
namespace Go.Proofs.YtmlcdpfcafmmcaaDoor.A
open Go.RowKit B WW WL WM
theorem ref47_body_ev (p:PSt) (ws:List S93) (hl:4 < ws.length) (hw:WS ws) (hp:p.ls.length≤1000000):EvP (fun k=>rf47_body.f k p ws) (entryS p ws):=by
  have s1:=wB_size hw 1;have s2:=wB_size hw 2;unfold rf47_body.f entryS;by_cases c:(dparse (wB ws 1).data.toList).2=0
  · rw [if_pos c]
    exact EvP.of (Ev.yes ⟨hl,hp⟩ (Ev.bind (ref04_Parse_at (wB ws 1)) (Ev.yes c (Ev.bind (ref07_Parse (wB ws 2) p.dg (by omega)) (Ev.is rfl)))))
  · rw [if_neg c]
    exact EvP.of (Ev.yes ⟨hl,hp⟩ (Ev.bind (ref04_Parse_at (wB ws 1)) (Ev.no c (Ev.is rfl))))
end Go.Proofs.YtmlcdpfcafmmcaaDoor.A
