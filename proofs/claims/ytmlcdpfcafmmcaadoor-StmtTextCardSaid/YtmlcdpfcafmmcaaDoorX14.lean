-- By pack.py, a program of this session's.
import Derived.Test.YtmlcdpfcafmmcaaDoorX9
import Derived.Test.YtmlcdpfcafmmcaaDoorX10
import Derived.Test.YtmlcdpfcafmmcaaDoorX11
import Derived.Test.YtmlcdpfcafmmcaaDoorX12
set_option linter.unusedVariables false
set_option linter.unusedSimpArgs false
namespace Go.Proofs.YtmlcdpfcafmmcaaDoor.A
open Go.RowKit B WW WL WM
attribute [local go_sem] max2_int min2_int max_two min_two max_three min_three max_four min_four
set_option maxHeartbeats 8000000
set_option maxRecDepth 100000
def stmt_Follows.f (k:Nat) (a0_0:ByteArray) (a0_1:ByteArray) (a0_2:Int) (a0_3:Int) (a0_4:Int) (l0_5:List (S44)) (a1_0:ByteArray) (a1_1:ByteArray) (a1_2:Int) (a1_3:Int) (a1_4:Int) (l1_5:List (S44)):Option (Bool):=(stmt_Check.f k a0_0 a0_1 a0_2 a0_3 a0_4 l0_5).bind fun t129=>(if t129=0 then ((stmt_Check.f k a1_0 a1_1 a1_2 a1_3 a1_4 l1_5).bind fun t130=>(if t130=0 then (if a0_0.toList=a1_0.toList then (if a0_1.toList=a1_1.toList then (if a1_2=(wrap64 (a0_2+1)) then (some (a1_3 == a0_4)) else (some false)) else (some false)) else (some false)) else (some false))) else (some false))
theorem money_Digits.calls (k:Nat) (A0:Option Addr) (c0:Nat) (l0:List (S77)) (a1:ByteArray) (r1:Int) (r2:Bool) (w:World) (hr0:Kd.C k77 w A0 l0.length l0) (hc0:l0.length≤c0) (h:money_Digits.f k l0 a1=some (r1,r2)) :
  Calls Tryd.prog 31 #[.slice A0 l0.length c0,.string a1] w fun e w'=>e=.returned (.tuple #[.int .i64 r1,.bool r2])∧Below w.heap.size w w':=by
 have hu77:=Tryd.underlying77;have HR0:=sd hr0;have HC0:=sd hc0;clear hr0 hc0;have HB:=sd (Below.refl w.heap.size w);have H:=h;clear h;unfold money_Digits.f at H;replace H:=bdI H;obtain ⟨t136,A3,H⟩:=H;(try dsimp only at H)
 by_cases c4:t136=true
 ·subst c4;rw [if_pos rfl] at H;have H':=sd H;clear H;go_enter Tryd.func31,Tryd.ntmps31
  go_wp2_with (first | ((with_reducible refine gate_callee (f:=30) rfl ?_);refine gL 9 Tryd.func30 #[.slice A0 l0.length c0] ?_;(with_reducible refine (money_Right.calls k _ _ l0 true _ ?side1 ?side2 A3.out).mono ?_);(case side1=>exact zq29);(case side2=>exact HC0.out);rintro e w5 ⟨rfl,hb⟩;refine ⟨_,rfl,?_⟩;replace HB:=hbm HB hb;clear hb))
  go_loopg [13] k (fun kq v13 w'=>∃ (x13_1:Int),v13=.int .i64 x13_1∧Aside0 (money_Digits.l0 kq a1 l0 (l0.length:Int) x13_1=some (r1,r2))∧Aside0 (kq≤k)∧Aside0 (Below w.heap.size w w'))
  case atStart=>exact ⟨(0),zq1,H',⟨Nat.le_refl _⟩,⟨zq7⟩⟩
  case round =>
   clear H';try clear p2
   try clear c3
   try clear c4
   obtain ⟨x13_1,rfl,HA,HK1,HB⟩:=hrel
   cases gk with
   | zero=>exact absurd HA.out (by simp [money_Digits.l0])
   | succ k1 =>
    have H:=HA.out;clear HA;simp only [money_Digits.l0] at H
    replace H:=ifI H;rcases H with ⟨c6,H⟩ | ⟨c6,H⟩
    ·have c6b0:decide (x13_1 < (l0.length:Int))=true:=decide_eq_true c6;clear c6;replace H:=ifI H;rcases H with ⟨c7,H⟩ | ⟨c7,H⟩
     ·have c7b0:decide (0≤x13_1)=true:=decide_eq_true c7;clear c7;replace H:=ifI H;rcases H with ⟨c8,H⟩ | ⟨c8,H⟩
      ·have c8b0:decide (x13_1 < (l0.length:Int))=true:=decide_eq_true c8;clear c8;replace H:=ifI H;rcases H with ⟨c9,H⟩ | ⟨c9,H⟩
       ·obtain ⟨c9b0,c9b1⟩:=eqI c9;clear c9;simp only [Option.some.injEq,Prod.mk.injEq] at H
        obtain ⟨rfl,rfl⟩:=H;have p137:0≤(x13_1:Int):=od;have q137:x13_1 < (l0.length:Int):=od;obtain ⟨ad137,e137,hx137_0,hx137_1⟩:=at_T77 HR0.out x13_1 p137 q137
        cases e137
        replace hx137_0:=(HB.out.cell (World.block_lt_of_cell? w _ hx137_0)).trans hx137_0;replace hx137_1:=(HB.out.cell (World.block_lt_of_cell? w _ hx137_1)).trans hx137_1;replace p137:=eq_true p137;replace q137:=eq_true q137;go_wp2_with (first | ((with_reducible refine gate_dst (N:=7) rfl ?_);refine bxA 7 #[.string (⟨#[]⟩:ByteArray),.int .i64 0] 77 ?_;intro gb138 hg w10 hbox hb;have BK138:=sd (hbox);have GW138:=gem hg HB;have GE138:=GW138;replace HB:=hbm HB hb;clear hb hbox hg;obtain ⟨_,_,_,_⟩:=bk2 BK138))
        go_ret2
        exact ⟨zq10,by repeat (first | (with_reducible first | exact HB.out | apply below_alloc | apply pw_below_drewN | apply below_drew1 | refine below_set ?_ GE138.out) | exact HB.out)⟩
       obtain ⟨c9b0,c9b1⟩:=neI c9;have H':=sd H;clear H;have p137:0≤(x13_1:Int):=od;have q137:x13_1 < (l0.length:Int):=od;obtain ⟨ad137,e137,hx137_0,hx137_1⟩:=at_T77 HR0.out x13_1 p137 q137
       cases e137
       replace hx137_0:=(HB.out.cell (World.block_lt_of_cell? w _ hx137_0)).trans hx137_0;replace hx137_1:=(HB.out.cell (World.block_lt_of_cell? w _ hx137_1)).trans hx137_1;replace p137:=eq_true p137;replace q137:=eq_true q137;go_wp2_with (first | ((with_reducible refine gate_dst (N:=7) rfl ?_);refine bxA 7 #[.string (⟨#[]⟩:ByteArray),.int .i64 0] 77 ?_;intro gb138 hg w12 hbox hb;have BK138:=sd (hbox);have GW138:=gem hg HB;have GE138:=GW138;replace HB:=hbm HB hb;clear hb hbox hg;obtain ⟨_,_,_,_⟩:=bk2 BK138))
       go_roundg k1
       case measure=>have:=HK1.out;omega
       case rel=>exact ⟨(wrap64 (x13_1+1)),zq1,H',⟨by have:=HK1.out;omega⟩,⟨by repeat (first | (with_reducible first | exact HB.out | apply below_alloc | apply pw_below_drewN | apply below_drew1 | refine below_set ?_ GE138.out) | exact HB.out)⟩⟩
      exact absurd H (by simp)
     exact absurd H (by simp)
    have c6b0:decide (x13_1 < (l0.length:Int))=false:=decide_eq_false c6;clear c6;simp only [Option.some.injEq,Prod.mk.injEq] at H
    obtain ⟨rfl,rfl⟩:=H;go_wp2
    go_ret2
    exact ⟨zq10,zq7⟩
 replace c4:=Bool.eq_false_iff.mpr c4;subst c4;rw [if_neg Bool.false_ne_true] at H;simp only [Option.some.injEq,Prod.mk.injEq] at H
 obtain ⟨rfl,rfl⟩:=H;go_enter Tryd.func31,Tryd.ntmps31
 go_wp2_with (first | ((with_reducible refine gate_callee (f:=30) rfl ?_);refine gL 9 Tryd.func30 #[.slice A0 l0.length c0] ?_;(with_reducible refine (money_Right.calls k _ _ l0 false _ ?side1 ?side2 A3.out).mono ?_);(case side1=>exact zq29);(case side2=>exact HC0.out);rintro e w14 ⟨rfl,hb⟩;refine ⟨_,rfl,?_⟩;replace HB:=hbm HB hb;clear hb))
 go_ret2
 exact ⟨zq10,zq7⟩
def stmt_Text.line (dt am q1 q2:ByteArray):ByteArray:=(((((((((⟨#[108,105,110,101,32]⟩:ByteArray)++dt)++(⟨#[32]⟩:ByteArray))++am)++(⟨#[32]⟩:ByteArray))++q1)++(⟨#[32]⟩:ByteArray))++q2)++(⟨#[10]⟩:ByteArray))
def stmt_Text.head (acc cur nt om:ByteArray):ByteArray:=((((((((⟨#[115,116,97,116,101,109,101,110,116,32]⟩:ByteArray)++acc)++(⟨#[32]⟩:ByteArray))++cur)++(⟨#[32]⟩:ByteArray))++nt)++(⟨#[10,111,112,101,110,32]⟩:ByteArray))++om)++(⟨#[10]⟩:ByteArray)
def stmt_Text.tail (x am:ByteArray):ByteArray:=((x++(⟨#[99,108,111,115,101,32]⟩:ByteArray))++am)++(⟨#[10]⟩:ByteArray)
def stmt_Text.l0:Nat→Int→Int→List S44→Nat→ByteArray→Option (ByteArray×Int)
 | 0,_,_,_,_,_=>none
 | k+1,d,cl,l,i,x=>if i < l.length then (days_Text.f k (rd_T44 l i).f0).bind fun t=>(words_Quote.f k (rd_T44 l i).f2).bind fun q=>(words_Quote.f k (rd_T44 l i).f3).bind fun u =>
   if x.size+(stmt_Text.line t.1 (textS (rd_T44 l i).f1 d).1 q.1 u.1).size≤9223372036854775807 then stmt_Text.l0 k d cl l (i+1) (x++stmt_Text.line t.1 (textS (rd_T44 l i).f1 d).1 q.1 u.1) else none
  else if x.size+(textS cl d).1.size+7≤9223372036854775807 then some (stmt_Text.tail x (textS cl d).1,0) else none
def stmt_Text.f (k:Nat) (acc cur:ByteArray) (no op cl:Int) (l:List S44) (cs:List S77):Option (ByteArray×Int) :=
 if l.length≤140737488351232 then (money_Right.f k cs).bind fun t=>if t=true then (stmt_Check.f k acc cur no op cl l).bind fun e=>if e=0 then (money_Digits.f k cs cur).bind fun q=>if q.2=true then
  (num_Text.f no).bind fun nt=>if (stmt_Text.head acc cur nt (textS op q.1).1).size≤9223372036854775807 then stmt_Text.l0 k q.1 cl l 0 (stmt_Text.head acc cur nt (textS op q.1).1) else none
  else some (⟨#[]⟩,13) else some (⟨#[]⟩,e) else some (⟨#[]⟩,2) else none
theorem line_size (dt am q1 q2:ByteArray):(stmt_Text.line dt am q1 q2).size=5+dt.size+1+am.size+1+q1.size+1+q2.size+1:=by
 unfold stmt_Text.line;simp only [ByteArray.size_append];rfl
theorem head_size (acc cur nt om:ByteArray):(stmt_Text.head acc cur nt om).size=10+acc.size+1+cur.size+1+nt.size+6+om.size+1:=by
 unfold stmt_Text.head;simp only [ByteArray.size_append];rfl
def stmt_divide.l0:Nat→ByteArray→List ByteArray→Nat→Nat→Option (List ByteArray)
  | 0,_,_,_,_=>none
  | k+1,s,xs,a,i=>if i < s.size then (if (s.get! i).toNat=10 then (if xs.length < 8796093022208 then stmt_divide.l0 k s (xs++[s.extract a i]) (i+1) (i+1) else none) else stmt_divide.l0 k s xs a (i+1))
     else if a < s.size then (if xs.length < 8796093022208 then some (xs++[s.extract a s.size]) else none) else some xs
def stmt_divide.f (k:Nat) (s:ByteArray):Option (List ByteArray):=if s.size≤140737488351232 then stmt_divide.l0 k s [] 0 0 else none
theorem stmt_divide.skip (s:ByteArray) (r:List ByteArray) (n:Nat):∀ (k:Nat) (xs:List ByteArray) (a i:Nat),i+n≤s.size→(∀ j,j < n→128≤(s.get! (i+j)).toNat)→stmt_divide.l0 k s xs a i=some r→∃ m,m+n≤k∧stmt_divide.l0 m s xs a (i+n)=some r:=by
  induction n with
  | zero=>intro k xs a i h1 h2 h;exact ⟨k,Nat.le_refl _,h⟩
  | succ n ih =>
    intro k xs a i h1 h2 h
    cases k with
    | zero=>exact absurd h (by rw [stmt_divide.l0];intro h;cases h)
    | succ k =>
      have h0:=h2 0 (by omega);rw [Nat.add_zero] at h0;rw [stmt_divide.l0,if_pos (by omega),if_neg (by omega)] at h;obtain ⟨m,hm,hr⟩:=ih k xs a (i+1) (by omega) (fun j hj=>by have:=h2 (j+1) (by omega);rwa [show i+(j+1)=i+1+j by omega] at this) h;exact ⟨m,by omega,by rwa [show i+(n+1)=i+1+n by omega]⟩
theorem get_bang (s:ByteArray) (i:Nat) (h:i < s.size):s.get! i=s[i]:=by
  simp [ByteArray.get!,getElem!_pos,h];rfl
theorem words_Cut.calls (k:Nat) (a0:ByteArray) (r1:List (S93)) (r2 r3:Int) (w:World) (h:words_Cut.f k a0=some (r1,r2,r3)) :
  Calls Tryd.prog 45 #[.string a0] w fun e w'=>∃ v0_:Value,e=.returned (.tuple #[v0_,.int .i64 r2,.int .i64 r3])∧Kd.R k93 93 w' w.heap.size (fun _=>True) v0_ r1∧Below w.heap.size w w':=by
 have hu93:=Tryd.underlying93;have hu95:=Tryd.underlying95;have HB:=sd (Below.refl w.heap.size w);have H:=h;clear h;unfold words_Cut.f at H;replace H:=ifI H;rcases H with ⟨c2,H⟩ | ⟨c2,H⟩
 ·have c2b0:decide (400 < (a0.size:Int))=true:=decide_eq_true c2;have c2b1:decide (400 < a0.size)=true:=decide_eq_true (by omega);clear c2;simp only [Option.some.injEq,Prod.mk.injEq] at H
  obtain ⟨rfl,rfl,rfl⟩:=H;go_enter Tryd.func45,Tryd.ntmps45
  go_wp2
  repeat (go_quiet (fail);try go_wp2)
  go_ret3
  exact ⟨_,zq10,zq39,zq7⟩
 have c2b0:decide (400 < (a0.size:Int))=false:=decide_eq_false c2;have c2b1:decide (400 < a0.size)=false:=decide_eq_false (by omega);clear c2;have H':=sd H;clear H;go_enter Tryd.func45,Tryd.ntmps45
 go_wp2
 repeat (go_quiet (fail);try go_wp2)
 go_loopg [2,3] k (fun kq v2 v3 w'=>∃ (x2_1:List (S93)) (x3_1:Int),v3=.int .i64 x3_1∧Aside0 (words_Cut.l0 kq a0 x2_1 x3_1=some (r1,r2,r3))∧Aside0 (kq≤k)∧Aside0 (Kd.R k93 93 w' w.heap.size (fun _=>True) v2 x2_1)∧Aside0 (Below w.heap.size w w'))
 case atStart=>exact ⟨(([]:List (S93))),(0),zq1,H',⟨Nat.le_refl _⟩,⟨zq39⟩,⟨zq7⟩⟩
 case round =>
  clear H';try clear c2
  try clear c2b0
  try clear c2b1
  try clear p2
  obtain ⟨x2_1,x3_1,rfl,HA,HK1,HO_2,HB⟩:=hrel
  cases gk with
  | zero=>exact absurd HA.out (by simp [words_Cut.l0])
  | succ k1 =>
   have H:=HA.out;clear HA;simp only [words_Cut.l0] at H
   have HC3:=sd H;clear H;go_upto_region 3 with (fail)
   repeat (go_quiet (fail);go_upto_region 3 with (fail))
   go_cut [20] (fun v20 wc=>∃ (kq:Nat) (x20_2:Bool),v20=.bool x20_2∧Aside0 (words_Cut.j1 kq a0 x2_1 x3_1 x20_2=some (r1,r2,r3))∧Aside0 (kq≤k1)∧Aside0 (Kd.R k93 93 wc w.heap.size (fun _=>True) u2 x2_1)∧Aside0 (Below w.heap.size w wc))
   case first =>
    have H:=HC3.out;clear HC3;replace H:=ifI H;rcases H with ⟨c4,H⟩ | ⟨c4,H⟩
    ·have c4b0:decide (x3_1 < (a0.size:Int))=true:=decide_eq_true c4;clear c4;(first | rw [c4b0] | (simp only [i64_w,i32_w];rw [c4b0]) | skip)
     replace H:=ifI H;rcases H with ⟨c5,H⟩ | ⟨c5,H⟩
     ·have c5b0:decide (0≤x3_1)=true:=decide_eq_true c5;clear c5;have H':=sd H;clear H;have p6:0≤(x3_1:Int):=od;have q6:x3_1 < (a0.size:Int):=od;have hx6:=bt_at a0 x3_1;replace p6:=eq_true p6;replace q6:=eq_true q6;go_wp2
      repeat (go_quiet (fail);try go_wp2)
      go_meet
      case rel=>exact ⟨_,(((bt a0 x3_1) != 35)),zq1,H',⟨zq43⟩,⟨zq125⟩,⟨zq7⟩⟩
     exact absurd H (by simp)
    have c4b0:decide (x3_1 < (a0.size:Int))=false:=decide_eq_false c4;clear c4;(first | rw [c4b0] | (simp only [i64_w,i32_w];rw [c4b0]) | skip)
    have H':=sd H;clear H;go_wp2
    repeat (go_quiet (fail);try go_wp2)
    go_meet
    case rel=>exact ⟨_,(false),zq1,H',⟨zq43⟩,⟨zq125⟩,⟨zq7⟩⟩
   case rest =>
    clear HC3;try clear c2
    try clear c2b0
    try clear c2b1
    try clear p2
    try clear c4
    try clear c4b0
    try clear c5
    try clear c5b0
    try clear p6
    try clear q6
    try clear hx6
    try clear p2
    try clear p6
    try clear q6
    obtain ⟨kq,x20_2,rfl,HA,HJ2,HO_2,HB⟩:=hcut
    cases kq with
    | zero=>exact absurd HA.out (by simp [words_Cut.j1])
    | succ kj2 =>
     have H:=HA.out;clear HA;simp only [words_Cut.j1] at H
     by_cases c7:x20_2=true
     ·subst c7;rw [if_pos rfl] at H;replace H:=ifI H;rcases H with ⟨c8,H⟩ | ⟨c8,H⟩
      ·have c8b0:decide (0≤x3_1)=true:=decide_eq_true c8;clear c8;replace H:=ifI H;rcases H with ⟨c9,H⟩ | ⟨c9,H⟩
       ·have c9b0:decide (x3_1 < (a0.size:Int))=true:=decide_eq_true c9;clear c9;replace H:=ifI H;rcases H with ⟨c11,H⟩ | ⟨c11,H⟩
        ·obtain ⟨c11b0,c11b1⟩:=eqI c11;clear c11;have H':=sd H;clear H;have p10:0≤(x3_1:Int):=od;have q10:x3_1 < (a0.size:Int):=od;have hx10:=bt_at a0 x3_1;replace p10:=eq_true p10;replace q10:=eq_true q10;go_wp2
         repeat (go_quiet (fail);try go_wp2)
         go_roundg kj2
         case measure=>have:=HK1.out;have:=HJ2.out;omega
         case rel=>exact ⟨(x2_1),(wrap64 (x3_1+1)),zq1,H',⟨zq50⟩,⟨zq125⟩,⟨zq7⟩⟩
        obtain ⟨c11b0,c11b1⟩:=neI c11;replace H:=bdI H;obtain ⟨⟨t185,t186,t187,t188,t189,t190⟩,A12,H⟩:=H;(try dsimp only at H)
        replace H:=ifI H;rcases H with ⟨c13,H⟩ | ⟨c13,H⟩
        ·obtain ⟨c13b0,c13b1⟩:=eqI c13;clear c13;replace H:=ifI H;rcases H with ⟨c14,H⟩ | ⟨c14,H⟩
         ·have LMc14:=sd c14;clear c14;obtain ⟨y193,hy193⟩:∃ y_:List (S93),y_=(x2_1++[(⟨t185,t186,t187⟩:S93)]):=⟨_,rfl⟩
          replace H:(words_Cut.l0 kj2 a0 y193 t188)=some (r1,r2,r3):=by first | (rw [hy193];with_reducible exact H) | (have H2_:=(Option.bind_some _ _).symm.trans H;rw [hy193];with_reducible exact H2_) | (have H2_:=(Option.bind_some _ _).symm.trans H;with_reducible exact H2_) | with_reducible exact H | (rw [hy193];exact H) | exact H
          have Ny193:=sd hy193;clear hy193;have H':=sd H;clear H;have p10:0≤(x3_1:Int):=od;have q10:x3_1 < (a0.size:Int):=od;have hx10:=bt_at a0 x3_1;replace p10:=eq_true p10;replace q10:=eq_true q10;go_wp2_with (first | (go_at_call 66;(with_reducible refine (words_word.calls kj2 a0 x3_1 t185 t186 t187 t188 t189 t190 _ A12.out).mono ?_);rintro e w15 ⟨rfl,hb⟩;replace HO_2:=rbm HO_2 hb;replace HB:=hbm HB hb;clear hb) | ((with_reducible refine gate_dst (N:=5) rfl ?_);refine bxA 5 #[.int .i64 0,.string (⟨#[]⟩:ByteArray),.int .i64 0] 93 ?_;intro gb191 hg w16 hbox hb;have BK191:=sd (hbox);have GW191:=gem hg HB;have GE191:=GW191;replace HO_2:=sd (Kd.R_below (Kd.R_elderB zq125 gb191 (Nat.le_of_eq hg.symm)) hb);replace HB:=hbm HB hb;clear hb hbox hg) | ((with_reducible refine gate_dst (N:=7) rfl ?_);refine bxA 7 #[.int .i64 0,.int .i64 0] 95 ?_;intro gb192 hg w17 hbox hb;have BK192:=sd (hbox);have GW192:=gem hg HB;have GE192:=GW192;have NB191_192:=nlm hg BK191;have NB192_191:=ngm hg BK191;replace HO_2:=rbm HO_2 hb;replace BK191:=bkm BK191 hb;replace HB:=hbm HB hb;clear hb hbox hg;have hnb18:=NB191_192.out;have hnc18:=NB192_191.out;obtain ⟨_,_,_,_,_,_⟩:=bk3 BK191;obtain ⟨_,_,_,_⟩:=bk2 BK192) | ((with_reducible refine gate_builtin (b:=.append) (xs:=#[.tmp 41,.tmp 43]) rfl ?_);at_builtin;refine Kd.R_append k93 (w0:=w) w.heap.size rfl (.tmp 41) (.tmp 43) 66 93 (.agg #[(.int .i64 0),(.string ⟨#[]⟩),(.int .i64 0)]) 32 rfl Tryd.underlying66 info93 rfl (by decide) (by omega) u2 x2_1 (⟨t185,t186,t187⟩:S93) [.int .i64 t185,.string t186,.int .i64 t187] (fun k_=>k_≠gb191) (fun _=>False) rfl zq51 ?aP (fun _ hk=>hk.elim) ?aF ?aO ?aB ?aS ?aL ?_;(case aP=>exact k93_mkM _ _ _ (⟨t185,t186,t187⟩:S93));(case aB=>exact zq126);(case aF=>exact (fun k_ hk=>Kd.freshB (g:=gb191) (o:=.cells #[.int .i64 t185,.string t186,.int .i64 t187] 93 (0,0)) zq127 k_ hk));(case aO=>exact zq128);(case aS=>exact (below_size zq126));(case aL=>have:=LMc14.out;omega);intro v194 w21 ho hb hg hat;rw [← Ny193.out] at ho;have HO195:=sd (ho);replace BK191:=sd (blk_grown (g:=gb191) (o:=.cells #[.int .i64 t185,.string t186,.int .i64 t187] 93 (0,0)) zq127 hg (Kd.R_away HO_2.out (fun _ hk=>hk.2)));replace BK192:=sd (blk_grown (g:=gb192) (o:=.cells #[.int .i64 t189,.int .i64 t190] 95 (0,0)) zq129 hg (Kd.R_ne HO_2.out BK192.out (by decide)));replace HB:=sd (hb);clear HO_2;clear ho hb hg hat))
          repeat (go_quiet (first | (go_at_call 66;(with_reducible refine (words_word.calls kj2 a0 x3_1 t185 t186 t187 t188 t189 t190 _ A12.out).mono ?_);rintro e w15 ⟨rfl,hb⟩;replace HO_2:=rbm HO_2 hb;replace HB:=hbm HB hb;clear hb) | ((with_reducible refine gate_dst (N:=5) rfl ?_);refine bxA 5 #[.int .i64 0,.string (⟨#[]⟩:ByteArray),.int .i64 0] 93 ?_;intro gb191 hg w16 hbox hb;have BK191:=sd (hbox);have GW191:=gem hg HB;have GE191:=GW191;replace HO_2:=sd (Kd.R_below (Kd.R_elderB zq125 gb191 (Nat.le_of_eq hg.symm)) hb);replace HB:=hbm HB hb;clear hb hbox hg) | ((with_reducible refine gate_dst (N:=7) rfl ?_);refine bxA 7 #[.int .i64 0,.int .i64 0] 95 ?_;intro gb192 hg w17 hbox hb;have BK192:=sd (hbox);have GW192:=gem hg HB;have GE192:=GW192;have NB191_192:=nlm hg BK191;have NB192_191:=ngm hg BK191;replace HO_2:=rbm HO_2 hb;replace BK191:=bkm BK191 hb;replace HB:=hbm HB hb;clear hb hbox hg;have hnb18:=NB191_192.out;have hnc18:=NB192_191.out;obtain ⟨_,_,_,_,_,_⟩:=bk3 BK191;obtain ⟨_,_,_,_⟩:=bk2 BK192) | ((with_reducible refine gate_builtin (b:=.append) (xs:=#[.tmp 41,.tmp 43]) rfl ?_);at_builtin;refine Kd.R_append k93 (w0:=w) w.heap.size rfl (.tmp 41) (.tmp 43) 66 93 (.agg #[(.int .i64 0),(.string ⟨#[]⟩),(.int .i64 0)]) 32 rfl Tryd.underlying66 info93 rfl (by decide) (by omega) u2 x2_1 (⟨t185,t186,t187⟩:S93) [.int .i64 t185,.string t186,.int .i64 t187] (fun k_=>k_≠gb191) (fun _=>False) rfl zq51 ?aP (fun _ hk=>hk.elim) ?aF ?aO ?aB ?aS ?aL ?_;(case aP=>exact k93_mkM _ _ _ (⟨t185,t186,t187⟩:S93));(case aB=>exact zq126);(case aF=>exact (fun k_ hk=>Kd.freshB (g:=gb191) (o:=.cells #[.int .i64 t185,.string t186,.int .i64 t187] 93 (0,0)) zq127 k_ hk));(case aO=>exact zq128);(case aS=>exact (below_size zq126));(case aL=>have:=LMc14.out;omega);intro v194 w21 ho hb hg hat;rw [← Ny193.out] at ho;have HO195:=sd (ho);replace BK191:=sd (blk_grown (g:=gb191) (o:=.cells #[.int .i64 t185,.string t186,.int .i64 t187] 93 (0,0)) zq127 hg (Kd.R_away HO_2.out (fun _ hk=>hk.2)));replace BK192:=sd (blk_grown (g:=gb192) (o:=.cells #[.int .i64 t189,.int .i64 t190] 95 (0,0)) zq129 hg (Kd.R_ne HO_2.out BK192.out (by decide)));replace HB:=sd (hb);clear HO_2;clear ho hb hg hat));try go_wp2_with (first | (go_at_call 66;(with_reducible refine (words_word.calls kj2 a0 x3_1 t185 t186 t187 t188 t189 t190 _ A12.out).mono ?_);rintro e w15 ⟨rfl,hb⟩;replace HO_2:=rbm HO_2 hb;replace HB:=hbm HB hb;clear hb) | ((with_reducible refine gate_dst (N:=5) rfl ?_);refine bxA 5 #[.int .i64 0,.string (⟨#[]⟩:ByteArray),.int .i64 0] 93 ?_;intro gb191 hg w16 hbox hb;have BK191:=sd (hbox);have GW191:=gem hg HB;have GE191:=GW191;replace HO_2:=sd (Kd.R_below (Kd.R_elderB zq125 gb191 (Nat.le_of_eq hg.symm)) hb);replace HB:=hbm HB hb;clear hb hbox hg) | ((with_reducible refine gate_dst (N:=7) rfl ?_);refine bxA 7 #[.int .i64 0,.int .i64 0] 95 ?_;intro gb192 hg w17 hbox hb;have BK192:=sd (hbox);have GW192:=gem hg HB;have GE192:=GW192;have NB191_192:=nlm hg BK191;have NB192_191:=ngm hg BK191;replace HO_2:=rbm HO_2 hb;replace BK191:=bkm BK191 hb;replace HB:=hbm HB hb;clear hb hbox hg;have hnb18:=NB191_192.out;have hnc18:=NB192_191.out;obtain ⟨_,_,_,_,_,_⟩:=bk3 BK191;obtain ⟨_,_,_,_⟩:=bk2 BK192) | ((with_reducible refine gate_builtin (b:=.append) (xs:=#[.tmp 41,.tmp 43]) rfl ?_);at_builtin;refine Kd.R_append k93 (w0:=w) w.heap.size rfl (.tmp 41) (.tmp 43) 66 93 (.agg #[(.int .i64 0),(.string ⟨#[]⟩),(.int .i64 0)]) 32 rfl Tryd.underlying66 info93 rfl (by decide) (by omega) u2 x2_1 (⟨t185,t186,t187⟩:S93) [.int .i64 t185,.string t186,.int .i64 t187] (fun k_=>k_≠gb191) (fun _=>False) rfl zq51 ?aP (fun _ hk=>hk.elim) ?aF ?aO ?aB ?aS ?aL ?_;(case aP=>exact k93_mkM _ _ _ (⟨t185,t186,t187⟩:S93));(case aB=>exact zq126);(case aF=>exact (fun k_ hk=>Kd.freshB (g:=gb191) (o:=.cells #[.int .i64 t185,.string t186,.int .i64 t187] 93 (0,0)) zq127 k_ hk));(case aO=>exact zq128);(case aS=>exact (below_size zq126));(case aL=>have:=LMc14.out;omega);intro v194 w21 ho hb hg hat;rw [← Ny193.out] at ho;have HO195:=sd (ho);replace BK191:=sd (blk_grown (g:=gb191) (o:=.cells #[.int .i64 t185,.string t186,.int .i64 t187] 93 (0,0)) zq127 hg (Kd.R_away HO_2.out (fun _ hk=>hk.2)));replace BK192:=sd (blk_grown (g:=gb192) (o:=.cells #[.int .i64 t189,.int .i64 t190] 95 (0,0)) zq129 hg (Kd.R_ne HO_2.out BK192.out (by decide)));replace HB:=sd (hb);clear HO_2;clear ho hb hg hat)))
          go_roundg kj2
          case measure=>have:=HK1.out;have:=HJ2.out;omega
          case rel=>exact ⟨(y193),(t188),zq1,H',⟨zq50⟩,⟨by (with_reducible repeat (first | apply Kd.R_alloc | apply Kd.R_drewN | apply Kd.R_drew));exact Kd.R_mono HO195.out (fun _ hk=>trivial)⟩,⟨zq126⟩⟩
         exact absurd H (by simp)
        obtain ⟨c13b0,c13b1⟩:=neI c13;simp only [Option.some.injEq,Prod.mk.injEq] at H
        obtain ⟨rfl,rfl,rfl⟩:=H;have p10:0≤(x3_1:Int):=od;have q10:x3_1 < (a0.size:Int):=od;have hx10:=bt_at a0 x3_1;replace p10:=eq_true p10;replace q10:=eq_true q10;go_wp2_with (first | (go_at_call 66;(with_reducible refine (words_word.calls kj2 a0 x3_1 t185 t186 t187 t188 t189 t190 _ A12.out).mono ?_);rintro e w22 ⟨rfl,hb⟩;replace HO_2:=rbm HO_2 hb;replace HB:=hbm HB hb;clear hb) | ((with_reducible refine gate_dst (N:=5) rfl ?_);refine bxA 5 #[.int .i64 0,.string (⟨#[]⟩:ByteArray),.int .i64 0] 93 ?_;intro gb191 hg w23 hbox hb;have BK191:=sd (hbox);have GW191:=gem hg HB;have GE191:=GW191;replace HO_2:=sd (Kd.R_below (Kd.R_elderB zq125 gb191 (Nat.le_of_eq hg.symm)) hb);replace HB:=hbm HB hb;clear hb hbox hg) | ((with_reducible refine gate_dst (N:=7) rfl ?_);refine bxA 7 #[.int .i64 0,.int .i64 0] 95 ?_;intro gb192 hg w24 hbox hb;have BK192:=sd (hbox);have GW192:=gem hg HB;have GE192:=GW192;have NB191_192:=nlm hg BK191;have NB192_191:=ngm hg BK191;replace HO_2:=rbm HO_2 hb;replace BK191:=bkm BK191 hb;replace HB:=hbm HB hb;clear hb hbox hg;have hnb25:=NB191_192.out;have hnc25:=NB192_191.out;obtain ⟨_,_,_,_,_,_⟩:=bk3 BK191;obtain ⟨_,_,_,_⟩:=bk2 BK192))
        repeat (go_quiet (first | (go_at_call 66;(with_reducible refine (words_word.calls kj2 a0 x3_1 t185 t186 t187 t188 t189 t190 _ A12.out).mono ?_);rintro e w22 ⟨rfl,hb⟩;replace HO_2:=rbm HO_2 hb;replace HB:=hbm HB hb;clear hb) | ((with_reducible refine gate_dst (N:=5) rfl ?_);refine bxA 5 #[.int .i64 0,.string (⟨#[]⟩:ByteArray),.int .i64 0] 93 ?_;intro gb191 hg w23 hbox hb;have BK191:=sd (hbox);have GW191:=gem hg HB;have GE191:=GW191;replace HO_2:=sd (Kd.R_below (Kd.R_elderB zq125 gb191 (Nat.le_of_eq hg.symm)) hb);replace HB:=hbm HB hb;clear hb hbox hg) | ((with_reducible refine gate_dst (N:=7) rfl ?_);refine bxA 7 #[.int .i64 0,.int .i64 0] 95 ?_;intro gb192 hg w24 hbox hb;have BK192:=sd (hbox);have GW192:=gem hg HB;have GE192:=GW192;have NB191_192:=nlm hg BK191;have NB192_191:=ngm hg BK191;replace HO_2:=rbm HO_2 hb;replace BK191:=bkm BK191 hb;replace HB:=hbm HB hb;clear hb hbox hg;have hnb25:=NB191_192.out;have hnc25:=NB192_191.out;obtain ⟨_,_,_,_,_,_⟩:=bk3 BK191;obtain ⟨_,_,_,_⟩:=bk2 BK192));try go_wp2_with (first | (go_at_call 66;(with_reducible refine (words_word.calls kj2 a0 x3_1 t185 t186 t187 t188 t189 t190 _ A12.out).mono ?_);rintro e w22 ⟨rfl,hb⟩;replace HO_2:=rbm HO_2 hb;replace HB:=hbm HB hb;clear hb) | ((with_reducible refine gate_dst (N:=5) rfl ?_);refine bxA 5 #[.int .i64 0,.string (⟨#[]⟩:ByteArray),.int .i64 0] 93 ?_;intro gb191 hg w23 hbox hb;have BK191:=sd (hbox);have GW191:=gem hg HB;have GE191:=GW191;replace HO_2:=sd (Kd.R_below (Kd.R_elderB zq125 gb191 (Nat.le_of_eq hg.symm)) hb);replace HB:=hbm HB hb;clear hb hbox hg) | ((with_reducible refine gate_dst (N:=7) rfl ?_);refine bxA 7 #[.int .i64 0,.int .i64 0] 95 ?_;intro gb192 hg w24 hbox hb;have BK192:=sd (hbox);have GW192:=gem hg HB;have GE192:=GW192;have NB191_192:=nlm hg BK191;have NB192_191:=ngm hg BK191;replace HO_2:=rbm HO_2 hb;replace BK191:=bkm BK191 hb;replace HB:=hbm HB hb;clear hb hbox hg;have hnb25:=NB191_192.out;have hnc25:=NB192_191.out;obtain ⟨_,_,_,_,_,_⟩:=bk3 BK191;obtain ⟨_,_,_,_⟩:=bk2 BK192)))
        go_ret3
        exact ⟨_,zq10,zq39,zq126⟩
       exact absurd H (by simp)
      exact absurd H (by simp)
     replace c7:=Bool.eq_false_iff.mpr c7;subst c7;rw [if_neg Bool.false_ne_true] at H;simp only [Option.some.injEq,Prod.mk.injEq] at H
     obtain ⟨rfl,rfl,rfl⟩:=H;go_wp2
     repeat (go_quiet (fail);try go_wp2)
     go_ret3
     exact ⟨_,zq10,zq125,zq7⟩
def stmt_parser_line.f (k:Nat) (curs:List S77) (p:PSt) (ws:List S93):Option (PSt×Int) :=
 (if p.part=0 then stmt_shaped.f k ws (⟨#[115,116,97,116,101,109,101,110,116]⟩:ByteArray) ([1,1,2]:List Int) else some false).bind fun b=>if b=true then stmt_parser_head.f k curs { p with part:=1 } ws else
 (if p.part=1 then stmt_shaped.f k ws (⟨#[111,112,101,110]⟩:ByteArray) ([2]:List Int) else some false).bind fun b=>if b=true then (if 1 < ws.length then (money_Parse.f k (rd_T93 ws 1).f1 p.dg).bind fun a=>some ({ p with part:=2,op:=a.1 },a.2) else none) else
 (if p.part=2 then stmt_shaped.f k ws (⟨#[108,105,110,101]⟩:ByteArray) ([2,2,3,3]:List Int) else some false).bind fun b=>if b=true then stmt_parser_entry.f k p ws else
 (if p.part=2 then stmt_shaped.f k ws (⟨#[99,108,111,115,101]⟩:ByteArray) ([2]:List Int) else some false).bind fun b=>if b=true then (if 1 < ws.length then (money_Parse.f k (rd_T93 ws 1).f1 p.dg).bind fun a=>some ({ p with part:=3,cl:=a.1 },a.2) else none) else some (p,27)
theorem line_x (k bd g:Nat) (AC:Option Addr) (cc:Nat) (curs:List S77) (p:PSt) (v:Value) (AW:Option Addr) (cw:Nat) (ws:List S93) (p':PSt) (x:Int) (w:World)
  (hp:PB w bd g (.slice AC curs.length cc) p v) (hbd:bd≤w.heap.size) (hc:Kd.C k77 w AC curs.length curs) (hcn:∀ ad,AC=some ad→0 < curs.length→ad.block < bd) (hcc:curs.length≤cc) (hw:WdC w g AW cw ws) (h:stmt_parser_line.f k curs p ws=some (p',x)) (hG:Gl w) (h0:p.part≠0) (h1:p.part≠1) (h2:p.part≠2) :
  Calls Tryd.prog 46 #[.pointer (some ⟨g,0,none⟩),.slice AW ws.length cw] w fun e w'=>e=.returned (.int .i64 x)∧(∃ v',PB w' bd g (.slice AC curs.length cc) p' v')∧FB bd g v w w':=by
 have HP:=sd hp;have HW:=sd hw;have HC:=sd hc;have HCN:=sd hcn;have HCC:=sd hcc;have HG:=sd hG;have HB:=sd (FB.refl bd g v w);have HB0:=sd (Below.refl w.heap.size w);clear hp hw hc hcn hcc hG;generalize hQ:(fun (e:Ending) (w':World)=>e=.returned (.int .i64 x)∧(∃ v',PB w' bd g (.slice AC curs.length cc) p' v')∧FB bd g v w w')=Post;have HQ:=sd hQ;clear hQ;unfold stmt_parser_line.f at h;have k_:=HP.out.facts;obtain ⟨k0,k1,k2,k3,k4,k5,k6,k7,k8,f1,f2,f3,f4,f5,f6,f7,f8⟩:=k_;rw [if_neg h0,Option.bind_some,if_neg (by decide),if_neg h1,Option.bind_some,if_neg (by decide),if_neg h2,if_neg h2,Option.bind_some,if_neg (by decide),Option.bind_some,if_neg (by decide)] at h;obtain ⟨rfl,rfl⟩:=Prod.mk.inj (Option.some.inj h);have q0:(p.part == 0)=false:=beq_eq_false_iff_ne.mpr h0;have q1:(p.part == 1)=false:=beq_eq_false_iff_ne.mpr h1;have q2:(p.part == 2)=false:=beq_eq_false_iff_ne.mpr h2;go_enter Tryd.func46,Tryd.ntmps46
 go_wp2_with fail
 rw [← HQ.out];exact ⟨by (try rfl),⟨_,HP.out⟩,HB.out⟩
def stmt_Parse.step (k:Nat) (curs:List S77) (p:PSt) (c:List S93×Int×Int):Option (PSt×Int):=if c.2.2=0 then (if 0 < c.1.length then stmt_parser_line.f k curs p c.1 else some (p,0)) else some (p,c.2.2)
theorem sret (Post:Ending→World→Prop) (T:Array Value) (W:World) (g:Nat) (cs:Array Value) (i e:Int) (t4:T.getD 4 undef=.pointer (some ⟨g,0,none⟩)) (t5:T.getD 5 undef=.int .i64 i) (t6:T.getD 6 undef=.int .i64 e)
  (hg:W.heap[g]?=some (.cells cs 24 (0,0))) (hs:cs.size=6) (hp:Post (.returned (.tuple #[.agg cs,.int .i64 i,.int .i64 e])) W):bodyPost Tryd.prog Tryd.f18 Post .ret { tmps:=T,defers:=[] } W:=by
 refine bodyPost_ret (v:=.tuple #[.agg cs,.int .i64 i,.int .i64 e]) ?_ rfl hp;have:=results_list (P:=Tryd.prog) (fn:=Tryd.f18) (tmps:=T) (w:=W) (rs:=[.cell 4 24,.tmp 5,.tmp 6]) rfl (by simp) (.cell g 24 cs (0,0) _ t4 hg Tryd.underlying24 rfl (by rw [hs];kernel_rfl) (.tmp (.tmp .nil)));rw [t5,t6] at this;exact this
end Go.Proofs.YtmlcdpfcafmmcaaDoor.A
namespace Go.Proofs.YtmlcdpfcafmmcaaDoor.B
open Go.RowKit WL
theorem goesV_ {P : Program} {ops : Array Oper} {Q : Exit → Act → World → Prop} {oi : Oper} {N : Option Tmp} {a : Act} {w : World} {K : Act → World → Prop} {f : FuncId} {fn : Func} (o : Operand) {as_ : Array Operand} {ts : Array TypeId} (cap : Array Value) (hf : P.funcs[f]? = some fn) (hname : (fn.name == "runtime.NumGoroutine") = false) (hb : fn.body.isSome = true) (args : Array Value)
    (hw:Region.wanted oi (yielded ops a.tmps)=true) (hN:oi.dst=N) (hop:oi.op=.call { callee:=.value o,args:=as_,argTypes:=ts }) (ho:a.eval o=.func (.func f) #[] cap) (hargs:as_.map a.eval++cap=args)
    (h:Calls P f args w fun e w'=>∃ v,e=.returned v∧K (a.put N v) w'):if Region.wanted oi (yielded ops a.tmps)=true then Oper.wp P oi a w K Q else K (a.put N undef) w:=by
  refine call_ f args hw hN ?_ h;have he:=enters_ hf hname hb args w;unfold execOp;simp [hop,resolve,Deferred.ofValue,invoke,ho,hargs,he]
theorem decode_dark (s:ByteArray) (pos:Nat) (h:pos < s.size) (ha:128≤(s[pos]'h).toNat) :
    pos+(Utf8.decode s pos).2≤s.size∧∀ j,j < (Utf8.decode s pos).2→128≤(s.get! (pos+j)).toNat:=by
  have e:s.get! (pos+0)=s[pos]'h:=by
    show s.get! pos=_
    simp [ByteArray.get!,getElem!_pos,h]
    rfl
  obtain ⟨r,hr⟩:∃ r,r=Utf8.decode s pos:=⟨_,rfl⟩
  rw [← hr];have h0:¬ (s[pos]'h).toNat < 128:=by omega
  have hone:pos+1≤s.size∧∀ j,j < 1→128≤(s.get! (pos+j)).toNat:=⟨h,fun j hj=>by obtain rfl:j=0:=(by omega);rw [e];exact ha⟩
  simp only [Utf8.decode,e,if_neg h0] at hr
  split at hr
  · rename_i c
    simp only [Bool.and_eq_true,decide_eq_true_eq,beq_iff_eq] at c
    split at hr
    · rw [hr];exact ⟨by show pos+2≤_;omega,fun j hj=>by
        have hj:j < 2:=hj;have:j=0∨j=1:=by omega
        rcases this with rfl | rfl
        · rw [e];exact ha
        · omega⟩
    · rw [hr];exact hone
  split at hr
  · rename_i c
    simp only [Bool.and_eq_true,decide_eq_true_eq,beq_iff_eq] at c
    split at hr
    · rw [hr];exact ⟨by show pos+3≤_;omega,fun j hj=>by
        have hj:j < 3:=hj;have:j=0∨j=1∨j=2:=by omega
        rcases this with rfl | rfl | rfl
        · rw [e];exact ha
        · omega
        · omega⟩
    · rw [hr];exact hone
  split at hr
  · rename_i c
    simp only [Bool.and_eq_true,decide_eq_true_eq,beq_iff_eq] at c
    split at hr
    · rw [hr];exact ⟨by show pos+4≤_;omega,fun j hj=>by
        have hj:j < 4:=hj;have:j=0∨j=1∨j=2∨j=3:=by omega
        rcases this with rfl | rfl | rfl | rfl
        · rw [e];exact ha
        · omega
        · omega
        · omega⟩
    · rw [hr];exact hone
  · rw [hr];exact hone
end Go.Proofs.YtmlcdpfcafmmcaaDoor.B
namespace Go.Proofs.YtmlcdpfcafmmcaaDoor.B
open Go.RowKit WW WL WM
section
variable {P:Program} {ops:Array Oper} {rest:List Oper} {o:Oper} {Q:Exit→Act→World→Prop} {a:Act} {w V W w1:World} {g g':Nat}
theorem bk1 {w:World} {g t:Nat} {v0:Value} (B:Aside0 (w.heap[g]?=some (.cells #[v0] t (0,0)))):w.cell? ⟨g,0,none⟩=some v0∧w.frozen? ⟨g,0,none⟩=false:=⟨(blk_cell B.out 0).trans rfl,blk_frozen B.out 0⟩
end
end Go.Proofs.YtmlcdpfcafmmcaaDoor.B
namespace Go.Proofs.YtmlcdpfcafmmcaaDoor.B
open Go.Lib Go.RowKit WW
theorem DInv.nums {c R0 W k Q r:Nat} (h:DInv c R0 W (k+1) Q r) (hc:c < 18446744073709551616):∃ b s t cv,DNums c W k Q r b s t cv:=by
  have hlt:=h.lt
  have hQ:2 * Q+1 < 18446744073709551616:=by
    have hb:=h.bound;have hle:=h.le
    have:2 * 2 ^ (64 - (k+1))≤2 ^ 64:=by
      rw [← Nat.pow_succ'];exact Nat.pow_le_pow_right (by decide) (by omega)
    have e:(2:Nat) ^ 64=18446744073709551616:=by decide
    omega
  have hWk:W / 2 ^ k < 18446744073709551616:=Nat.lt_of_le_of_lt (Nat.div_le_self _ _) h.ltW;have e0:((W:Int) / 2 ^ k)=((W / 2 ^ k:Nat):Int):=by rw [Int.natCast_ediv,Int.natCast_pow];rfl
  obtain ⟨v,hv⟩:∃ v,v=W / 2 ^ k:=⟨_,rfl⟩
  rw [← hv] at hWk e0;refine ⟨((v % 2:Nat):Int),((2 * (r % 9223372036854775808):Nat):Int),((2 * (r % 9223372036854775808)+v % 2:Nat):Int),decide (9223372036854775808≤r),?_,?_,?_,?_,?_,?_,?_⟩
  · rw [e0,and_one v hWk]
  · rw [show (r:Int) * 2=((2 * r:Nat):Int) by omega,wu64n];congr 1;omega
  · exact or_even _ (by omega) _ (by omega)
  · rw [Bool.eq_iff_iff,beq_iff_eq,decide_eq_true_iff];omega
  · rw [show (Q:Int) * 2=((2 * Q:Nat):Int) by omega,wu64n];congr 1;omega
  · exact or_even Q (by omega) 1 (by omega)
  · rw [← hv]
    have wr:∀ z:Int,IntKind.u64.wrap z=z % 18446744073709551616:=fun z=>by simp [IntKind.wrap,IntKind.signed,IntKind.bits]
    by_cases h1:9223372036854775808≤r
    · refine .inl ⟨decide_eq_true h1,by omega,?_⟩
      rw [wr];omega
    · have e:r % 9223372036854775808=r:=Nat.mod_eq_of_lt (by omega)
      rw [e];by_cases h2:c≤2 * r+v % 2
      · refine .inr (.inl ⟨decide_eq_false h1,by omega,h2,?_⟩)
        rw [wr];omega
      · exact .inr (.inr ⟨decide_eq_false h1,by omega,by omega,rfl⟩)
end Go.Proofs.YtmlcdpfcafmmcaaDoor.B
namespace Go.Proofs.YtmlcdpfcafmmcaaDoor.A
open Go.RowKit B WW WL WM
attribute [local go_sem] max2_int min2_int max_two min_two max_three min_three max_four min_four
set_option maxHeartbeats 8000000
set_option maxRecDepth 100000
theorem reads_lit (w:World) (ks:List Int) (h:ks.length≤9223372036854775807):Kd.C (Kd.int .i64) (w.alloc (.cells (nums .i64 ks).toArray 3)) (some ⟨w.heap.size,0,none⟩) ks.length ks :=
 Kd.C_of_reads (readsInt_of.mp (own_reads' (own_lit w 0 3 .i64 ks (Nat.zero_le _) h)))
end Go.Proofs.YtmlcdpfcafmmcaaDoor.A
namespace Go.Proofs.YtmlcdpfcafmmcaaDoor.A
open Go.RowKit B WW WL WM
attribute [local go_sem] max2_int min2_int max_two min_two max_three min_three max_four min_four
theorem info9:(Tryd.prog.info? 9).map (fun i=>(i.zero,i.size,i.bytes))=some (some (.string ⟨#[]⟩),1,16):=by kernel_rfl
end Go.Proofs.YtmlcdpfcafmmcaaDoor.A
namespace Go.Proofs.YtmlcdpfcafmmcaaDoor.A
open Go.RowKit B WW WL WM
attribute [local go_sem] max2_int min2_int max_two min_two max_three min_three max_four min_four
set_option maxHeartbeats 8000000
set_option maxRecDepth 100000
theorem stmt_divide.calls (k:Nat) (a0:ByteArray) (r:List ByteArray) (w:World) (h:stmt_divide.f k a0=some r) :
    Calls Tryd.prog 44 #[.string a0] w fun e w'=>∃ v0_:Value,e=.returned (v0_)∧Kd.R Kd.string 9 w' w.heap.size (fun _=>True) v0_ r∧Below w.heap.size w w':=by
  unfold stmt_divide.f at h;split at h
  case isFalse=>cases h
  rename_i hs
  have H:=sd h;clear h;generalize hP:(fun (e:Ending) (w':World)=>∃ v0_:Value,e=.returned (v0_)∧Kd.R Kd.string 9 w' w.heap.size (fun _=>True) v0_ r∧Below w.heap.size w w')=Post;have HP:=sd hP;clear hP;go_enter Tryd.func44,Tryd.ntmps44
  go_wp2_with fail
  go_loopg [2,3] k (fun kq v2 v3 w'=>∃ (xs:List ByteArray) (a p:Nat),v3=.int .i64 (a:Int)∧a≤p∧p≤a0.size∧Aside0 (w'.heap[w.heap.size]?=some (.stringIter a0 p))∧Aside0 (stmt_divide.l0 kq a0 xs a p=some r)∧Aside0 (Kd.R Kd.string 9 w' w.heap.size (fun j=>j≠w.heap.size) v2 xs)∧Aside0 (Below w.heap.size w w'))
  case atStart=>exact ⟨[],0,0,rfl,by omega,by omega,⟨World.iter_heap _ _ _⟩,H,⟨Kd.R_nil _ _ _ _ _⟩,⟨(Below.refl _ _).alloc (Nat.le_refl _) _⟩⟩
  case round =>
    clear H;obtain ⟨xs,a,p,rfl,hap,hp,HI,HA,HO,HB⟩:=hrel;rename World=>wr
    have HL:=sd (Array.getElem?_eq_some_iff.1 HI.out).1
    cases gk with
    | zero=>exact absurd HA.out (by rw [stmt_divide.l0];intro h;cases h)
    | succ k1 =>
      by_cases hlt:p < a0.size
      · have hge:=get_bang a0 p hlt
        by_cases hasc:(a0[p].toNat:Int) < 128
        · have hnx:=fun ty=>Go.Lib.run_next_ascii_at (P:=Tryd.prog) wr w.heap.size a0 p ty HI.out hlt (by omega)
          have HI2:=sd (Go.Lib.iterAt_heap wr w.heap.size a0 p (p+1) HI.out);have HL2:=sd (show w.heap.size < (wr.iterAt w.heap.size a0 (p+1)).heap.size by rw [Go.Lib.iterAt_size];exact HL.out);have HO2:=sd (Kd.R_move (w1:=wr.iterAt w.heap.size a0 (p+1)) HO.out (fun j hj=>Go.Lib.iterAt_other wr w.heap.size j a0 (p+1) hj));have HB2:=sd (Go.Lib.below_iterAt HB.out (Nat.le_refl w.heap.size) a0 (p+1));have HF2:=sd (show ∀ j,(wr.iterAt w.heap.size a0 (p+1)).heap.size≤j→j≠w.heap.size from fun j hj=>by have:=HL2.out;omega);generalize wr.iterAt w.heap.size a0 (p+1)=W at *;have H:=HA.out;rw [stmt_divide.l0,if_pos hlt,hge] at H;clear hge HI HO HB HL HA;by_cases h10:a0[p].toNat=10
          · rw [if_pos h10] at H
            split at H
            case isFalse=>cases H
            rename_i hxs
            have H':=sd H;have hc:(a0[p].toNat:Int)=10:=by omega
            generalize (a0[p].toNat:Int)=c at *;subst hc;have LM:=sd hxs;clear H h10 hxs;have ha1:(a:Int)≤(p:Int):=by omega
            have hp1:(p:Int)≤(a0.size:Int):=by omega
            go_wp2_with (first | ((with_reducible refine gate_builtin (b:=.append) (xs:=#[.tmp 14,.tmp 19]) rfl ?_);at_builtin;refine Kd.R_append Kd.string (w0:=w) w.heap.size rfl (.tmp 14) (.tmp 19) 64 9 (.string ⟨#[]⟩) 16 rfl Tryd.underlying64 info9 rfl (by decide) (by omega) u2 xs (a0.extract a p) [.string (a0.extract a p)] (fun j=>j≠w.heap.size) (fun _=>False) rfl rfl ?aP (fun _ hk=>hk.elim) ?aF ?aO ?aB ?aS ?aL ?_;(case aP=>exact rfl);(case aB=>exact HB2.out);(case aF=>exact HF2.out);(case aO=>exact HO2.out);(case aS=>exact (below_size HB2.out));(case aL=>have:=LM.out;omega);intro v3_ w10 ho hb hg hat;have HO3:=sd ho;have HB3:=sd hb;have HI3:=sd ((hg.block w.heap.size HL2.out (fun e=>HO2.out.1 _ e.symm rfl)).trans HI2.out);clear HO2 HB2 HI2 HL2 HF2 ho hb hg hat))
            go_roundg k1
            case measure=>omega
            case rel=>exact ⟨xs++[a0.extract a p],p+1,p+1,by go_num,Nat.le_refl _,by omega,HI3,H',HO3,HB3⟩
          rw [if_neg h10] at H;have H':=sd H;have hc:¬ (a0[p].toNat:Int)=10:=by omega
          have hcb:((a0[p].toNat:Int) == 10)=false:=beq_eq_false_iff_ne.mpr hc;generalize (a0[p].toNat:Int)=c at *;clear H h10;go_wp2_with fail
          go_roundg k1
          case measure=>omega
          case rel=>exact ⟨xs,a,p+1,rfl,by omega,by omega,HI2,H',HO2,HB2⟩
        have hda:128≤(a0[p].toNat):=by omega
        obtain ⟨d1,d2⟩:=decode_dark a0 p hlt hda;have d3:=(decode_high a0 p hlt hda).1;have d4:=(decode_high a0 p hlt hda).2;have hnx:=fun ty=>Go.Lib.run_next_any_at (P:=Tryd.prog) wr w.heap.size a0 p ty HI.out hlt
        generalize (Utf8.decode a0 p).1=c at *;generalize (Utf8.decode a0 p).2=wd at *;obtain ⟨m,hm,H⟩:=stmt_divide.skip a0 r wd (k1+1) xs a p d1 d2 HA.out;have H':=sd H;have HI2:=sd (Go.Lib.iterAt_heap wr w.heap.size a0 p (p+wd) HI.out);have HO2:=sd (Kd.R_move (w1:=wr.iterAt w.heap.size a0 (p+wd)) HO.out (fun j hj=>Go.Lib.iterAt_other wr w.heap.size j a0 (p+wd) hj));have HB2:=sd (Go.Lib.below_iterAt HB.out (Nat.le_refl w.heap.size) a0 (p+wd));generalize wr.iterAt w.heap.size a0 (p+wd)=W at *;have hc:¬ (c:Int)=10:=by omega
        have hcb:((c:Int) == 10)=false:=beq_eq_false_iff_ne.mpr hc;have d3':¬ c=10:=by omega
        clear H d2 d3 hda hasc hge HI HO HB HA HL;go_wp2_with fail
        go_roundg m
        case measure=>omega
        case rel=>exact ⟨xs,a,p+wd,rfl,by omega,by omega,HI2,H',HO2,HB2⟩
      obtain rfl:p=a0.size:=by omega
      have hnx:=fun ty=>Go.Lib.run_next_end_at (P:=Tryd.prog) wr w.heap.size a0 a0.size ty HI.out hlt
      have H:=HA.out;rw [stmt_divide.l0,if_neg hlt] at H;have HO2:=HO;have HB2:=HB;have HL2:=HL;have HF2:=sd (show ∀ j,wr.heap.size≤j→j≠w.heap.size from fun j hj=>by have:=HL.out;omega);clear HO HB HL HA HI;by_cases ha:a < a0.size
      · rw [if_pos ha] at H
        split at H
        case isFalse=>cases H
        rename_i hxs
        have LM:=sd hxs;obtain rfl:=Option.some.inj H;have ha1:(a:Int) < (a0.size:Int):=by omega
        have ha2:(a:Int)≤(a0.size:Int):=by omega
        clear H hxs;go_wp2_with (first | ((with_reducible refine gate_builtin (b:=.append) (xs:=#[.tmp 27,.tmp 31]) rfl ?_);at_builtin;refine Kd.R_append Kd.string (w0:=w) w.heap.size rfl (.tmp 27) (.tmp 31) 64 9 (.string ⟨#[]⟩) 16 rfl Tryd.underlying64 info9 rfl (by decide) (by omega) u2 xs (a0.extract a a0.size) [.string (a0.extract a a0.size)] (fun j=>j≠w.heap.size) (fun _=>False) rfl rfl ?aP (fun _ hk=>hk.elim) ?aF ?aO ?aB ?aS ?aL ?_;(case aP=>exact rfl);(case aB=>exact HB2.out);(case aF=>exact HF2.out);(case aO=>exact HO2.out);(case aS=>exact (below_size HB2.out));(case aL=>have:=LM.out;omega);intro v3_ w10 ho hb hg hat;have HO3:=sd ho;have HB3:=sd hb;clear HO2 HB2 HL2 HF2 ho hb hg hat))
        rw [← HP.out];exact ⟨_,rfl,Kd.R_mono HO3.out (fun _ _=>trivial),HB3.out⟩
      rw [if_neg ha] at H;obtain rfl:=Option.some.inj H;have ha1:¬ (a:Int) < (a0.size:Int):=by omega
      clear H;go_wp2_with fail
      rw [← HP.out];exact ⟨_,rfl,Kd.R_mono HO2.out (fun _ _=>trivial),HB2.out⟩
end Go.Proofs.YtmlcdpfcafmmcaaDoor.A
