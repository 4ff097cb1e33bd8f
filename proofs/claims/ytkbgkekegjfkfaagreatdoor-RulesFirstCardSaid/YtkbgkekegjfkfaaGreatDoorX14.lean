-- By pack.py, a program of this session's.
import Derived.Test.YtkbgkekegjfkfaaGreatDoorX10
import Derived.Test.YtkbgkekegjfkfaaGreatDoorX11
import Derived.Test.YtkbgkekegjfkfaaGreatDoorX12
set_option linter.unusedVariables false
set_option linter.unusedSimpArgs false
namespace Go.Proofs.YtkbgkekegjfkfaaGreatDoor.A
open Go.RowKit B WW WL WM
attribute [local go_sem] max2_int min2_int max_two min_two max_three min_three max_four min_four
set_option maxHeartbeats 8000000
set_option maxRecDepth 100000
theorem days_Text.calls (k:Nat) (a0:Int) (r1:ByteArray) (r2:Int) (w:World) (h:days_Text.f k a0=some (r1,r2)) (hG:Gl w) :
  Calls Tryz.prog 73 #[.int .i64 a0] w fun e w'=>e=.returned (.tuple #[.string r1,.int .i64 r2])∧Below w.heap.size w w':=by
 have HG:=sd hG;clear hG;have hu112:=Tryz.underlying112;have HB:=sd (Below.refl w.heap.size w);have H:=h;clear h;unfold days_Text.f at H;replace H:=bdI H;obtain ⟨⟨t171,t172,t173,t174⟩,A2,H⟩:=H;(try dsimp only at H)
 replace H:=ifI H;rcases H with ⟨c3,H⟩ | ⟨c3,H⟩
 ·obtain ⟨c3b0,c3b1⟩:=eqI c3;clear c3;replace H:=bdI H;obtain ⟨t176,A4,H⟩:=H;(try dsimp only at H)
  replace H:=ifI H;rcases H with ⟨c5,H⟩ | ⟨c5,H⟩
  ·have c5b0:=eq_true c5;have c5b1:decide (t176.size+1≤9223372036854775807)=true:=decide_eq_true c5;try have c5b2:(9223372036854775807 < t176.size+1)=False:=eq_false (Nat.not_lt.2 c5)
   replace H:=bdI H;obtain ⟨t177,A6,H⟩:=H;(try dsimp only at H)
   replace H:=ifI H;rcases H with ⟨c7,H⟩ | ⟨c7,H⟩
   ·have c7b0:=eq_true c7;have c7b1:decide ((t176++(⟨#[45]⟩:ByteArray)).size+t177.size≤9223372036854775807)=true:=decide_eq_true c7;try have c7b2:(9223372036854775807 < (t176++(⟨#[45]⟩:ByteArray)).size+t177.size)=False:=eq_false (Nat.not_lt.2 c7)
    try have c7y:(9223372036854775807 < t176.size+1+t177.size)=False:=by have h_:=c7b2;simp only [ByteArray.size_append] at h_;exact h_
    replace H:=ifI H;rcases H with ⟨c8,H⟩ | ⟨c8,H⟩
    ·have c8b0:=eq_true c8;have c8b1:decide (((t176++(⟨#[45]⟩:ByteArray))++t177).size+1≤9223372036854775807)=true:=decide_eq_true c8;try have c8b2:(9223372036854775807 < ((t176++(⟨#[45]⟩:ByteArray))++t177).size+1)=False:=eq_false (Nat.not_lt.2 c8)
     try have c8y:(9223372036854775807 < t176.size+1+t177.size+1)=False:=by have h_:=c8b2;simp only [ByteArray.size_append] at h_;exact h_
     replace H:=bdI H;obtain ⟨t178,A9,H⟩:=H;(try dsimp only at H)
     replace H:=ifI H;rcases H with ⟨c10,H⟩ | ⟨c10,H⟩
     ·have c10b0:=eq_true c10;have c10b1:decide ((((t176++(⟨#[45]⟩:ByteArray))++t177)++(⟨#[45]⟩:ByteArray)).size+t178.size≤9223372036854775807)=true:=decide_eq_true c10;try have c10b2:(9223372036854775807 < (((t176++(⟨#[45]⟩:ByteArray))++t177)++(⟨#[45]⟩:ByteArray)).size+t178.size)=False:=eq_false (Nat.not_lt.2 c10)
      try have c10y:(9223372036854775807 < t176.size+1+t177.size+1+t178.size)=False:=by have h_:=c10b2;simp only [ByteArray.size_append] at h_;exact h_
      simp only [Option.some.injEq,Prod.mk.injEq] at H
      obtain ⟨rfl,rfl⟩:=H;go_enter Tryz.func73,Tryz.ntmps73
      try go_wp2_with (first | ((with_reducible refine gate_callee (f:=101) rfl ?_);refine gL 7 Tryz.func101 #[.int .i64 a0] ?_;(with_reducible refine (days_Date.calls k a0 t171 t172 t173 t174 _ A2.out (gl_below HG.out zq22)).mono ?_);rintro e w11 ⟨rfl,hb⟩;refine ⟨_,rfl,?_⟩;replace HB:=hbm HB hb;clear hb) | ((with_reducible refine gate_dst (N:=4) rfl ?_);refine bxA 4 #[.int .i64 0,.int .i64 0,.int .i64 0] 112 ?_;intro gb175 hg w12 hbox hb;have BK175:=sd (hbox);have GW175:=gem hg HB;have GE175:=GW175;replace HB:=hbm HB hb;clear hb hbox hg;obtain ⟨_,_,_,_,_,_⟩:=bk3 BK175))
      have n0_:Aside0 ((((w12.setCell ⟨gb175,0,none⟩ (.int .i64 t171)).setCell ⟨gb175,1,none⟩ (.int .i64 t172)).setCell ⟨gb175,2,none⟩ (.int .i64 t173)).heap[gb175]?=some (.cells #[.int .i64 t171,.int .i64 t172,.int .i64 t173] 112 (0,0))):=⟨by (with_reducible repeat (first | refine blk_drewN ?_ _ | refine blk_drew ?_ | refine blk_alloc ?_ _));refine blk_put (cs:=#[.int .i64 t171,.int .i64 t172,.int .i64 0]) ?_ 2 _ rfl;(with_reducible repeat (first | refine blk_drewN ?_ _ | refine blk_drew ?_ | refine blk_alloc ?_ _));refine blk_put (cs:=#[.int .i64 t171,.int .i64 0,.int .i64 0]) ?_ 1 _ rfl;(with_reducible repeat (first | refine blk_drewN ?_ _ | refine blk_drew ?_ | refine blk_alloc ?_ _));refine blk_put (cs:=#[.int .i64 0,.int .i64 0,.int .i64 0]) ?_ 0 _ rfl;(with_reducible repeat (first | refine blk_drewN ?_ _ | refine blk_drew ?_ | refine blk_alloc ?_ _));exact BK175.out⟩
      have n1_:Aside0 (Below w.heap.size w (((w12.setCell ⟨gb175,0,none⟩ (.int .i64 t171)).setCell ⟨gb175,1,none⟩ (.int .i64 t172)).setCell ⟨gb175,2,none⟩ (.int .i64 t173))):=⟨zq128⟩
      (try clear BK175)
      (try clear HB)
      generalize (((w12.setCell ⟨gb175,0,none⟩ (.int .i64 t171)).setCell ⟨gb175,1,none⟩ (.int .i64 t172)).setCell ⟨gb175,2,none⟩ (.int .i64 t173))=w14 at n0_ n1_ ⊢;have BK175:=n0_;have HB:=n1_;clear n0_ n1_;replace BK175:=sd (blk_drew BK175.out);replace HB:=sd (below_drew1 HB.out);refine start_ (n:=15) (S:=fun w'=>w'.cell? ⟨gb175,0,none⟩=some (.int .i64 t171)∧w'.cell? ⟨gb175,1,none⟩=some (.int .i64 t172)∧w'.cell? ⟨gb175,2,none⟩=some (.int .i64 t173)) (ds:=[]) #[false,false,false,false,false,false,false,false,false,false,false,false,false,false,false] (by kernel_rfl) rfl rfl ⟨(blk_cell BK175.out 0).trans rfl,(blk_cell BK175.out 1).trans rfl,(blk_cell BK175.out 2).trans rfl⟩ (fun hHeld=>?_);refine with_tabW days_Text.tab4 days_Text.bits4 (fun HT_ HW_=>?_);generalize w14.drew=w15 at BK175 HB hHeld ⊢;refine pA 0 13 HT_.out ?_;refine pA 4 17 HT_.out ?_;refine pA 9 22 HT_.out ?_;refine tA 1 14 HT_.out HW_.out hHeld ?_;refine tA 5 18 HT_.out HW_.out hHeld ?_;refine tA 10 23 HT_.out HW_.out hHeld ?_;refine one_ (i:=2) (N:=some 15) #[true,true,true,false,true,true,false,false,false,true,true,false,false,false,false] rfl rfl (one_of HT_.out (by kernel_rfl)) (by decide) (fun K hK=>?_);refine goes_ Tryz.func72 (by kernel_rfl) rfl #[.int .i64 t171] (by rfl) rfl rfl zq34 ?_;with_reducible refine (num_Text.calls t171 t176 _ A4.out).mono ?_
      rintro e w16 ⟨rfl,hb⟩;refine ⟨_,rfl,?_⟩;replace BK175:=bkm BK175 hb;replace HB:=hbm HB hb;clear hb;refine hK.out _ _ ⟨(blk_cell BK175.out 0).trans rfl,(blk_cell BK175.out 1).trans rfl,(blk_cell BK175.out 2).trans rfl⟩ (fun hHeld=>?_);clear hK K;refine nA 15 ?_;refine pA 3 16 HT_.out ?_;refine one_ (i:=6) (N:=some 19) #[true,true,true,true,true,true,true,false,false,true,true,false,false,false,false] rfl rfl (one_of HT_.out (by kernel_rfl)) (by decide) (fun K hK=>?_);refine goes_ Tryz.func102 (by kernel_rfl) rfl #[.int .i64 t172] (by rfl) rfl rfl zq34 ?_;with_reducible refine (days_padded.calls t172 t177 _ A6.out).mono ?_
      rintro e w17 ⟨rfl,hb⟩;refine ⟨_,rfl,?_⟩;replace BK175:=bkm BK175 hb;replace HB:=hbm HB hb;clear hb;refine hK.out _ _ ⟨(blk_cell BK175.out 0).trans rfl,(blk_cell BK175.out 1).trans rfl,(blk_cell BK175.out 2).trans rfl⟩ (fun hHeld=>?_);clear hK K;refine nA 19 ?_;refine pA 7 20 HT_.out ?_;refine pA 8 21 HT_.out ?_;refine one_ (i:=11) (N:=some 24) #[true,true,true,true,true,true,true,true,true,true,true,true,false,false,false] rfl rfl (one_of HT_.out (by kernel_rfl)) (by decide) (fun K hK=>?_);refine goes_ Tryz.func102 (by kernel_rfl) rfl #[.int .i64 t173] (by rfl) rfl rfl zq34 ?_;with_reducible refine (days_padded.calls t173 t178 _ A9.out).mono ?_
      rintro e w18 ⟨rfl,hb⟩;refine ⟨_,rfl,?_⟩;replace BK175:=bkm BK175 hb;replace HB:=hbm HB hb;clear hb;refine hK.out _ _ ⟨(blk_cell BK175.out 0).trans rfl,(blk_cell BK175.out 1).trans rfl,(blk_cell BK175.out 2).trans rfl⟩ (fun hHeld=>?_);clear hK K;refine nA 24 ?_;refine pA 12 25 HT_.out ?_;refine pA 13 2 HT_.out ?_;refine pA 14 3 HT_.out ?_;refine done_ (done_of HT_.out (by kernel_rfl)) ?_;try go_wp2
      go_ret2
      exact ⟨zq4,zq128⟩
     exact absurd H (by simp)
    exact absurd H (by simp)
   exact absurd H (by simp)
  exact absurd H (by simp)
 obtain ⟨c3b0,c3b1⟩:=neI c3;simp only [Option.some.injEq,Prod.mk.injEq] at H
 obtain ⟨rfl,rfl⟩:=H;go_enter Tryz.func73,Tryz.ntmps73
 go_wp2_with (first | ((with_reducible refine gate_callee (f:=101) rfl ?_);refine gL 7 Tryz.func101 #[.int .i64 a0] ?_;(with_reducible refine (days_Date.calls k a0 t171 t172 t173 t174 _ A2.out (gl_below HG.out zq22)).mono ?_);rintro e w19 ⟨rfl,hb⟩;refine ⟨_,rfl,?_⟩;replace HB:=hbm HB hb;clear hb) | ((with_reducible refine gate_dst (N:=4) rfl ?_);refine bxA 4 #[.int .i64 0,.int .i64 0,.int .i64 0] 112 ?_;intro gb175 hg w20 hbox hb;have BK175:=sd (hbox);have GW175:=gem hg HB;have GE175:=GW175;replace HB:=hbm HB hb;clear hb hbox hg;obtain ⟨_,_,_,_,_,_⟩:=bk3 BK175))
 go_ret2
 exact ⟨zq4,zq128⟩
theorem fields_calls (s:ByteArray) (L:List ByteArray) (hL:(Lib.fields s.data.toList).map (fun l=>(⟨l.toArray⟩:ByteArray))=L) (hs:s.size < 4294967281) (ha:∀ (j:Nat) b,s.data.toList[j]?=some b→b.toNat < 128) (w:World) (hG:Gl w) :
  Calls Tryz.prog 71 #[.string s] w fun e w'=>e=.returned (.slice (some ⟨w.heap.size,0,none⟩) L.length L.length)∧w'=w.alloc (.cells (L.map Value.string).toArray 9):=by
 have:=Go.Proofs.Any.strings_Fields_core Go.Proofs.Tryz.lays157 (by kernel_rfl) s w hs ha hG.2.1.2;refine this.mono ?_;rintro e w' ⟨rfl,rfl⟩;refine ⟨by rw [← hL,List.length_map],by rw [← hL,List.map_map];rfl⟩
theorem named_calls (s:ByteArray) (L:List ByteArray) (hL:(Lib.fields s.data.toList).map (fun l=>(⟨l.toArray⟩:ByteArray))=L) (hs:s.size < 4294967281) (ha:∀ (j:Nat) b,s.data.toList[j]?=some b→b.toNat < 128) (m:Nat) (x:ByteArray) (hx:L[m]?=some x) (w:World) (hG:Gl w) (hm:m≤1000) :
  Calls Tryz.prog 30 #[.string s,.int .i64 ((m:Int)+1)] w fun e w'=>e=.returned (.string x)∧Below w.heap.size w w':=by
 have HF:=sd (fields_calls s L hL hs ha w hG)
 have hlt:m < L.length:=by
  rcases Nat.lt_or_ge m L.length with h | h
  ·exact h
  ·rw [List.getElem?_eq_none h] at hx;cases hx
 have hlt':(m:Int) < (L.length:Int):=by omega
 have h0:(0:Int)≤(m:Int):=by omega
 have hw:wrap64 ((m:Int)+1 - 1)=(m:Int):=by unfold wrap64;omega
 have HX:=sd hx;clear hx hL hs ha hG;go_enter Tryz.func30,Tryz.ntmps30
 go_wp2_with fail
 refine HF.out.mono ?_;rintro e w1 ⟨rfl,rfl⟩;have HB:=sd (below_alloc (Below.refl w.heap.size w) (Obj.cells (L.map Value.string).toArray 9));have b0:(w.alloc (Obj.cells (L.map Value.string).toArray 9)).heap[w.heap.size]?=some (.cells (L.map Value.string).toArray 9 (0,0)):=blk_new _ _;generalize w.alloc (Obj.cells (L.map Value.string).toArray 9)=w1 at *;obtain ⟨g,hg⟩:∃ g,g=w.heap.size:=⟨_,rfl⟩
 rw [← hg] at b0 ⊢
 have c0:w1.cell? ⟨g,m,none⟩=some (.string x):=by
  refine (blk_cell b0 m).trans ?_;simp [HX.out]
 clear b0 hg;go_wp2_with fail
 go_ret
 exact ⟨rfl,HB.out⟩
theorem number_calls (s:ByteArray) (L:List ByteArray) (hL:(Lib.fields s.data.toList).map (fun l=>(⟨l.toArray⟩:ByteArray))=L) (hs:s.size < 4294967281) (ha:∀ (j:Nat) b,s.data.toList[j]?=some b→b.toNat < 128) (hl:L.length≤1000) (x:ByteArray) (w:World) (hG:Gl w) :
  Calls Tryz.prog 113 #[.string s,.string x] w fun e w'=>e=.returned (.int .i64 (numS L x 0))∧Below w.heap.size w w':=by
 have HF:=sd (fields_calls s L hL hs ha w hG);clear hL hs ha hG;generalize hQ:(fun (e:Ending) (w':World)=>e=.returned (.int .i64 (numS L x 0))∧Below w.heap.size w w')=Post;have HQ:=sd hQ;clear hQ;go_enter Tryz.func113,Tryz.ntmps113
 go_wp2_with fail
 refine HF.out.mono ?_;rintro e w1 ⟨rfl,rfl⟩;clear HF;have HB:=sd (below_alloc (Below.refl w.heap.size w) (Obj.cells (L.map Value.string).toArray 9));have b0:(w.alloc (Obj.cells (L.map Value.string).toArray 9)).heap[w.heap.size]?=some (.cells (L.map Value.string).toArray 9 (0,0)):=blk_new _ _;generalize w.alloc (Obj.cells (L.map Value.string).toArray 9)=w1 at *;obtain ⟨g,hg⟩:∃ g,g=w.heap.size:=⟨_,rfl⟩
 rw [← hg] at b0 ⊢;have B0:=sd b0;clear b0 hg;go_wp2_with fail
 go_loopw [10] (fun n_ wr=>∃ (i:Nat),i≤L.length∧n_=.int .i64 (i:Int)∧Aside0 (numS L x 0=numS (L.drop i) x i)∧Aside0 (Below w.heap.size w wr)∧Aside0 (wr.heap[g]?=some (.cells (L.map Value.string).toArray 9 (0,0)))) (fun n_ _=>(L.length - (RowKit.intOf n_).toNat))
 case atStart=>exact ⟨0,Nat.zero_le _,rfl,⟨rfl⟩,HB,B0⟩
 case round =>
  clear HB B0;obtain ⟨i,hi,rfl,HU,HB,B0⟩:=hrel;rename World=>wr
  by_cases hlt:i < L.length
  case neg =>
   obtain rfl:i=L.length:=by omega
   have hlt':¬ (L.length:Int) < (L.length:Int):=by omega
   have hr:numS L x 0=0:=by rw [HU.out,List.drop_length];rfl
   go_wp2_with fail
   rw [← HQ.out,hr];exact ⟨by (try rfl),HB.out⟩
  have hlt':(i:Int) < (L.length:Int):=by omega
  have h0:(0:Int)≤(i:Int):=by omega
  have hw:wrap64 ((i:Int)+1)=(i:Int)+1:=by unfold wrap64;omega
  obtain ⟨y,hy⟩:∃ y,y=L[i]:=⟨_,rfl⟩
  have HD:=sd (show L.drop i=y :: L.drop (i+1) by rw [List.drop_eq_getElem_cons hlt,hy])
  have c0:wr.cell? ⟨g,i,none⟩=some (.string y):=by
   refine (blk_cell B0.out i).trans ?_;simp [hy,hlt]
  clear hy;by_cases e:y.toList=x.toList
  ·have q:(y.toList == x.toList)=true:=by rw [beq_iff_eq];exact e
   have hr:numS L x 0=(i:Int)+1:=by rw [HU.out,HD.out,numS,if_pos e]
   go_wp2_with fail
   rw [← HQ.out,hr];exact ⟨by (try rfl),HB.out⟩
  have q:(y.toList == x.toList)=false:=by rw [beq_eq_false_iff_ne];exact e
  have HU2:=sd (show numS L x 0=numS (L.drop (i+1)) x (i+1) by rw [HU.out,HD.out,numS,if_neg e]);clear HU;go_wp2_with fail
  go_roundw
  case rel=>exact ⟨i+1,by omega,by congr 1,HU2,HB,B0⟩
  case measure=>simp [RowKit.intOf];omega
theorem field_calls (x:ByteArray) (w:World) (hG:Gl w):Calls Tryz.prog 113 #[.string fieldB,.string x] w fun e w'=>e=.returned (.int .i64 (numS fieldL x 0))∧Below w.heap.size w w':=number_calls fieldB fieldL fieldB_L (by decide) (ascii_of fieldB_a) (by decide) x w hG
theorem op_calls (x:ByteArray) (w:World) (hG:Gl w):Calls Tryz.prog 113 #[.string opB,.string x] w fun e w'=>e=.returned (.int .i64 (numS opL x 0))∧Below w.heap.size w w':=number_calls opB opL opB_L (by decide) (ascii_of opB_a) (by decide) x w hG
theorem nmd_calls (L:List ByteArray) (s:ByteArray) (hL:(Lib.fields s.data.toList).map (fun l=>(⟨l.toArray⟩:ByteArray))=L) (hs:s.size < 4294967281) (ha:∀ b∈s.data.toList,b.toNat < 128) (n:Int) (x:ByteArray) (hx:nmd L n=some x) (w:World) (hG:Gl w) :
  Calls Tryz.prog 30 #[.string s,.int .i64 n] w fun e w'=>e=.returned (.string x)∧Below w.heap.size w w':=by
 unfold nmd at hx;split at hx
 case isFalse=>cases hx
 rename_i hn
 have e:n=((n.toNat - 1:Nat):Int)+1:=by omega
 rw [e];exact named_calls s L hL hs (ascii_of ha) (n.toNat - 1) x hx w hG (by omega)
theorem words_Cut.calls (k:Nat) (a0:ByteArray) (r1:List (S73)) (r2 r3:Int) (w:World) (h:words_Cut.f k a0=some (r1,r2,r3)) :
  Calls Tryz.prog 39 #[.string a0] w fun e w'=>∃ v0_:Value,e=.returned (.tuple #[v0_,.int .i64 r2,.int .i64 r3])∧Kd.R k73 73 w' w.heap.size (fun _=>True) v0_ r1∧Below w.heap.size w w':=by
 have hu73:=Tryz.underlying73;have hu116:=Tryz.underlying116;have HB:=sd (Below.refl w.heap.size w);have H:=h;clear h;unfold words_Cut.f at H;replace H:=ifI H;rcases H with ⟨c2,H⟩ | ⟨c2,H⟩
 ·have c2b0:decide (400 < (a0.size:Int))=true:=decide_eq_true c2;have c2b1:decide (400 < a0.size)=true:=decide_eq_true (by omega);clear c2;simp only [Option.some.injEq,Prod.mk.injEq] at H
  obtain ⟨rfl,rfl,rfl⟩:=H;go_enter Tryz.func39,Tryz.ntmps39
  go_wp2
  repeat (go_quiet (fail);try go_wp2)
  go_ret3
  exact ⟨_,zq4,zq5,zq6⟩
 have c2b0:decide (400 < (a0.size:Int))=false:=decide_eq_false c2;have c2b1:decide (400 < a0.size)=false:=decide_eq_false (by omega);clear c2;have H':=sd H;clear H;go_enter Tryz.func39,Tryz.ntmps39
 go_wp2
 repeat (go_quiet (fail);try go_wp2)
 go_loopg [2,3] k (fun kq v2 v3 w'=>∃ (x2_1:List (S73)) (x3_1:Int),v3=.int .i64 x3_1∧Aside0 (words_Cut.l0 kq a0 x2_1 x3_1=some (r1,r2,r3))∧Aside0 (kq≤k)∧Aside0 (Kd.R k73 73 w' w.heap.size (fun _=>True) v2 x2_1)∧Aside0 (Below w.heap.size w w'))
 case atStart=>exact ⟨(([]:List (S73))),(0),zq7,H',⟨Nat.le_refl _⟩,⟨zq5⟩,⟨zq6⟩⟩
 case round =>
  clear H';try clear c2
  try clear c2b0
  try clear c2b1
  try clear p2
  obtain ⟨x2_1,x3_1,rfl,HA,HK1,HO_2,HB⟩:=hrel
  cases gk with
  | zero=>exact absurd HA.out (by simp [words_Cut.l0])
  | succ k1 =>
   have H:=HA.out;clear HA;simp only [words_Cut.l0] at H
   have HC3:=sd H;clear H;go_upto_region 3 with (fail)
   repeat (go_quiet (fail);go_upto_region 3 with (fail))
   go_cut [20] (fun v20 wc=>∃ (kq:Nat) (x20_2:Bool),v20=.bool x20_2∧Aside0 (words_Cut.j1 kq a0 x2_1 x3_1 x20_2=some (r1,r2,r3))∧Aside0 (kq≤k1)∧Aside0 (Kd.R k73 73 wc w.heap.size (fun _=>True) u2 x2_1)∧Aside0 (Below w.heap.size w wc))
   case first =>
    have H:=HC3.out;clear HC3;replace H:=ifI H;rcases H with ⟨c4,H⟩ | ⟨c4,H⟩
    ·have c4b0:decide (x3_1 < (a0.size:Int))=true:=decide_eq_true c4;clear c4;(first | rw [c4b0] | (simp only [i64_w,i32_w];rw [c4b0]) | skip)
     replace H:=ifI H;rcases H with ⟨c5,H⟩ | ⟨c5,H⟩
     ·have c5b0:decide (0≤x3_1)=true:=decide_eq_true c5;clear c5;have H':=sd H;clear H;have p6:0≤(x3_1:Int):=od;have q6:x3_1 < (a0.size:Int):=od;have hx6:=bt_at a0 x3_1;replace p6:=eq_true p6;replace q6:=eq_true q6;go_wp2
      repeat (go_quiet (fail);try go_wp2)
      go_meet
      case rel=>exact ⟨_,(((bt a0 x3_1) != 35)),zq7,H',⟨zq8⟩,⟨zq9⟩,⟨zq6⟩⟩
     exact absurd H (by simp)
    have c4b0:decide (x3_1 < (a0.size:Int))=false:=decide_eq_false c4;clear c4;(first | rw [c4b0] | (simp only [i64_w,i32_w];rw [c4b0]) | skip)
    have H':=sd H;clear H;go_wp2
    repeat (go_quiet (fail);try go_wp2)
    go_meet
    case rel=>exact ⟨_,(false),zq7,H',⟨zq8⟩,⟨zq9⟩,⟨zq6⟩⟩
   case rest =>
    clear HC3;try clear c2
    try clear c2b0
    try clear c2b1
    try clear p2
    try clear c3
    try clear c4
    try clear c4b0
    try clear c5
    try clear c5b0
    try clear p6
    try clear q6
    try clear hx6
    try clear p2
    try clear p6
    try clear q6
    obtain ⟨kq,x20_2,rfl,HA,HJ2,HO_2,HB⟩:=hcut
    cases kq with
    | zero=>exact absurd HA.out (by simp [words_Cut.j1])
    | succ kj2 =>
     have H:=HA.out;clear HA;simp only [words_Cut.j1] at H
     by_cases c7:x20_2=true
     ·subst c7;rw [if_pos rfl] at H;replace H:=ifI H;rcases H with ⟨c8,H⟩ | ⟨c8,H⟩
      ·have c8b0:decide (0≤x3_1)=true:=decide_eq_true c8;clear c8;replace H:=ifI H;rcases H with ⟨c9,H⟩ | ⟨c9,H⟩
       ·have c9b0:decide (x3_1 < (a0.size:Int))=true:=decide_eq_true c9;clear c9;replace H:=ifI H;rcases H with ⟨c11,H⟩ | ⟨c11,H⟩
        ·obtain ⟨c11b0,c11b1⟩:=eqI c11;clear c11;have H':=sd H;clear H;have p10:0≤(x3_1:Int):=od;have q10:x3_1 < (a0.size:Int):=od;have hx10:=bt_at a0 x3_1;replace p10:=eq_true p10;replace q10:=eq_true q10;go_wp2
         repeat (go_quiet (fail);try go_wp2)
         go_roundg kj2
         case measure=>have:=HK1.out;have:=HJ2.out;omega
         case rel=>exact ⟨(x2_1),(wrap64 (x3_1+1)),zq7,H',⟨zq10⟩,⟨zq9⟩,⟨zq6⟩⟩
        obtain ⟨c11b0,c11b1⟩:=neI c11;replace H:=bdI H;obtain ⟨⟨t222,t223,t224,t225,t226,t227⟩,A12,H⟩:=H;(try dsimp only at H)
        replace H:=ifI H;rcases H with ⟨c13,H⟩ | ⟨c13,H⟩
        ·obtain ⟨c13b0,c13b1⟩:=eqI c13;clear c13;replace H:=ifI H;rcases H with ⟨c14,H⟩ | ⟨c14,H⟩
         ·have LMc14:=sd c14;clear c14;obtain ⟨y230,hy230⟩:∃ y_:List (S73),y_=(x2_1++[(⟨t222,t223,t224⟩:S73)]):=⟨_,rfl⟩
          replace H:(words_Cut.l0 kj2 a0 y230 t225)=some (r1,r2,r3):=by first | (rw [hy230];with_reducible exact H) | (have H2_:=(Option.bind_some _ _).symm.trans H;rw [hy230];with_reducible exact H2_) | (have H2_:=(Option.bind_some _ _).symm.trans H;with_reducible exact H2_) | with_reducible exact H | (rw [hy230];exact H) | exact H
          have Ny230:=sd hy230;clear hy230;have H':=sd H;clear H;have p10:0≤(x3_1:Int):=od;have q10:x3_1 < (a0.size:Int):=od;have hx10:=bt_at a0 x3_1;replace p10:=eq_true p10;replace q10:=eq_true q10;go_wp2_with (first | (go_at_call 80;(with_reducible refine (words_word.calls kj2 a0 x3_1 t222 t223 t224 t225 t226 t227 _ A12.out).mono ?_);rintro e w15 ⟨rfl,hb⟩;replace HO_2:=rbm HO_2 hb;replace HB:=hbm HB hb;clear hb) | ((with_reducible refine gate_dst (N:=5) rfl ?_);refine bxA 5 #[.int .i64 0,.string (⟨#[]⟩:ByteArray),.int .i64 0] 73 ?_;intro gb228 hg w16 hbox hb;have BK228:=sd (hbox);have GW228:=gem hg HB;have GE228:=GW228;replace HO_2:=sd (Kd.R_below (Kd.R_elderB zq9 gb228 (Nat.le_of_eq hg.symm)) hb);replace HB:=hbm HB hb;clear hb hbox hg) | ((with_reducible refine gate_dst (N:=7) rfl ?_);refine bxA 7 #[.int .i64 0,.int .i64 0] 116 ?_;intro gb229 hg w17 hbox hb;have BK229:=sd (hbox);have GW229:=gem hg HB;have GE229:=GW229;have NB228_229:=nlm hg BK228;have NB229_228:=ngm hg BK228;replace HO_2:=rbm HO_2 hb;replace BK228:=bkm BK228 hb;replace HB:=hbm HB hb;clear hb hbox hg;have hnb18:=NB228_229.out;have hnc18:=NB229_228.out;obtain ⟨_,_,_,_,_,_⟩:=bk3 BK228;obtain ⟨_,_,_,_⟩:=bk2 BK229) | ((with_reducible refine gate_builtin (b:=.append) (xs:=#[.tmp 41,.tmp 43]) rfl ?_);at_builtin;refine Kd.R_append k73 (w0:=w) w.heap.size rfl (.tmp 41) (.tmp 43) 66 73 (.agg #[(.int .i64 0),(.string ⟨#[]⟩),(.int .i64 0)]) 32 rfl Tryz.underlying66 info73 rfl (by decide) (by omega) u2 x2_1 (⟨t222,t223,t224⟩:S73) [.int .i64 t222,.string t223,.int .i64 t224] (fun k_=>k_≠gb228) (fun _=>False) rfl zq11 ?aP (fun _ hk=>hk.elim) ?aF ?aO ?aB ?aS ?aL ?_;(case aP=>exact k73_mkM _ _ _ (⟨t222,t223,t224⟩:S73));(case aB=>exact zq12);(case aF=>exact (fun k_ hk=>Kd.freshB (g:=gb228) (o:=.cells #[.int .i64 t222,.string t223,.int .i64 t224] 73 (0,0)) zq13 k_ hk));(case aO=>exact zq14);(case aS=>exact (below_size zq12));(case aL=>have:=LMc14.out;omega);intro v231 w21 ho hb hg hat;rw [← Ny230.out] at ho;have HO232:=sd (ho);replace BK228:=sd (blk_grown (g:=gb228) (o:=.cells #[.int .i64 t222,.string t223,.int .i64 t224] 73 (0,0)) zq13 hg (Kd.R_away HO_2.out (fun _ hk=>hk.2)));replace BK229:=sd (blk_grown (g:=gb229) (o:=.cells #[.int .i64 t226,.int .i64 t227] 116 (0,0)) zq15 hg (Kd.R_ne HO_2.out BK229.out (by decide)));replace HB:=sd (hb);clear HO_2;clear ho hb hg hat))
          repeat (go_quiet (first | (go_at_call 80;(with_reducible refine (words_word.calls kj2 a0 x3_1 t222 t223 t224 t225 t226 t227 _ A12.out).mono ?_);rintro e w15 ⟨rfl,hb⟩;replace HO_2:=rbm HO_2 hb;replace HB:=hbm HB hb;clear hb) | ((with_reducible refine gate_dst (N:=5) rfl ?_);refine bxA 5 #[.int .i64 0,.string (⟨#[]⟩:ByteArray),.int .i64 0] 73 ?_;intro gb228 hg w16 hbox hb;have BK228:=sd (hbox);have GW228:=gem hg HB;have GE228:=GW228;replace HO_2:=sd (Kd.R_below (Kd.R_elderB zq9 gb228 (Nat.le_of_eq hg.symm)) hb);replace HB:=hbm HB hb;clear hb hbox hg) | ((with_reducible refine gate_dst (N:=7) rfl ?_);refine bxA 7 #[.int .i64 0,.int .i64 0] 116 ?_;intro gb229 hg w17 hbox hb;have BK229:=sd (hbox);have GW229:=gem hg HB;have GE229:=GW229;have NB228_229:=nlm hg BK228;have NB229_228:=ngm hg BK228;replace HO_2:=rbm HO_2 hb;replace BK228:=bkm BK228 hb;replace HB:=hbm HB hb;clear hb hbox hg;have hnb18:=NB228_229.out;have hnc18:=NB229_228.out;obtain ⟨_,_,_,_,_,_⟩:=bk3 BK228;obtain ⟨_,_,_,_⟩:=bk2 BK229) | ((with_reducible refine gate_builtin (b:=.append) (xs:=#[.tmp 41,.tmp 43]) rfl ?_);at_builtin;refine Kd.R_append k73 (w0:=w) w.heap.size rfl (.tmp 41) (.tmp 43) 66 73 (.agg #[(.int .i64 0),(.string ⟨#[]⟩),(.int .i64 0)]) 32 rfl Tryz.underlying66 info73 rfl (by decide) (by omega) u2 x2_1 (⟨t222,t223,t224⟩:S73) [.int .i64 t222,.string t223,.int .i64 t224] (fun k_=>k_≠gb228) (fun _=>False) rfl zq11 ?aP (fun _ hk=>hk.elim) ?aF ?aO ?aB ?aS ?aL ?_;(case aP=>exact k73_mkM _ _ _ (⟨t222,t223,t224⟩:S73));(case aB=>exact zq12);(case aF=>exact (fun k_ hk=>Kd.freshB (g:=gb228) (o:=.cells #[.int .i64 t222,.string t223,.int .i64 t224] 73 (0,0)) zq13 k_ hk));(case aO=>exact zq14);(case aS=>exact (below_size zq12));(case aL=>have:=LMc14.out;omega);intro v231 w21 ho hb hg hat;rw [← Ny230.out] at ho;have HO232:=sd (ho);replace BK228:=sd (blk_grown (g:=gb228) (o:=.cells #[.int .i64 t222,.string t223,.int .i64 t224] 73 (0,0)) zq13 hg (Kd.R_away HO_2.out (fun _ hk=>hk.2)));replace BK229:=sd (blk_grown (g:=gb229) (o:=.cells #[.int .i64 t226,.int .i64 t227] 116 (0,0)) zq15 hg (Kd.R_ne HO_2.out BK229.out (by decide)));replace HB:=sd (hb);clear HO_2;clear ho hb hg hat));try go_wp2_with (first | (go_at_call 80;(with_reducible refine (words_word.calls kj2 a0 x3_1 t222 t223 t224 t225 t226 t227 _ A12.out).mono ?_);rintro e w15 ⟨rfl,hb⟩;replace HO_2:=rbm HO_2 hb;replace HB:=hbm HB hb;clear hb) | ((with_reducible refine gate_dst (N:=5) rfl ?_);refine bxA 5 #[.int .i64 0,.string (⟨#[]⟩:ByteArray),.int .i64 0] 73 ?_;intro gb228 hg w16 hbox hb;have BK228:=sd (hbox);have GW228:=gem hg HB;have GE228:=GW228;replace HO_2:=sd (Kd.R_below (Kd.R_elderB zq9 gb228 (Nat.le_of_eq hg.symm)) hb);replace HB:=hbm HB hb;clear hb hbox hg) | ((with_reducible refine gate_dst (N:=7) rfl ?_);refine bxA 7 #[.int .i64 0,.int .i64 0] 116 ?_;intro gb229 hg w17 hbox hb;have BK229:=sd (hbox);have GW229:=gem hg HB;have GE229:=GW229;have NB228_229:=nlm hg BK228;have NB229_228:=ngm hg BK228;replace HO_2:=rbm HO_2 hb;replace BK228:=bkm BK228 hb;replace HB:=hbm HB hb;clear hb hbox hg;have hnb18:=NB228_229.out;have hnc18:=NB229_228.out;obtain ⟨_,_,_,_,_,_⟩:=bk3 BK228;obtain ⟨_,_,_,_⟩:=bk2 BK229) | ((with_reducible refine gate_builtin (b:=.append) (xs:=#[.tmp 41,.tmp 43]) rfl ?_);at_builtin;refine Kd.R_append k73 (w0:=w) w.heap.size rfl (.tmp 41) (.tmp 43) 66 73 (.agg #[(.int .i64 0),(.string ⟨#[]⟩),(.int .i64 0)]) 32 rfl Tryz.underlying66 info73 rfl (by decide) (by omega) u2 x2_1 (⟨t222,t223,t224⟩:S73) [.int .i64 t222,.string t223,.int .i64 t224] (fun k_=>k_≠gb228) (fun _=>False) rfl zq11 ?aP (fun _ hk=>hk.elim) ?aF ?aO ?aB ?aS ?aL ?_;(case aP=>exact k73_mkM _ _ _ (⟨t222,t223,t224⟩:S73));(case aB=>exact zq12);(case aF=>exact (fun k_ hk=>Kd.freshB (g:=gb228) (o:=.cells #[.int .i64 t222,.string t223,.int .i64 t224] 73 (0,0)) zq13 k_ hk));(case aO=>exact zq14);(case aS=>exact (below_size zq12));(case aL=>have:=LMc14.out;omega);intro v231 w21 ho hb hg hat;rw [← Ny230.out] at ho;have HO232:=sd (ho);replace BK228:=sd (blk_grown (g:=gb228) (o:=.cells #[.int .i64 t222,.string t223,.int .i64 t224] 73 (0,0)) zq13 hg (Kd.R_away HO_2.out (fun _ hk=>hk.2)));replace BK229:=sd (blk_grown (g:=gb229) (o:=.cells #[.int .i64 t226,.int .i64 t227] 116 (0,0)) zq15 hg (Kd.R_ne HO_2.out BK229.out (by decide)));replace HB:=sd (hb);clear HO_2;clear ho hb hg hat)))
          go_roundg kj2
          case measure=>have:=HK1.out;have:=HJ2.out;omega
          case rel=>exact ⟨(y230),(t225),zq7,H',⟨zq10⟩,⟨by (with_reducible repeat (first | apply Kd.R_alloc | apply Kd.R_drewN | apply Kd.R_drew));exact Kd.R_mono HO232.out (fun _ hk=>trivial)⟩,⟨zq12⟩⟩
         exact absurd H (by simp)
        obtain ⟨c13b0,c13b1⟩:=neI c13;simp only [Option.some.injEq,Prod.mk.injEq] at H
        obtain ⟨rfl,rfl,rfl⟩:=H;have p10:0≤(x3_1:Int):=od;have q10:x3_1 < (a0.size:Int):=od;have hx10:=bt_at a0 x3_1;replace p10:=eq_true p10;replace q10:=eq_true q10;go_wp2_with (first | (go_at_call 80;(with_reducible refine (words_word.calls kj2 a0 x3_1 t222 t223 t224 t225 t226 t227 _ A12.out).mono ?_);rintro e w22 ⟨rfl,hb⟩;replace HO_2:=rbm HO_2 hb;replace HB:=hbm HB hb;clear hb) | ((with_reducible refine gate_dst (N:=5) rfl ?_);refine bxA 5 #[.int .i64 0,.string (⟨#[]⟩:ByteArray),.int .i64 0] 73 ?_;intro gb228 hg w23 hbox hb;have BK228:=sd (hbox);have GW228:=gem hg HB;have GE228:=GW228;replace HO_2:=sd (Kd.R_below (Kd.R_elderB zq9 gb228 (Nat.le_of_eq hg.symm)) hb);replace HB:=hbm HB hb;clear hb hbox hg) | ((with_reducible refine gate_dst (N:=7) rfl ?_);refine bxA 7 #[.int .i64 0,.int .i64 0] 116 ?_;intro gb229 hg w24 hbox hb;have BK229:=sd (hbox);have GW229:=gem hg HB;have GE229:=GW229;have NB228_229:=nlm hg BK228;have NB229_228:=ngm hg BK228;replace HO_2:=rbm HO_2 hb;replace BK228:=bkm BK228 hb;replace HB:=hbm HB hb;clear hb hbox hg;have hnb25:=NB228_229.out;have hnc25:=NB229_228.out;obtain ⟨_,_,_,_,_,_⟩:=bk3 BK228;obtain ⟨_,_,_,_⟩:=bk2 BK229))
        repeat (go_quiet (first | (go_at_call 80;(with_reducible refine (words_word.calls kj2 a0 x3_1 t222 t223 t224 t225 t226 t227 _ A12.out).mono ?_);rintro e w22 ⟨rfl,hb⟩;replace HO_2:=rbm HO_2 hb;replace HB:=hbm HB hb;clear hb) | ((with_reducible refine gate_dst (N:=5) rfl ?_);refine bxA 5 #[.int .i64 0,.string (⟨#[]⟩:ByteArray),.int .i64 0] 73 ?_;intro gb228 hg w23 hbox hb;have BK228:=sd (hbox);have GW228:=gem hg HB;have GE228:=GW228;replace HO_2:=sd (Kd.R_below (Kd.R_elderB zq9 gb228 (Nat.le_of_eq hg.symm)) hb);replace HB:=hbm HB hb;clear hb hbox hg) | ((with_reducible refine gate_dst (N:=7) rfl ?_);refine bxA 7 #[.int .i64 0,.int .i64 0] 116 ?_;intro gb229 hg w24 hbox hb;have BK229:=sd (hbox);have GW229:=gem hg HB;have GE229:=GW229;have NB228_229:=nlm hg BK228;have NB229_228:=ngm hg BK228;replace HO_2:=rbm HO_2 hb;replace BK228:=bkm BK228 hb;replace HB:=hbm HB hb;clear hb hbox hg;have hnb25:=NB228_229.out;have hnc25:=NB229_228.out;obtain ⟨_,_,_,_,_,_⟩:=bk3 BK228;obtain ⟨_,_,_,_⟩:=bk2 BK229));try go_wp2_with (first | (go_at_call 80;(with_reducible refine (words_word.calls kj2 a0 x3_1 t222 t223 t224 t225 t226 t227 _ A12.out).mono ?_);rintro e w22 ⟨rfl,hb⟩;replace HO_2:=rbm HO_2 hb;replace HB:=hbm HB hb;clear hb) | ((with_reducible refine gate_dst (N:=5) rfl ?_);refine bxA 5 #[.int .i64 0,.string (⟨#[]⟩:ByteArray),.int .i64 0] 73 ?_;intro gb228 hg w23 hbox hb;have BK228:=sd (hbox);have GW228:=gem hg HB;have GE228:=GW228;replace HO_2:=sd (Kd.R_below (Kd.R_elderB zq9 gb228 (Nat.le_of_eq hg.symm)) hb);replace HB:=hbm HB hb;clear hb hbox hg) | ((with_reducible refine gate_dst (N:=7) rfl ?_);refine bxA 7 #[.int .i64 0,.int .i64 0] 116 ?_;intro gb229 hg w24 hbox hb;have BK229:=sd (hbox);have GW229:=gem hg HB;have GE229:=GW229;have NB228_229:=nlm hg BK228;have NB229_228:=ngm hg BK228;replace HO_2:=rbm HO_2 hb;replace BK228:=bkm BK228 hb;replace HB:=hbm HB hb;clear hb hbox hg;have hnb25:=NB228_229.out;have hnc25:=NB229_228.out;obtain ⟨_,_,_,_,_,_⟩:=bk3 BK228;obtain ⟨_,_,_,_⟩:=bk2 BK229)))
        go_ret3
        exact ⟨_,zq4,zq5,zq12⟩
       exact absurd H (by simp)
      exact absurd H (by simp)
     replace c7:=Bool.eq_false_iff.mpr c7;subst c7;rw [if_neg Bool.false_ne_true] at H;simp only [Option.some.injEq,Prod.mk.injEq] at H
     obtain ⟨rfl,rfl,rfl⟩:=H;go_wp2
     repeat (go_quiet (fail);try go_wp2)
     go_ret3
     exact ⟨_,zq4,zq9,zq6⟩
theorem formed_calls (s:ByteArray) (hs:s.size≤140737488351232) (w:World) :
  Calls Tryz.prog 116 #[.string s] w fun e w'=>e=.returned (.bool (formedL s.data.toList))∧Drawn0 w w':=by
 obtain ⟨k,hk⟩:=(formed_ev s hs).rounds;exact num_formed.calls k s _ w hk
theorem parse_pos (s:ByteArray) (lo hi:Int) (hs:s.size≤140737488351232) (w:World) (hf:formedL s.data.toList=true) (hn:negOf s.data.toList=false) :
  Calls Tryz.prog 82 #[.string s,.int .i64 lo,.int .i64 hi] w fun e w'=>e=.returned (.tuple #[.int .i64 (parseL s.data.toList lo hi).1,.int .i64 (parseL s.data.toList lo hi).2])∧Drawn0 w w':=by
 have hF:=formed_calls s hs;rw [hf] at hF;have hsz:=size_eq' s;have hm:magOf s.data.toList=s.data.toList:=by simp [magOf,hn]
 have hne:=formed_some hf;have hdg:=formed_digits hf;rw [hm] at hne hdg;have h0:0 < s.size:=by rw [hsz];exact List.length_pos_iff.mpr hne
 have hat:∀ j,(h:j < s.size)→(h':j < s.data.toList.length)→s.data.toList[j]=s[j]:=fun j h h'=>by simp;rfl
 have hb:((s[0].toNat:Int) == 45)=false:=by
  rw [beq_eq_false_iff_ne];intro h;have:=(byte_is s[0] 45).mp h;rw [← hat 0 h0 (by omega)] at this;unfold negOf at hn;rw [List.head?_eq_getElem?,List.getElem?_eq_getElem (by omega),this] at hn;simp at hn
 have HS:=fun j n h=>@parse_stop s.data.toList hf j n h lo hi
 have HW:=fun j n h hj=>@parse_whole s.data.toList hf j n h hj lo hi
 have H0:=sd (PInv.start (negOf s.data.toList) s.data.toList);rw [hm] at HS HW;rw [hn] at HS HW H0;have HS:=sd HS;have HW:=sd HW;have HFc:=sd hF
 have HD:∀ j,(h:j < s.size)→isDig s[j]=true:=fun j h=>by
  rw [← hat j h (by omega)];exact List.all_eq_true.mp hdg _ (List.getElem_mem _)
 have HD:=sd HD;have HA:=sd hat;have HZ:=sd hsz;clear hf hn hF hm hne hdg hat hsz;generalize hP:(fun e w'=>e=Ending.returned (.tuple #[.int .i64 (parseL s.data.toList lo hi).1,.int .i64 (parseL s.data.toList lo hi).2])∧Drawn0 w w')=Post;have HP:=sd hP;clear hP;go_enter Tryz.func82,Tryz.ntmps82
 go_wp2_with fail
 refine (HFc.out _).mono ?_;rintro e w1 ⟨rfl,hd1⟩;obtain ⟨⟨n1,rfl⟩⟩:=hd1;go_wp2_with fail
 go_loopw [6,9,10] (fun n_ at_ ok_ wr=>∃ (p:Nat) (n:Int) (ok:Bool),p≤s.size∧n_=.int .i64 n∧at_=.int .i64 p∧ok_=.bool ok∧Aside0 (PInv false s.data.toList p n ok)∧Drawn0 w wr) (fun _ at_ _ _=>(s.size - (RowKit.intOf at_).toNat))
 case atStart=>exact ⟨0,0,true,by omega,rfl,rfl,rfl,H0,(Drawn0.refl _).step _⟩
 case round =>
  obtain ⟨p,n,ok,hp,rfl,rfl,rfl,HI,HDr⟩:=hrel;rename World=>wr
  cases ok
  ·have hr:=HS.out _ _ HI.out;have HR:=sd hr;clear hr;by_cases hlt:p < s.size
   ·go_wp2_with fail
    rw [← HP.out];exact ⟨by rw [HR.out];(try rfl),HDr⟩
   go_wp2_with fail
   rw [← HP.out];exact ⟨by rw [HR.out];(try rfl),HDr⟩
  ·by_cases hlt:p < s.size
   ·have hd:=(isDig_iff _).mp (HD.out p hlt);obtain ⟨hd1,hd2⟩:=hd;have hj:p < s.data.toList.length:=by rw [← HZ.out];exact hlt
    have HJ:=sd hj;clear hj;have hI:=(slot_ok HI.out).2;have hM:num_Mul.f n 10=some (fit (n * 10)):=by unfold num_Mul.f;rw [if_pos ⟨hI,by unfold I64;omega⟩]
    have hIn:-9223372036854775808≤n∧n≤9223372036854775807:=hI;obtain ⟨hIn1,hIn2⟩:=hIn;clear hI;by_cases hm:I64 (n * 10)
    ·rw [fit_yes hm] at hM;have hA:=num_Add_eq (n * 10) ((s[p].toNat:Int) - 48) hm (by unfold I64;omega);have hN:=PInv.next HI.out HJ.out (by rw [HA.out p hlt HJ.out];exact HD.out p hlt) (x:=n * 10+((s[p].toNat:Int) - 48)) (by rw [HA.out p hlt HJ.out];rfl);generalize fit (n * 10+((s[p].toNat:Int) - 48))=q at hA hN;obtain ⟨q1,q2⟩:=q;have HM:=sd hM;have HAd:=sd hA;have HN:=sd hN;have hm':-9223372036854775808≤n * 10∧n * 10≤9223372036854775807:=hm;obtain ⟨hm1,hm2⟩:=hm';clear hM hA hN hm;go_wp2_with fail
     refine (num_Mul.calls _ _ _ _ _ HM.out).mono ?_;rintro e w1 ⟨rfl,hd3⟩;obtain ⟨⟨n3,rfl⟩⟩:=hd3;go_wp2_with fail
     refine (num_Add.calls _ _ _ _ _ HAd.out).mono ?_;rintro e w1 ⟨rfl,hd4⟩;obtain ⟨⟨n4,rfl⟩⟩:=hd4;go_wp2_with fail
     go_roundw
     case rel=>exact ⟨p+1,q1,q2,by omega,rfl,by go_num,rfl,HN,HDr.step _⟩
     case measure=>simp [RowKit.intOf];omega
    rw [fit_no hm] at hM;have hN:=PInv.over HI.out HJ.out hm;have HM:=sd hM;have HN:=sd hN;clear hM hN hm;go_wp2_with fail
    refine (num_Mul.calls _ _ _ _ _ HM.out).mono ?_;rintro e w1 ⟨rfl,hd3⟩;obtain ⟨⟨n3,rfl⟩⟩:=hd3;go_wp2_with fail
    go_roundw
    case rel=>exact ⟨p+1,0,false,by omega,rfl,by go_num,rfl,HN,HDr.step _⟩
    case measure=>simp [RowKit.intOf];omega
   have hr:=HW.out _ _ HI.out (by rw [← HZ.out];omega);have HR:=sd hr;clear hr;by_cases h1:n < lo
   ·go_wp2_with fail
    rw [← HP.out];exact ⟨zq19,HDr⟩
   by_cases h2:hi < n
   ·go_wp2_with fail
    rw [← HP.out];exact ⟨zq19,HDr⟩
   go_wp2_with fail
   rw [← HP.out];exact ⟨by rw [HR.out,if_neg (by omega)];(try rfl),HDr⟩
theorem parse_neg (s:ByteArray) (lo hi:Int) (hs:s.size≤140737488351232) (w:World) (hf:formedL s.data.toList=true) (hn:negOf s.data.toList=true) :
  Calls Tryz.prog 82 #[.string s,.int .i64 lo,.int .i64 hi] w fun e w'=>e=.returned (.tuple #[.int .i64 (parseL s.data.toList lo hi).1,.int .i64 (parseL s.data.toList lo hi).2])∧Drawn0 w w':=by
 have hF:=formed_calls s hs;rw [hf] at hF;have hsz:=size_eq' s;have hm:magOf s.data.toList=s.data.toList.drop 1:=by simp [magOf,hn]
 have hne:=formed_some hf;have hdg:=formed_digits hf;rw [hm] at hne hdg
 have h0:1 < s.size:=by
  rw [hsz];rcases Nat.lt_or_ge 1 s.data.toList.length with h | h
  ·exact h
  ·exact absurd (List.drop_eq_nil_of_le h) hne
 have h00:0 < s.size:=by omega
 have hat:∀ j,(h:j+1 < s.size)→(h':j < (s.data.toList.drop 1).length)→(s.data.toList.drop 1)[j]=s[j+1]:=fun j h h'=>by simp [Nat.add_comm 1 j];rfl
 have hb:((s[0].toNat:Int) == 45)=true:=by
  rw [beq_iff_eq];refine (byte_is s[0] 45).mpr ?_;unfold negOf at hn;rw [List.head?_eq_getElem?,List.getElem?_eq_getElem (by omega),beq_iff_eq,Option.some_inj] at hn;rw [← hn];simp;(try rfl)
 have HS:=fun j n h=>@parse_stop s.data.toList hf j n h lo hi
 have HW:=fun j n h hj=>@parse_whole s.data.toList hf j n h hj lo hi
 have H0:=sd (PInv.start (negOf s.data.toList) (s.data.toList.drop 1));rw [hm] at HS HW;rw [hn] at HS HW H0;have HS:=sd HS;have HW:=sd HW;have HFc:=sd hF
 have HD:∀ j,(h:j+1 < s.size)→isDig s[j+1]=true:=fun j h=>by
  rw [← hat j h (by rw [List.length_drop];omega)];exact List.all_eq_true.mp hdg _ (List.getElem_mem _)
 have HD:=sd HD;have HA:=sd hat;have HZ:=sd hsz;clear hf hn hF hm hne hdg hat hsz;generalize hP:(fun e w'=>e=Ending.returned (.tuple #[.int .i64 (parseL s.data.toList lo hi).1,.int .i64 (parseL s.data.toList lo hi).2])∧Drawn0 w w')=Post;have HP:=sd hP;clear hP;go_enter Tryz.func82,Tryz.ntmps82
 go_wp2_with fail
 refine (HFc.out _).mono ?_;rintro e w1 ⟨rfl,hd1⟩;obtain ⟨⟨n1,rfl⟩⟩:=hd1;go_wp2_with fail
 go_loopw [6,9,10] (fun n_ at_ ok_ wr=>∃ (p:Nat) (n:Int) (ok:Bool),p+1≤s.size∧n_=.int .i64 n∧at_=.int .i64 ((p:Int)+1)∧ok_=.bool ok∧Aside0 (PInv true (s.data.toList.drop 1) p n ok)∧Drawn0 w wr) (fun _ at_ _ _=>(s.size - (RowKit.intOf at_).toNat))
 case atStart=>exact ⟨0,0,true,by omega,rfl,rfl,rfl,H0,(Drawn0.refl _).step _⟩
 case round =>
  obtain ⟨p,n,ok,hp,rfl,rfl,rfl,HI,HDr⟩:=hrel;rename World=>wr
  cases ok
  ·have hr:=HS.out _ _ HI.out;have HR:=sd hr;clear hr;by_cases hlt:p+1 < s.size
   ·go_wp2_with fail
    rw [← HP.out];exact ⟨by rw [HR.out];(try rfl),HDr⟩
   go_wp2_with fail
   rw [← HP.out];exact ⟨by rw [HR.out];(try rfl),HDr⟩
  ·by_cases hlt:p+1 < s.size
   ·have hd:=(isDig_iff _).mp (HD.out p hlt);obtain ⟨hd1,hd2⟩:=hd;have hj:p < (s.data.toList.drop 1).length:=by rw [List.length_drop,← HZ.out];omega
    have HJ:=sd hj;clear hj;have hI:=(slot_ok HI.out).2;have hM:num_Mul.f n 10=some (fit (n * 10)):=by unfold num_Mul.f;rw [if_pos ⟨hI,by unfold I64;omega⟩]
    have hIn:-9223372036854775808≤n∧n≤9223372036854775807:=hI;obtain ⟨hIn1,hIn2⟩:=hIn;clear hI;by_cases hm:I64 (n * 10)
    ·rw [fit_yes hm] at hM;have hA:=num_Sub_eq (n * 10) ((s[p+1].toNat:Int) - 48) hm (by unfold I64;omega);have hN:=PInv.next HI.out HJ.out (by rw [HA.out p hlt HJ.out];exact HD.out p hlt) (x:=n * 10 - ((s[p+1].toNat:Int) - 48)) (by rw [HA.out p hlt HJ.out];rfl);generalize fit (n * 10 - ((s[p+1].toNat:Int) - 48))=q at hA hN;obtain ⟨q1,q2⟩:=q;have HM:=sd hM;have HAd:=sd hA;have HN:=sd hN;have hm':-9223372036854775808≤n * 10∧n * 10≤9223372036854775807:=hm;obtain ⟨hm1,hm2⟩:=hm';clear hM hA hN hm;go_wp2_with fail
     refine (num_Mul.calls _ _ _ _ _ HM.out).mono ?_;rintro e w1 ⟨rfl,hd3⟩;obtain ⟨⟨n3,rfl⟩⟩:=hd3;go_wp2_with fail
     refine (num_Sub.calls _ _ _ _ _ HAd.out).mono ?_;rintro e w1 ⟨rfl,hd4⟩;obtain ⟨⟨n4,rfl⟩⟩:=hd4;go_wp2_with fail
     go_roundw
     case rel=>exact ⟨p+1,q1,q2,by omega,rfl,by go_num,rfl,HN,HDr.step _⟩
     case measure=>simp [RowKit.intOf];omega
    rw [fit_no hm] at hM;have hN:=PInv.over HI.out HJ.out hm;have HM:=sd hM;have HN:=sd hN;clear hM hN hm;go_wp2_with fail
    refine (num_Mul.calls _ _ _ _ _ HM.out).mono ?_;rintro e w1 ⟨rfl,hd3⟩;obtain ⟨⟨n3,rfl⟩⟩:=hd3;go_wp2_with fail
    go_roundw
    case rel=>exact ⟨p+1,0,false,by omega,rfl,by go_num,rfl,HN,HDr.step _⟩
    case measure=>simp [RowKit.intOf];omega
   have hr:=HW.out _ _ HI.out (by rw [List.length_drop,← HZ.out];omega);have HR:=sd hr;clear hr;by_cases h1:n < lo
   ·go_wp2_with fail
    rw [← HP.out];exact ⟨zq19,HDr⟩
   by_cases h2:hi < n
   ·go_wp2_with fail
    rw [← HP.out];exact ⟨zq19,HDr⟩
   go_wp2_with fail
   rw [← HP.out];exact ⟨by rw [HR.out,if_neg (by omega)];(try rfl),HDr⟩
theorem num_Parse.calls (a0:ByteArray) (a1 a2 r1 r2:Int) (w:World) (h:num_Parse.f a0 a1 a2=some (r1,r2)) :
  Calls Tryz.prog 82 #[.string a0,.int .i64 a1,.int .i64 a2] w fun e w'=>e=.returned (.tuple #[.int .i64 r1,.int .i64 r2])∧Drawn0 w w':=by
 unfold num_Parse.f at h;split at h <;> simp only [Option.some.injEq,reduceCtorEq] at h
 rename_i hs
 have e1:r1=(parseL a0.data.toList a1 a2).1:=by rw [h]
 have e2:r2=(parseL a0.data.toList a1 a2).2:=by rw [h]
 subst e1 e2;clear h
 cases hf:formedL a0.data.toList
 ·have hF:=formed_calls a0 hs;rw [hf] at hF;have hp:parseL a0.data.toList a1 a2=(0,5):=by unfold parseL;rw [hf];rfl
  have HP:=sd hp;have HFc:=sd hF;clear hf hF hp;generalize hP:(fun e w'=>e=Ending.returned (.tuple #[.int .i64 (parseL a0.data.toList a1 a2).1,.int .i64 (parseL a0.data.toList a1 a2).2])∧Drawn0 w w')=Post;rw [HP.out] at hP;have HPo:=sd hP;clear hP;go_enter Tryz.func82,Tryz.ntmps82
  go_wp2_with fail
  refine (HFc.out _).mono ?_;rintro e w1 ⟨rfl,hd1⟩;obtain ⟨⟨n1,rfl⟩⟩:=hd1;go_wp2_with fail
  rw [← HPo.out];exact ⟨rfl,(Drawn0.refl _).step _⟩
 ·cases hn:negOf a0.data.toList
  ·exact parse_pos a0 a1 a2 hs w hf hn
  ·exact parse_neg a0 a1 a2 hs w hf hn
def days_Parse.rem (k:Nat) (s:ByteArray):Nat→Int→Int→Int→Option (Int×Int)
 | 0,x,y,z=>days_Of.f k x y z
 | 1,x,y,z=>(days_number.f k (s.extract 8 10)).bind fun c=>if c.2=true then days_Of.f k x y c.1 else some (0,5)
 | 2,x,y,z=>(days_number.f k (s.extract 5 7)).bind fun c=>if c.2=true then days_Parse.rem k s 1 x c.1 z else some (0,5)
 | _+3,x,y,z=>(days_number.f k (s.extract 0 4)).bind fun c=>if c.2=true then days_Parse.rem k s 2 c.1 y z else some (0,5)
def days_Parse.f (k:Nat) (s:ByteArray):Option (Int×Int):=if s.size≤140737488351232 then (if s.size=10 then (if bt s 4=45 then (if bt s 7=45 then days_Parse.rem k s 3 0 0 0 else some (0,5)) else some (0,5)) else some (0,5)) else none
def valC (k:Nat) (c:S48) (x:S73):Option (S48×Int) :=
  if c.f0=1 then (num_Parse.f x.f1 (-1000000000000) 1000000000000).bind fun q=>some ({ c with f3:=q.1 },q.2) else
  if c.f0=4 then (days_Parse.f k x.f1).bind fun q=>some ({ c with f3:=q.1 },q.2) else some ({ c with f2:=x.f1 },0)
end Go.Proofs.YtkbgkekegjfkfaaGreatDoor.A
