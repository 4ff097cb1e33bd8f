-- By pack.py, a program of this session's.
import Derived.Test.YtkbgkekegjfkfaaGreatDoorY15
import Derived.Test.YtkbgkekegjfkfaaGreatDoorY16
set_option linter.unusedVariables false
set_option linter.unusedSimpArgs false
namespace Go.Proofs.YtkbgkekegjfkfaaGreatDoor.A
open Go.RowKit B WW WL WM
attribute [local go_sem] max2_int min2_int max_two min_two max_three min_three max_four min_four
set_option maxHeartbeats 8000000
set_option maxRecDepth 100000
structure CEnv (w:World) (g gn gs:Nat) (c:S48):Prop where
 c0:w.cell? ⟨g,0,none⟩=some (.int .i64 c.f0)
 c2:w.cell? ⟨g,2,none⟩=some (.string c.f2)
 c3:w.cell? ⟨g,3,none⟩=some (.int .i64 c.f3)
 fn:w.cell? ⟨gn,0,none⟩=some (.func (.func 59) #[] #[.pointer (some ⟨g,0,none⟩)])
 fs:w.cell? ⟨gs,0,none⟩=some (.func (.func 60) #[] #[.pointer (some ⟨g,0,none⟩)])
theorem CEnv.below {w w':World} {g gn gs:Nat} {c:S48} (h:CEnv w g gn gs c) (hb:Below w.heap.size w w'):CEnv w' g gn gs c :=
 ⟨(hb.cell (p:=⟨g,0,none⟩) (lt_of_cell h.c0)).trans h.c0,(hb.cell (p:=⟨g,2,none⟩) (lt_of_cell h.c2)).trans h.c2,(hb.cell (p:=⟨g,3,none⟩) (lt_of_cell h.c3)).trans h.c3,(hb.cell (p:=⟨gn,0,none⟩) (lt_of_cell h.fn)).trans h.fn,(hb.cell (p:=⟨gs,0,none⟩) (lt_of_cell h.fs)).trans h.fs⟩
theorem count_calls (x:Int) (w:World):Calls Tryz.prog 67 #[.int .i64 x] w fun e w'=>e=.returned (.bool (decide (x=1∨x=4)))∧Drawn0 w w':=by
 have h:rules_counts.f x=some (decide (x=1∨x=4)):=by
  unfold rules_counts.f;by_cases e:x=1
  ·rw [if_pos e,decide_eq_true (Or.inl e)]
  rw [if_neg e];congr 1
  rw [Bool.eq_iff_iff,beq_iff_eq,decide_eq_true_iff];omega
 exact rules_counts.calls x _ w h
def numS:List ByteArray→ByteArray→Nat→Int
 | [],_,_=>0
 | x :: r,s,i=>if x.toList=s.toList then (i:Int)+1 else numS r s (i+1)
theorem number_calls (s:ByteArray) (L:List ByteArray) (hL:(Lib.fields s.data.toList).map (fun l=>(⟨l.toArray⟩:ByteArray))=L) (hs:s.size < 4294967281) (ha:∀ (j:Nat) b,s.data.toList[j]?=some b→b.toNat < 128) (hl:L.length≤1000) (x:ByteArray) (w:World) (hG:Gl w) :
  Calls Tryz.prog 113 #[.string s,.string x] w fun e w'=>e=.returned (.int .i64 (numS L x 0))∧Below w.heap.size w w':=by
 have HF:=sd (fields_calls s L hL hs ha w hG);clear hL hs ha hG;generalize hQ:(fun (e:Ending) (w':World)=>e=.returned (.int .i64 (numS L x 0))∧Below w.heap.size w w')=Post;have HQ:=sd hQ;clear hQ;go_enter Tryz.func113,Tryz.ntmps113
 go_wp2_with fail
 refine HF.out.mono ?_;rintro e w1 ⟨rfl,rfl⟩;clear HF;have HB:=sd (below_alloc (Below.refl w.heap.size w) (Obj.cells (L.map Value.string).toArray 9));have b0:(w.alloc (Obj.cells (L.map Value.string).toArray 9)).heap[w.heap.size]?=some (.cells (L.map Value.string).toArray 9 (0,0)):=blk_new _ _;generalize w.alloc (Obj.cells (L.map Value.string).toArray 9)=w1 at *;obtain ⟨g,hg⟩:∃ g,g=w.heap.size:=⟨_,rfl⟩
 rw [← hg] at b0 ⊢;have B0:=sd b0;clear b0 hg;go_wp2_with fail
 go_loopw [10] (fun n_ wr=>∃ (i:Nat),i≤L.length∧n_=.int .i64 (i:Int)∧Aside0 (numS L x 0=numS (L.drop i) x i)∧Aside0 (Below w.heap.size w wr)∧Aside0 (wr.heap[g]?=some (.cells (L.map Value.string).toArray 9 (0,0)))) (fun n_ _=>(L.length - (RowKit.intOf n_).toNat))
 case atStart=>exact ⟨0,Nat.zero_le _,rfl,⟨rfl⟩,HB,B0⟩
 case round =>
  clear HB B0;obtain ⟨i,hi,rfl,HU,HB,B0⟩:=hrel;rename World=>wr
  by_cases hlt:i < L.length
  case neg =>
   obtain rfl:i=L.length:=by omega
   have hlt':¬ (L.length:Int) < (L.length:Int):=by omega
   have hr:numS L x 0=0:=by rw [HU.out,List.drop_length];rfl
   go_wp2_with fail
   rw [← HQ.out,hr];exact ⟨by (try rfl),HB.out⟩
  have hlt':(i:Int) < (L.length:Int):=by omega
  have h0:(0:Int)≤(i:Int):=by omega
  have hw:wrap64 ((i:Int)+1)=(i:Int)+1:=by unfold wrap64;omega
  obtain ⟨y,hy⟩:∃ y,y=L[i]:=⟨_,rfl⟩
  have HD:=sd (show L.drop i=y :: L.drop (i+1) by rw [List.drop_eq_getElem_cons hlt,hy])
  have c0:wr.cell? ⟨g,i,none⟩=some (.string y):=by
   refine (blk_cell B0.out i).trans ?_;simp [hy,hlt]
  clear hy;by_cases e:y.toList=x.toList
  ·have q:(y.toList == x.toList)=true:=by rw [beq_iff_eq];exact e
   have hr:numS L x 0=(i:Int)+1:=by rw [HU.out,HD.out,numS,if_pos e]
   go_wp2_with fail
   rw [← HQ.out,hr];exact ⟨by (try rfl),HB.out⟩
  have q:(y.toList == x.toList)=false:=by rw [beq_eq_false_iff_ne];exact e
  have HU2:=sd (show numS L x 0=numS (L.drop (i+1)) x (i+1) by rw [HU.out,HD.out,numS,if_neg e]);clear HU;go_wp2_with fail
  go_roundw
  case rel=>exact ⟨i+1,by omega,by congr 1,HU2,HB,B0⟩
  case measure=>simp [RowKit.intOf];omega
def rules_follow.f (a0:Bool) (a1:Int):Option (Int):=if a0=true then (some a1) else (some 14)
theorem rules_follow.calls (a0:Bool) (a1 r:Int) (w:World) (h:rules_follow.f a0 a1=some r) :
  Calls Tryz.prog 112 #[.bool a0,.int .i64 a1] w fun e w'=>e=.returned (.int .i64 r)∧Drawn0 w w':=by
 have H:=h;clear h;unfold rules_follow.f at H;by_cases c3:a0=true
 ·subst c3;rw [if_pos rfl] at H;obtain rfl:=Option.some.inj H;go_enter Tryz.func112,Tryz.ntmps112
  go_wp2
  go_ret
  exact ⟨zq7,zq16⟩
 replace c3:=Bool.eq_false_iff.mpr c3;subst c3;rw [if_neg Bool.false_ne_true] at H;obtain rfl:=Option.some.inj H;go_enter Tryz.func112,Tryz.ntmps112
 go_wp2
 go_ret
 exact ⟨zq7,zq16⟩
theorem parse_pos (s:ByteArray) (lo hi:Int) (hs:s.size≤140737488351232) (w:World) (hf:formedL s.data.toList=true) (hn:negOf s.data.toList=false) :
  Calls Tryz.prog 82 #[.string s,.int .i64 lo,.int .i64 hi] w fun e w'=>e=.returned (.tuple #[.int .i64 (parseL s.data.toList lo hi).1,.int .i64 (parseL s.data.toList lo hi).2])∧Drawn0 w w':=by
 have hF:=formed_calls s hs;rw [hf] at hF;have hsz:=size_eq' s;have hm:magOf s.data.toList=s.data.toList:=by simp [magOf,hn]
 have hne:=formed_some hf;have hdg:=formed_digits hf;rw [hm] at hne hdg;have h0:0 < s.size:=by rw [hsz];exact List.length_pos_iff.mpr hne
 have hat:∀ j,(h:j < s.size)→(h':j < s.data.toList.length)→s.data.toList[j]=s[j]:=fun j h h'=>by simp;rfl
 have hb:((s[0].toNat:Int) == 45)=false:=by
  rw [beq_eq_false_iff_ne];intro h;have:=(byte_is s[0] 45).mp h;rw [← hat 0 h0 (by omega)] at this;unfold negOf at hn;rw [List.head?_eq_getElem?,List.getElem?_eq_getElem (by omega),this] at hn;simp at hn
 have HS:=fun j n h=>@parse_stop s.data.toList hf j n h lo hi
 have HW:=fun j n h hj=>@parse_whole s.data.toList hf j n h hj lo hi
 have H0:=sd (PInv.start (negOf s.data.toList) s.data.toList);rw [hm] at HS HW;rw [hn] at HS HW H0;have HS:=sd HS;have HW:=sd HW;have HFc:=sd hF
 have HD:∀ j,(h:j < s.size)→isDig s[j]=true:=fun j h=>by
  rw [← hat j h (by omega)];exact List.all_eq_true.mp hdg _ (List.getElem_mem _)
 have HD:=sd HD;have HA:=sd hat;have HZ:=sd hsz;clear hf hn hF hm hne hdg hat hsz;generalize hP:(fun e w'=>e=Ending.returned (.tuple #[.int .i64 (parseL s.data.toList lo hi).1,.int .i64 (parseL s.data.toList lo hi).2])∧Drawn0 w w')=Post;have HP:=sd hP;clear hP;go_enter Tryz.func82,Tryz.ntmps82
 go_wp2_with fail
 refine (HFc.out _).mono ?_;rintro e w1 ⟨rfl,hd1⟩;obtain ⟨⟨n1,rfl⟩⟩:=hd1;go_wp2_with fail
 go_loopw [6,9,10] (fun n_ at_ ok_ wr=>∃ (p:Nat) (n:Int) (ok:Bool),p≤s.size∧n_=.int .i64 n∧at_=.int .i64 p∧ok_=.bool ok∧Aside0 (PInv false s.data.toList p n ok)∧Drawn0 w wr) (fun _ at_ _ _=>(s.size - (RowKit.intOf at_).toNat))
 case atStart=>exact ⟨0,0,true,by omega,rfl,rfl,rfl,H0,(Drawn0.refl _).step _⟩
 case round =>
  obtain ⟨p,n,ok,hp,rfl,rfl,rfl,HI,HDr⟩:=hrel;rename World=>wr
  cases ok
  ·have hr:=HS.out _ _ HI.out;have HR:=sd hr;clear hr;by_cases hlt:p < s.size
   ·go_wp2_with fail
    rw [← HP.out];exact ⟨by rw [HR.out];(try rfl),HDr⟩
   go_wp2_with fail
   rw [← HP.out];exact ⟨by rw [HR.out];(try rfl),HDr⟩
  ·by_cases hlt:p < s.size
   ·have hd:=(isDig_iff _).mp (HD.out p hlt);obtain ⟨hd1,hd2⟩:=hd;have hj:p < s.data.toList.length:=by rw [← HZ.out];exact hlt
    have HJ:=sd hj;clear hj;have hI:=(slot_ok HI.out).2;have hM:num_Mul.f n 10=some (fit (n * 10)):=by unfold num_Mul.f;rw [if_pos ⟨hI,by unfold I64;omega⟩]
    have hIn:-9223372036854775808≤n∧n≤9223372036854775807:=hI;obtain ⟨hIn1,hIn2⟩:=hIn;clear hI;by_cases hm:I64 (n * 10)
    ·rw [fit_yes hm] at hM;have hA:=num_Add_eq (n * 10) ((s[p].toNat:Int) - 48) hm (by unfold I64;omega);have hN:=PInv.next HI.out HJ.out (by rw [HA.out p hlt HJ.out];exact HD.out p hlt) (x:=n * 10+((s[p].toNat:Int) - 48)) (by rw [HA.out p hlt HJ.out];rfl);generalize fit (n * 10+((s[p].toNat:Int) - 48))=q at hA hN;obtain ⟨q1,q2⟩:=q;have HM:=sd hM;have HAd:=sd hA;have HN:=sd hN;have hm':-9223372036854775808≤n * 10∧n * 10≤9223372036854775807:=hm;obtain ⟨hm1,hm2⟩:=hm';clear hM hA hN hm;go_wp2_with fail
     refine (num_Mul.calls _ _ _ _ _ HM.out).mono ?_;rintro e w1 ⟨rfl,hd3⟩;obtain ⟨⟨n3,rfl⟩⟩:=hd3;go_wp2_with fail
     refine (num_Add.calls _ _ _ _ _ HAd.out).mono ?_;rintro e w1 ⟨rfl,hd4⟩;obtain ⟨⟨n4,rfl⟩⟩:=hd4;go_wp2_with fail
     go_roundw
     case rel=>exact ⟨p+1,q1,q2,by omega,rfl,by go_num,rfl,HN,HDr.step _⟩
     case measure=>simp [RowKit.intOf];omega
    rw [fit_no hm] at hM;have hN:=PInv.over HI.out HJ.out hm;have HM:=sd hM;have HN:=sd hN;clear hM hN hm;go_wp2_with fail
    refine (num_Mul.calls _ _ _ _ _ HM.out).mono ?_;rintro e w1 ⟨rfl,hd3⟩;obtain ⟨⟨n3,rfl⟩⟩:=hd3;go_wp2_with fail
    go_roundw
    case rel=>exact ⟨p+1,0,false,by omega,rfl,by go_num,rfl,HN,HDr.step _⟩
    case measure=>simp [RowKit.intOf];omega
   have hr:=HW.out _ _ HI.out (by rw [← HZ.out];omega);have HR:=sd hr;clear hr;by_cases h1:n < lo
   ·go_wp2_with fail
    rw [← HP.out];exact ⟨zq19,HDr⟩
   by_cases h2:hi < n
   ·go_wp2_with fail
    rw [← HP.out];exact ⟨zq19,HDr⟩
   go_wp2_with fail
   rw [← HP.out];exact ⟨by rw [HR.out,if_neg (by omega)];(try rfl),HDr⟩
theorem parse_neg (s:ByteArray) (lo hi:Int) (hs:s.size≤140737488351232) (w:World) (hf:formedL s.data.toList=true) (hn:negOf s.data.toList=true) :
  Calls Tryz.prog 82 #[.string s,.int .i64 lo,.int .i64 hi] w fun e w'=>e=.returned (.tuple #[.int .i64 (parseL s.data.toList lo hi).1,.int .i64 (parseL s.data.toList lo hi).2])∧Drawn0 w w':=by
 have hF:=formed_calls s hs;rw [hf] at hF;have hsz:=size_eq' s;have hm:magOf s.data.toList=s.data.toList.drop 1:=by simp [magOf,hn]
 have hne:=formed_some hf;have hdg:=formed_digits hf;rw [hm] at hne hdg
 have h0:1 < s.size:=by
  rw [hsz];rcases Nat.lt_or_ge 1 s.data.toList.length with h | h
  ·exact h
  ·exact absurd (List.drop_eq_nil_of_le h) hne
 have h00:0 < s.size:=by omega
 have hat:∀ j,(h:j+1 < s.size)→(h':j < (s.data.toList.drop 1).length)→(s.data.toList.drop 1)[j]=s[j+1]:=fun j h h'=>by simp [Nat.add_comm 1 j];rfl
 have hb:((s[0].toNat:Int) == 45)=true:=by
  rw [beq_iff_eq];refine (byte_is s[0] 45).mpr ?_;unfold negOf at hn;rw [List.head?_eq_getElem?,List.getElem?_eq_getElem (by omega),beq_iff_eq,Option.some_inj] at hn;rw [← hn];simp;(try rfl)
 have HS:=fun j n h=>@parse_stop s.data.toList hf j n h lo hi
 have HW:=fun j n h hj=>@parse_whole s.data.toList hf j n h hj lo hi
 have H0:=sd (PInv.start (negOf s.data.toList) (s.data.toList.drop 1));rw [hm] at HS HW;rw [hn] at HS HW H0;have HS:=sd HS;have HW:=sd HW;have HFc:=sd hF
 have HD:∀ j,(h:j+1 < s.size)→isDig s[j+1]=true:=fun j h=>by
  rw [← hat j h (by rw [List.length_drop];omega)];exact List.all_eq_true.mp hdg _ (List.getElem_mem _)
 have HD:=sd HD;have HA:=sd hat;have HZ:=sd hsz;clear hf hn hF hm hne hdg hat hsz;generalize hP:(fun e w'=>e=Ending.returned (.tuple #[.int .i64 (parseL s.data.toList lo hi).1,.int .i64 (parseL s.data.toList lo hi).2])∧Drawn0 w w')=Post;have HP:=sd hP;clear hP;go_enter Tryz.func82,Tryz.ntmps82
 go_wp2_with fail
 refine (HFc.out _).mono ?_;rintro e w1 ⟨rfl,hd1⟩;obtain ⟨⟨n1,rfl⟩⟩:=hd1;go_wp2_with fail
 go_loopw [6,9,10] (fun n_ at_ ok_ wr=>∃ (p:Nat) (n:Int) (ok:Bool),p+1≤s.size∧n_=.int .i64 n∧at_=.int .i64 ((p:Int)+1)∧ok_=.bool ok∧Aside0 (PInv true (s.data.toList.drop 1) p n ok)∧Drawn0 w wr) (fun _ at_ _ _=>(s.size - (RowKit.intOf at_).toNat))
 case atStart=>exact ⟨0,0,true,by omega,rfl,rfl,rfl,H0,(Drawn0.refl _).step _⟩
 case round =>
  obtain ⟨p,n,ok,hp,rfl,rfl,rfl,HI,HDr⟩:=hrel;rename World=>wr
  cases ok
  ·have hr:=HS.out _ _ HI.out;have HR:=sd hr;clear hr;by_cases hlt:p+1 < s.size
   ·go_wp2_with fail
    rw [← HP.out];exact ⟨by rw [HR.out];(try rfl),HDr⟩
   go_wp2_with fail
   rw [← HP.out];exact ⟨by rw [HR.out];(try rfl),HDr⟩
  ·by_cases hlt:p+1 < s.size
   ·have hd:=(isDig_iff _).mp (HD.out p hlt);obtain ⟨hd1,hd2⟩:=hd;have hj:p < (s.data.toList.drop 1).length:=by rw [List.length_drop,← HZ.out];omega
    have HJ:=sd hj;clear hj;have hI:=(slot_ok HI.out).2;have hM:num_Mul.f n 10=some (fit (n * 10)):=by unfold num_Mul.f;rw [if_pos ⟨hI,by unfold I64;omega⟩]
    have hIn:-9223372036854775808≤n∧n≤9223372036854775807:=hI;obtain ⟨hIn1,hIn2⟩:=hIn;clear hI;by_cases hm:I64 (n * 10)
    ·rw [fit_yes hm] at hM;have hA:=num_Sub_eq (n * 10) ((s[p+1].toNat:Int) - 48) hm (by unfold I64;omega);have hN:=PInv.next HI.out HJ.out (by rw [HA.out p hlt HJ.out];exact HD.out p hlt) (x:=n * 10 - ((s[p+1].toNat:Int) - 48)) (by rw [HA.out p hlt HJ.out];rfl);generalize fit (n * 10 - ((s[p+1].toNat:Int) - 48))=q at hA hN;obtain ⟨q1,q2⟩:=q;have HM:=sd hM;have HAd:=sd hA;have HN:=sd hN;have hm':-9223372036854775808≤n * 10∧n * 10≤9223372036854775807:=hm;obtain ⟨hm1,hm2⟩:=hm';clear hM hA hN hm;go_wp2_with fail
     refine (num_Mul.calls _ _ _ _ _ HM.out).mono ?_;rintro e w1 ⟨rfl,hd3⟩;obtain ⟨⟨n3,rfl⟩⟩:=hd3;go_wp2_with fail
     refine (num_Sub.calls _ _ _ _ _ HAd.out).mono ?_;rintro e w1 ⟨rfl,hd4⟩;obtain ⟨⟨n4,rfl⟩⟩:=hd4;go_wp2_with fail
     go_roundw
     case rel=>exact ⟨p+1,q1,q2,by omega,rfl,by go_num,rfl,HN,HDr.step _⟩
     case measure=>simp [RowKit.intOf];omega
    rw [fit_no hm] at hM;have hN:=PInv.over HI.out HJ.out hm;have HM:=sd hM;have HN:=sd hN;clear hM hN hm;go_wp2_with fail
    refine (num_Mul.calls _ _ _ _ _ HM.out).mono ?_;rintro e w1 ⟨rfl,hd3⟩;obtain ⟨⟨n3,rfl⟩⟩:=hd3;go_wp2_with fail
    go_roundw
    case rel=>exact ⟨p+1,0,false,by omega,rfl,by go_num,rfl,HN,HDr.step _⟩
    case measure=>simp [RowKit.intOf];omega
   have hr:=HW.out _ _ HI.out (by rw [List.length_drop,← HZ.out];omega);have HR:=sd hr;clear hr;by_cases h1:n < lo
   ·go_wp2_with fail
    rw [← HP.out];exact ⟨zq19,HDr⟩
   by_cases h2:hi < n
   ·go_wp2_with fail
    rw [← HP.out];exact ⟨zq19,HDr⟩
   go_wp2_with fail
   rw [← HP.out];exact ⟨by rw [HR.out,if_neg (by omega)];(try rfl),HDr⟩
theorem RP.below {w w':World} {bd g:Nat} {p:PR} {vC vT vW:Value} (h:RP w bd g p vC vT vW) (hb:Below w.heap.size w w'):RP w' bd g p vC vT vW :=
  ⟨blk_below h.blk hb,Kd.R_below h.rC hb,Kd.R_below h.rT hb,Kd.R_below h.rW hb,h.hbd⟩
theorem n48:∀ q,q∈(48:Nat) :: k48.E→q≠71:=by decide
theorem n50:∀ q,q∈(50:Nat) :: k50.E→q≠71:=by decide
theorem n73:∀ q,q∈(73:Nat) :: k73.E→q≠71:=by decide
theorem RP.set {w:World} {bd g:Nat} {p:PR} {vC vT vW:Value} (h:RP w bd g p vC vT vW) (j:Nat) (u:Value) (q:PR) (hc:(p.cells vC vT vW).set! j u=q.cells vC vT vW) (h1:q.cs=p.cs) (h2:q.tg=p.tg) (h3:q.ws=p.ws):RP (w.setCell ⟨g,j,none⟩ u) bd g q vC vT vW :=
  ⟨blk_put (cs:=p.cells vC vT vW) h.blk j u hc,by rw [h1];exact Kd.R_set h.rC h.blk n48 j u,by rw [h2];exact Kd.R_set h.rT h.blk n50 j u,by rw [h3];exact Kd.R_set h.rW h.blk n73 j u,h.hbd⟩
theorem FP.below {bd g:Nat} {vC vT vW:Value} {w w1 w2:World} (h:FP bd g vC vT vW w w1) (hb:Below w1.heap.size w1 w2) (hbd:bd≤w.heap.size):FP bd g vC vT vW w w2 :=
  ⟨h.b.trans ⟨hb.os,hb.tape,hb.output,hb.size,fun i hi=>hb.block i (Nat.lt_of_lt_of_le hi (Nat.le_trans hbd h.b.size))⟩,fun i h1 h2 h3 h4 h5=>(hb.block i (Nat.lt_of_lt_of_le h1 h.b.size)).trans (h.fr i h1 h2 h3 h4 h5)⟩
theorem FP.set {bd g o:Nat} {vC vT vW:Value} {w w1:World} (h:FP bd g vC vT vW w w1) (hg:bd≤g) (u:Value):FP bd g vC vT vW w (w1.setCell ⟨g,o,none⟩ u) :=
  ⟨below_setN h.b hg u,fun i h1 h2 h3 h4 h5=>(Below.heap_setCell _ _ _ i h2).trans (h.fr i h1 h2 h3 h4 h5)⟩
def fol (b:Bool) (s:Int):Int:=if b=true then s else 14
theorem follow_calls (b:Bool) (s:Int) (w:World):Calls Tryz.prog 112 #[.bool b,.int .i64 s] w fun e w'=>e=.returned (.int .i64 (fol b s))∧Drawn0 w w':=by
  have h:rules_follow.f b s=some (fol b s):=by unfold rules_follow.f fol;cases b <;> rfl
  exact rules_follow.calls b s _ w h
theorem RP.growC {w w1:World} {bd g:Nat} {p:PR} {vC vT vW v1:Value} {cs':List S48} (h:RP w bd g p vC vT vW) (hR:Kd.R k48 48 w1 bd (fun _=>True) v1 cs') (hg:w.grownBy w1 vC.ownBlock):RP (w1.setCell ⟨g,1,none⟩ v1) bd g { p with cs:=cs' } v1 vT vW:=by
  have hB:=blk_grown h.blk hg (Kd.R_ne h.rC h.blk (by decide));exact ⟨blk_put (cs:=p.cells vC vT vW) hB 1 _ rfl,Kd.R_set hR hB n48 1 _,Kd.R_set (Kd.R_over h.rT h.rC (by decide) hg) hB n50 1 _,Kd.R_set (Kd.R_over h.rW h.rC (by decide) hg) hB n73 1 _,h.hbd⟩
theorem RP.growT {w w1:World} {bd g:Nat} {p:PR} {vC vT vW v1:Value} {tg':List S50} (h:RP w bd g p vC vT vW) (hR:Kd.R k50 50 w1 bd (fun _=>True) v1 tg') (hg:w.grownBy w1 vT.ownBlock):RP (w1.setCell ⟨g,4,none⟩ v1) bd g { p with tg:=tg' } vC v1 vW:=by
  have hB:=blk_grown h.blk hg (Kd.R_ne h.rT h.blk (by decide));exact ⟨blk_put (cs:=p.cells vC vT vW) hB 4 _ rfl,Kd.R_set (Kd.R_over h.rC h.rT (by decide) hg) hB n48 4 _,Kd.R_set hR hB n50 4 _,Kd.R_set (Kd.R_over h.rW h.rT (by decide) hg) hB n73 4 _,h.hbd⟩
theorem RP.growW {w w1:World} {bd g:Nat} {p:PR} {vC vT vW v1:Value} {ws':List S73} (h:RP w bd g p vC vT vW) (hR:Kd.R k73 73 w1 bd (fun _=>True) v1 ws') (hg:w.grownBy w1 vW.ownBlock):RP (w1.setCell ⟨g,6,none⟩ v1) bd g { p with ws:=ws' } vC vT v1:=by
  have hB:=blk_grown h.blk hg (Kd.R_ne h.rW h.blk (by decide));exact ⟨blk_put (cs:=p.cells vC vT vW) hB 6 _ rfl,Kd.R_set (Kd.R_over h.rC h.rW (by decide) hg) hB n48 6 _,Kd.R_set (Kd.R_over h.rT h.rW (by decide) hg) hB n50 6 _,Kd.R_set hR hB n73 6 _,h.hbd⟩
theorem head_1 (bd g:Nat) (p:PR) (vC vT vW:Value) (x:S73) (code:Bool) (w:World) (hp:RP w bd g p vC vT vW) (hbd:bd≤w.heap.size) (hst:p.st=1) :
    Calls Tryz.prog 81 #[.pointer (some ⟨g,0,none⟩),.agg #[.int .i64 x.f0,.string x.f1,.int .i64 x.f2],.bool code] w (StepPost bd g vC vT vW ({ p with nm:=x.f1 }) (fol code 2) w):=by
  have hmf:∀ (fn:Fn) (first cap:Array Value) (w:World),(Instr.makeFunc fn first cap).run Tryz.prog w=.ok (.func fn first cap) w:=fun _ _ _ _=>rfl
  have HP:=sd hp;have HNE:=sd (show ¬ w.heap.size=g from fun h=>by have:=blk_lt hp.blk;omega);have HNW:=sd (Kd.R_lt HP.out.rW);have HF:=sd (FP.refl bd g vC vT vW w);clear hp;generalize hQ:StepPost bd g vC vT vW ({ p with nm:=x.f1 }) (fol code 2) w=Post;have HQ:=sd hQ;clear hQ;go_enter Tryz.func81,Tryz.ntmps81
  go_upto_region 1 with (fail)
  have hB1:=below_alloc (Below.refl w.heap.size w) (Obj.cells #[Value.int IntKind.i64 x.f0,Value.string x.f1,Value.int IntKind.i64 x.f2] 73);have b0:(w.alloc (Obj.cells #[Value.int IntKind.i64 x.f0,Value.string x.f1,Value.int IntKind.i64 x.f2] 73)).heap[w.heap.size]?=some (.cells #[Value.int IntKind.i64 x.f0,Value.string x.f1,Value.int IntKind.i64 x.f2] 73 (0,0)):=blk_new _ _;replace HP:=sd (HP.out.below hB1);replace HF:=sd (HF.out.below hB1 hbd);generalize w.alloc (Obj.cells #[Value.int IntKind.i64 x.f0,Value.string x.f1,Value.int IntKind.i64 x.f2] 73)=w1 at *;obtain ⟨gw,hgw⟩:∃ gw,gw=w.heap.size:=⟨_,rfl⟩
  have hgg:gw≠g:=by have:=blk_lt HP.out.blk;have:=hB1.size;intro h;rw [hgw] at h;exact absurd h (HNE.out)
  have HGN:=sd (show some gw≠Value.ownBlock vW from fun e=>by have:=HNW.out gw e.symm;omega);clear HNW;rw [← hgw] at b0 ⊢;have BW:=sd b0;have HB1:=sd hB1;clear b0 hB1 hgw;obtain ⟨⟨k0,k1,k2,k3,k4,k5,k6⟩,f0,f1,f2,f3,f4,f5,f6⟩:=HP.out.facts;rw [hst] at k5;obtain ⟨w0_,w1_,w2_,_,_,_⟩:=bk3 BW;go_wp2_with fail
  replace HP:=sd (HP.out.set 0 (.string x.f1) { p with nm:=x.f1 } rfl rfl rfl rfl);replace HF:=sd (FP.set (o:=0) HF.out HP.out.hbd (.string x.f1));generalize w1.setCell ⟨g,0,none⟩ (.string x.f1)=w2 at HP HF ⊢;refine (follow_calls _ 2 _).mono ?_;rintro e wn ⟨rfl,hd⟩;obtain ⟨⟨nd,rfl⟩⟩:=hd;replace HP:=sd (HP.out.below (pw_below_drewN (Below.refl _ _) nd));replace HF:=sd (HF.out.below (pw_below_drewN (Below.refl _ _) nd) hbd);generalize w2.drewN nd=w3 at HP HF ⊢;go_wp2_with fail
  rw [← HQ.out];exact ⟨by (try rfl),⟨_,_,_,HP.out⟩,HF.out⟩
theorem tail_7 (bd g:Nat) (p:PR) (vC vT vW:Value) (x:S73) (code:Bool) (w:World) (hp:RP w bd g p vC vT vW) (hbd:bd≤w.heap.size) (hst:p.st=7) :
    Calls Tryz.prog 115 #[.pointer (some ⟨g,0,none⟩),.agg #[.int .i64 x.f0,.string x.f1,.int .i64 x.f2],.bool code] w (StepPost bd g vC vT vW ({ p with acc:=x.f1 }) (fol code 8) w):=by
  have hmf:∀ (fn:Fn) (first cap:Array Value) (w:World),(Instr.makeFunc fn first cap).run Tryz.prog w=.ok (.func fn first cap) w:=fun _ _ _ _=>rfl
  have HP:=sd hp;have HNE:=sd (show ¬ w.heap.size=g from fun h=>by have:=blk_lt hp.blk;omega);have HNW:=sd (Kd.R_lt HP.out.rW);have HF:=sd (FP.refl bd g vC vT vW w);clear hp;generalize hQ:StepPost bd g vC vT vW ({ p with acc:=x.f1 }) (fol code 8) w=Post;have HQ:=sd hQ;clear hQ;go_enter Tryz.func115,Tryz.ntmps115
  go_upto_region 1 with (fail)
  have hB1:=below_alloc (Below.refl w.heap.size w) (Obj.cells #[Value.int IntKind.i64 x.f0,Value.string x.f1,Value.int IntKind.i64 x.f2] 73);have b0:(w.alloc (Obj.cells #[Value.int IntKind.i64 x.f0,Value.string x.f1,Value.int IntKind.i64 x.f2] 73)).heap[w.heap.size]?=some (.cells #[Value.int IntKind.i64 x.f0,Value.string x.f1,Value.int IntKind.i64 x.f2] 73 (0,0)):=blk_new _ _;replace HP:=sd (HP.out.below hB1);replace HF:=sd (HF.out.below hB1 hbd);generalize w.alloc (Obj.cells #[Value.int IntKind.i64 x.f0,Value.string x.f1,Value.int IntKind.i64 x.f2] 73)=w1 at *;obtain ⟨gw,hgw⟩:∃ gw,gw=w.heap.size:=⟨_,rfl⟩
  have hgg:gw≠g:=by have:=blk_lt HP.out.blk;have:=hB1.size;intro h;rw [hgw] at h;exact absurd h (HNE.out)
  have HGN:=sd (show some gw≠Value.ownBlock vW from fun e=>by have:=HNW.out gw e.symm;omega);clear HNW;rw [← hgw] at b0 ⊢;have BW:=sd b0;have HB1:=sd hB1;clear b0 hB1 hgw;obtain ⟨⟨k0,k1,k2,k3,k4,k5,k6⟩,f0,f1,f2,f3,f4,f5,f6⟩:=HP.out.facts;rw [hst] at k5;obtain ⟨w0_,w1_,w2_,_,_,_⟩:=bk3 BW;go_wp2_with fail
  replace HP:=sd (HP.out.set 2 (.string x.f1) { p with acc:=x.f1 } rfl rfl rfl rfl);replace HF:=sd (FP.set (o:=2) HF.out HP.out.hbd (.string x.f1));generalize w1.setCell ⟨g,2,none⟩ (.string x.f1)=w2 at HP HF ⊢;refine (follow_calls _ 8 _).mono ?_;rintro e wn ⟨rfl,hd⟩;obtain ⟨⟨nd,rfl⟩⟩:=hd;replace HP:=sd (HP.out.below (pw_below_drewN (Below.refl _ _) nd));replace HF:=sd (HF.out.below (pw_below_drewN (Below.refl _ _) nd) hbd);generalize w2.drewN nd=w3 at HP HF ⊢;go_wp2_with fail
  rw [← HQ.out];exact ⟨by (try rfl),⟨_,_,_,HP.out⟩,HF.out⟩
theorem tail_9 (bd g:Nat) (p:PR) (vC vT vW:Value) (x:S73) (code:Bool) (w:World) (hp:RP w bd g p vC vT vW) (hbd:bd≤w.heap.size) (hst:p.st=9) :
    Calls Tryz.prog 115 #[.pointer (some ⟨g,0,none⟩),.agg #[.int .i64 x.f0,.string x.f1,.int .i64 x.f2],.bool code] w (StepPost bd g vC vT vW ({ p with par:=x.f1 }) (fol code 13) w):=by
  have hmf:∀ (fn:Fn) (first cap:Array Value) (w:World),(Instr.makeFunc fn first cap).run Tryz.prog w=.ok (.func fn first cap) w:=fun _ _ _ _=>rfl
  have HP:=sd hp;have HNE:=sd (show ¬ w.heap.size=g from fun h=>by have:=blk_lt hp.blk;omega);have HNW:=sd (Kd.R_lt HP.out.rW);have HF:=sd (FP.refl bd g vC vT vW w);clear hp;generalize hQ:StepPost bd g vC vT vW ({ p with par:=x.f1 }) (fol code 13) w=Post;have HQ:=sd hQ;clear hQ;go_enter Tryz.func115,Tryz.ntmps115
  go_upto_region 1 with (fail)
  have hB1:=below_alloc (Below.refl w.heap.size w) (Obj.cells #[Value.int IntKind.i64 x.f0,Value.string x.f1,Value.int IntKind.i64 x.f2] 73);have b0:(w.alloc (Obj.cells #[Value.int IntKind.i64 x.f0,Value.string x.f1,Value.int IntKind.i64 x.f2] 73)).heap[w.heap.size]?=some (.cells #[Value.int IntKind.i64 x.f0,Value.string x.f1,Value.int IntKind.i64 x.f2] 73 (0,0)):=blk_new _ _;replace HP:=sd (HP.out.below hB1);replace HF:=sd (HF.out.below hB1 hbd);generalize w.alloc (Obj.cells #[Value.int IntKind.i64 x.f0,Value.string x.f1,Value.int IntKind.i64 x.f2] 73)=w1 at *;obtain ⟨gw,hgw⟩:∃ gw,gw=w.heap.size:=⟨_,rfl⟩
  have hgg:gw≠g:=by have:=blk_lt HP.out.blk;have:=hB1.size;intro h;rw [hgw] at h;exact absurd h (HNE.out)
  have HGN:=sd (show some gw≠Value.ownBlock vW from fun e=>by have:=HNW.out gw e.symm;omega);clear HNW;rw [← hgw] at b0 ⊢;have BW:=sd b0;have HB1:=sd hB1;clear b0 hB1 hgw;obtain ⟨⟨k0,k1,k2,k3,k4,k5,k6⟩,f0,f1,f2,f3,f4,f5,f6⟩:=HP.out.facts;rw [hst] at k5;obtain ⟨w0_,w1_,w2_,_,_,_⟩:=bk3 BW;go_wp2_with fail
  replace HP:=sd (HP.out.set 3 (.string x.f1) { p with par:=x.f1 } rfl rfl rfl rfl);replace HF:=sd (FP.set (o:=3) HF.out HP.out.hbd (.string x.f1));generalize w1.setCell ⟨g,3,none⟩ (.string x.f1)=w2 at HP HF ⊢;refine (follow_calls _ 13 _).mono ?_;rintro e wn ⟨rfl,hd⟩;obtain ⟨⟨nd,rfl⟩⟩:=hd;replace HP:=sd (HP.out.below (pw_below_drewN (Below.refl _ _) nd));replace HF:=sd (HF.out.below (pw_below_drewN (Below.refl _ _) nd) hbd);generalize w2.drewN nd=w3 at HP HF ⊢;go_wp2_with fail
  rw [← HQ.out];exact ⟨by (try rfl),⟨_,_,_,HP.out⟩,HF.out⟩
theorem tail_11 (bd g:Nat) (p:PR) (vC vT vW:Value) (x:S73) (code:Bool) (w:World) (hp:RP w bd g p vC vT vW) (hbd:bd≤w.heap.size) (hst:p.st=11) :
    Calls Tryz.prog 115 #[.pointer (some ⟨g,0,none⟩),.agg #[.int .i64 x.f0,.string x.f1,.int .i64 x.f2],.bool code] w (StepPost bd g vC vT vW (p) (fol (decide (x.f0=4) && (x.f1.toList == ([61]:List UInt8))) 12) w):=by
  have hmf:∀ (fn:Fn) (first cap:Array Value) (w:World),(Instr.makeFunc fn first cap).run Tryz.prog w=.ok (.func fn first cap) w:=fun _ _ _ _=>rfl
  have HP:=sd hp;have HNE:=sd (show ¬ w.heap.size=g from fun h=>by have:=blk_lt hp.blk;omega);have HNW:=sd (Kd.R_lt HP.out.rW);have HF:=sd (FP.refl bd g vC vT vW w);clear hp;generalize hQ:StepPost bd g vC vT vW (p) (fol (decide (x.f0=4) && (x.f1.toList == ([61]:List UInt8))) 12) w=Post;have HQ:=sd hQ;clear hQ;go_enter Tryz.func115,Tryz.ntmps115
  go_upto_region 1 with (fail)
  have hB1:=below_alloc (Below.refl w.heap.size w) (Obj.cells #[Value.int IntKind.i64 x.f0,Value.string x.f1,Value.int IntKind.i64 x.f2] 73);have b0:(w.alloc (Obj.cells #[Value.int IntKind.i64 x.f0,Value.string x.f1,Value.int IntKind.i64 x.f2] 73)).heap[w.heap.size]?=some (.cells #[Value.int IntKind.i64 x.f0,Value.string x.f1,Value.int IntKind.i64 x.f2] 73 (0,0)):=blk_new _ _;replace HP:=sd (HP.out.below hB1);replace HF:=sd (HF.out.below hB1 hbd);generalize w.alloc (Obj.cells #[Value.int IntKind.i64 x.f0,Value.string x.f1,Value.int IntKind.i64 x.f2] 73)=w1 at *;obtain ⟨gw,hgw⟩:∃ gw,gw=w.heap.size:=⟨_,rfl⟩
  have hgg:gw≠g:=by have:=blk_lt HP.out.blk;have:=hB1.size;intro h;rw [hgw] at h;exact absurd h (HNE.out)
  have HGN:=sd (show some gw≠Value.ownBlock vW from fun e=>by have:=HNW.out gw e.symm;omega);clear HNW;rw [← hgw] at b0 ⊢;have BW:=sd b0;have HB1:=sd hB1;clear b0 hB1 hgw;obtain ⟨⟨k0,k1,k2,k3,k4,k5,k6⟩,f0,f1,f2,f3,f4,f5,f6⟩:=HP.out.facts;rw [hst] at k5;obtain ⟨w0_,w1_,w2_,_,_,_⟩:=bk3 BW;by_cases ex:x.f0=4
  · have q1:decide (x.f0=4)=true:=decide_eq_true ex
    rw [q1,Bool.true_and] at HQ;go_wp2_with fail
    refine (follow_calls _ 12 _).mono ?_;rintro e wn ⟨rfl,hd⟩;obtain ⟨⟨nd,rfl⟩⟩:=hd;go_wp2_with fail
    rw [← HQ.out];exact ⟨by (try rfl),⟨_,_,_,HP.out.below (pw_below_drewN (Below.refl _ _) _)⟩,HF.out.below (pw_below_drewN (Below.refl _ _) _) hbd⟩
  have q1:decide (x.f0=4)=false:=decide_eq_false ex;rw [q1,Bool.false_and] at HQ;go_wp2_with fail
  refine (follow_calls _ 12 _).mono ?_;rintro e wn ⟨rfl,hd⟩;obtain ⟨⟨nd,rfl⟩⟩:=hd;go_wp2_with fail
  rw [← HQ.out];exact ⟨by (try rfl),⟨_,_,_,HP.out.below (pw_below_drewN (Below.refl _ _) _)⟩,HF.out.below (pw_below_drewN (Below.refl _ _) _) hbd⟩
end Go.Proofs.YtkbgkekegjfkfaaGreatDoor.A
namespace Go.Proofs.YtkbgkekegjfkfaaGreatDoor.B
open Go.RowKit WW WL WM
section
variable {P:Program} {md:Region.Mode} {ops:Array Oper} {Q:Exit→Act→World→Prop} {S:World→Prop} {ds:List Nat} {T:Bool×List (List Nat×List Nat)} {BB:List Nat} {oi:Oper} {v:Value} {fuel:Nat} {l l':Array Bool} {a a':Act} {w:World}
theorem pB (i N:Nat) (h:wpAnyLast P md ops Q S ds fuel l' a' w)
    (hi:ops[i]?=some oi:=by rfl) (hN:oi.dst=some N:=by rfl) (hl:l.setIfInBounds i true=l':=by (simp only [List.setIfInBounds_toArray,List.set_cons_zero,List.set_cons_succ];rfl))
    (hc:anyB md ops l l' i=true:=by kernel_rfl) (hQ:∀ c a w,Q (.panic c) (a.put oi.dst v) w→Q (.panic c) a w:=by exact (fun _ _ _ h=>h)) (hg:Region.wanted oi (yielded ops a.tmps)=true:=by rfl)
    (hy:∀ w,(execOp a.eval oi).run P w=.ok (.value v) w:=by (intro w';go_simp;with_reducible rfl))
    (ha:a.put (some N) v=a':=by (simp only [Act.put,List.setIfInBounds_toArray,List.set_cons_zero,List.set_cons_succ,i64_w,i32_w];rfl)):wpAnyLast P md ops Q S ds (fuel+1) l a w :=
  pure_ l' hi hN hc hQ (.inl ⟨hg,hy⟩) ha h
theorem tB (i N:Nat) (hS:S w) (h:wpAnyLast P md ops Q S ds fuel l' a' w)
    (hi:ops[i]?=some oi:=by rfl) (hN:oi.dst=some N:=by rfl) (hl:l.setIfInBounds i true=l':=by (simp only [List.setIfInBounds_toArray,List.set_cons_zero,List.set_cons_succ];rfl))
    (hc:takeB md ops ds l l' i=true:=by kernel_rfl) (hQ:∀ c a w,Q (.panic c) (a.put oi.dst v) w→Q (.panic c) a w:=by exact (fun _ _ _ h=>h)) (hg:Region.wanted oi (yielded ops a.tmps)=true:=by rfl)
    (hy:∀ w,S w→(execOp a.eval oi).run P w=.ok (.value v) w:=by (intro w' hs_;(try dsimp only at hs_);(try go_split_ands);go_simp;with_reducible rfl))
    (ha:a.put (some N) v=a':=by (simp only [Act.put,List.setIfInBounds_toArray,List.set_cons_zero,List.set_cons_succ,i64_w,i32_w];rfl)):wpAnyLast P md ops Q S ds (fuel+1) l a w :=
  take_ l' hi hN hc hQ (.inl ⟨hg,hy⟩) hS ha h
end
end Go.Proofs.YtkbgkekegjfkfaaGreatDoor.B
namespace Go.Proofs.YtkbgkekegjfkfaaGreatDoor.WW
open Go.RowKit
namespace Kd
section
variable {α:Type} {d:Kd α} {e base g n cap:Nat} {ok okp:Nat→Prop} {W:World} {xs:List α}
theorem R_elem (h:d.R e W base ok (.slice (some ⟨g,0,none⟩) n cap) xs) (z:α) (i:Int) (h0:0≤i) (h1:i < n) :
    ∃ c,c.length=d.sz∧d.M W base (fun k=>ok k∧k≠g) (xs.getD i.toNat z) c∧(∀ j u,c[j]?=some u→W.cell? ⟨g,i.toNat * d.sz+j,none⟩=some u)∧∀ j,W.frozen? ⟨g,i.toNat * d.sz+j,none⟩=false:=by
  obtain ⟨hn,hnc,hC⟩:=R_reads' h;obtain ⟨_,inner,ho,hr⟩:=h;have hil:i.toNat < xs.length:=by omega
  have hseg:i.toNat * d.sz+d.sz≤inner.length:=by rw [hr.1,← Nat.succ_mul];exact Nat.mul_le_mul_right _ hil
  have hM:=hr.2 i.toNat _ (List.getElem?_eq_getElem hil);refine ⟨(inner.drop (i.toNat * d.sz)).take d.sz,by rw [List.length_take,List.length_drop];omega,?_,fun j u hu=>?_,fun j=>?_⟩
  · rw [List.getD_eq_getElem?_getD,List.getElem?_eq_getElem hil]
    exact d.M_mono (fun k hk=>⟨hk.1,fun he=>hk.2 (by rw [he];simp [Value.ownBlock])⟩) hM
  · rw [List.getElem?_take] at hu
    split at hu
    · rw [List.getElem?_drop] at hu
      have:=ho.cells (g:=g) (by simp [Value.ownBlock]) _ u hu;rwa [add_plain] at this
    · cases hu
  · obtain ⟨cells,hc⟩:=own_typed ho g (by simp [Value.ownBlock])
    exact blk_frozen hc _
end
end Kd
end Go.Proofs.YtkbgkekegjfkfaaGreatDoor.WW
namespace Go.Proofs.YtkbgkekegjfkfaaGreatDoor.WW
open Go.RowKit
theorem ReadsRow.inner_ {α:Type} {R:α→List Value→Prop} {size:Nat} {w:World} {ad:Addr} {n:Nat} {ps:List α} (h:ReadsRow R size w (some ad) n ps) :
    ∃ inner,Reps R size ps inner∧∀ j u,inner[j]?=some u→w.cell? (ad.add j)=some u:=by
  have key:∀ m,m≤ps.length→∃ inner,Reps R size (ps.take m) inner∧∀ j u,inner[j]?=some u→w.cell? (ad.add j)=some u:=by
    intro m;induction m with
    | zero=>exact fun _=>⟨[],Reps.none _ _,fun j u hu=>by simp at hu⟩
    | succ m ih =>
      intro hm;obtain ⟨inner,hr,hc⟩:=ih (by omega);obtain ⟨ad',he,hcell⟩:=h.2.2 (by have:=h.1;omega);injection he with he
      subst he;obtain ⟨c,hcl,hp,hcc⟩:=hcell m _ (List.getElem?_eq_getElem (show m < ps.length by omega));refine ⟨inner++c,?_,fun j u hu=>?_⟩
      · rw [List.take_succ_eq_append_getElem (show m < ps.length by omega)]
        exact hr.snoc hp hcl
      · have hil:inner.length=m * size:=by rw [hr.1,List.length_take,Nat.min_eq_left (by omega)]
        rcases Nat.lt_or_ge j inner.length with hj | hj
        · rw [List.getElem?_append_left hj] at hu
          exact hc j u hu
        · rw [List.getElem?_append_right hj] at hu
          have:=hcc (j - inner.length) u hu;rwa [hil,Nat.add_sub_cancel' (by omega)] at this
  obtain ⟨inner,hr,hc⟩:=key ps.length (Nat.le_refl _);rw [List.take_length] at hr;exact ⟨inner,hr,hc⟩
end Go.Proofs.YtkbgkekegjfkfaaGreatDoor.WW
namespace Go.Proofs.YtkbgkekegjfkfaaGreatDoor.WW
open Go.RowKit
section
variable {P:Program} {ops:Array Oper} {o:Oper} {a:Act} {Q:Exit→Act→World→Prop} {Kc:Act→World→Prop}
namespace Kd
variable {α:Type}
theorem R_append_rows_step (d:Kd α) {Rr:α→List Value→Prop} {w0 W:World} (base:Nat) (hw:Region.wanted o (yielded ops a.tmps)=true) (s x:Operand) (t e:TypeId) (z:Value) (bytes:Nat)
    (ho:o.op=.call { callee:=.builtin .append,args:=#[s,x],argTypes:=#[t,t] })
    (ht:P.underlying t=some (.slice e)) (hinfo:(P.info? e).map (fun i=>(i.zero,i.size,i.bytes))=some (some z,d.sz,bytes)) (hz:z.cells.size=d.sz) (hs0:0 < d.sz) (hb0:0 < bytes)
    (v:Value) (xs ys:List α) (A:Option Addr) (m c:Nat) (ok okp:Nat→Prop) (hs:a.eval s=v) (hx:a.eval x=.slice A m c)
    (HO:d.R e W base ok v xs) (HR:ReadsRow Rr d.sz W A m ys) (hKM:∀ x cs,Rr x cs→d.M W base okp x cs) (hokp:∀ k,okp k→ok k∧some k≠v.ownBlock) (hfresh:∀ k,W.heap.size≤k→ok k)
    (HB:Below base w0 W) (hbase:base≤W.heap.size) (hl:(xs.length+m) * bytes≤140737488355328)
    (h:∀ v1 w1,d.R e w1 base ok v1 (xs++ys)→Below base w0 w1→W.grownBy w1 v.ownBlock→(v1.ownBlock=v.ownBlock∨∃ b,v1.ownBlock=some b∧W.heap.size≤b)→Kc (a.put o.dst v1) w1) :
    if Region.wanted o (yielded ops a.tmps)=true then Oper.wp P o a W Kc Q else Kc (a.put o.dst undef) W:=by
  obtain ⟨i0,hi,hzz⟩:=Option.map_eq_some_iff.1 hinfo;simp only [Prod.mk.injEq] at hzz
  obtain ⟨hz0,hz1,hz2⟩:=hzz;have hm:ys.length=m:=HR.1;have hlen:xs.length+m≤140737488355328:=Nat.le_trans (Nat.le_mul_of_pos_right _ hb0) hl;obtain ⟨hok,inner,hown,hr⟩:=HO
  have hrun:∃ v1 w1,(Builtin.append_ #[t,t] o.type #[v,.slice A m c]).run P W=.ok v1 w1∧d.R e w1 base ok v1 (xs++ys)∧W.grownBy w1 v.ownBlock∧(v1.ownBlock=v.ownBlock∨∃ b,v1.ownBlock=some b∧W.heap.size≤b):=by
    rcases A with _ | ad
    · have h0:m=0:=by
        rcases Nat.eq_zero_or_pos m with h0 | h0
        · exact h0
        · obtain ⟨ad,h,_⟩:=HR.2.2 h0
          cases h
      subst h0;obtain rfl:ys=[]:=List.eq_nil_of_length_eq_zero hm;refine ⟨v,W,?_,by rw [List.append_nil];exact ⟨hok,inner,hown,hr⟩,World.grownBy.refl W _,.inl rfl⟩;rcases hown.2 with ⟨rfl,hn⟩ | ⟨g,cap,cur,rfl,_,_,hnc,_⟩
      · simp [Builtin.append_,run_underlying ht,sizeOf,typeInfo,hi,Builtin.lenOf,Builtin.firstCells]
      · simp [Builtin.append_,run_underlying ht,sizeOf,typeInfo,hi,Builtin.lenOf,Builtin.firstCells,hnc,storeCells]
    · obtain ⟨news,hnr,hnc⟩:=ReadsRow.inner_ HR
      have hnM:Reps (d.M W base okp) d.sz ys news:=hnr.imp_ (fun p c hp=>hKM p c hp)
      have hone:∀ u∈news,u.oneCell'=true:=by
        intro u hu;obtain ⟨q,hq,rfl⟩:=List.mem_iff_getElem.1 hu
        have hql:q / d.sz < ys.length:=by
          rw [Nat.div_lt_iff_lt_mul hs0];rw [← hnM.1];exact hq
        have hc:=hnM.2 (q / d.sz) _ (List.getElem?_eq_getElem hql);refine d.K_one (d.K_of_M hc) _ ?_;rw [List.mem_iff_getElem?];refine ⟨q % d.sz,?_⟩;rw [List.getElem?_take,if_pos (Nat.mod_lt _ hs0),List.getElem?_drop,Nat.mul_comm,Nat.div_add_mod,List.getElem?_eq_getElem hq]
      obtain ⟨v1,w1,hrun,h2,hg,_,hat⟩:=run_append_own_at (P:=P) W base t o.type e i0 z d.sz bytes ht hi hz0 hz1 hz2 hz hs0 v xs.length inner hown ad m c news (by rw [hnM.1,hm]) hnc hone (by simp only [maxLen];omega) hl hbase
      have hat':v1.ownBlock=v.ownBlock∨∃ b,v1.ownBlock=some b∧W.heap.size≤b:=by
        rcases hat with hat | hat
        · exact .inl hat
        · exact .inr ⟨_,hat,Nat.le_refl _⟩
      have hne:∀ k,some k≠v.ownBlock→k < W.heap.size→some k≠v1.ownBlock:=by
        intro k hk hlt;rcases hat' with hat | ⟨b,hb,hle⟩
        · rw [hat];exact hk
        · rw [hb]
          intro he;injection he with he
          omega
      have step:∀ {q:α} {c:List Value} {o:Nat→Prop},d.M W base o q c→(∀ k,o k→ok k∧some k≠v.ownBlock)→d.M w1 base (fun k=>ok k∧some k≠v1.ownBlock) q c:=by
        intro q c o hq ho;have h1:=d.M_move (w1:=w1) (fun k hk=>hg.block k hk.2.2.1 (ho k hk.1).2) (d.M_bound hq);exact d.M_mono (fun k hk=>⟨(ho k hk.1).1,hne k (ho k hk.1).2 hk.2.2.1⟩) h1
      refine ⟨v1,w1,hrun,⟨fun k hk=>?_,inner++news,by rw [List.length_append,hm];exact h2,reps_append (hr.imp_ (fun _ _ hq=>step hq (fun _ hk=>hk))) (hnM.imp_ (fun _ _ hq=>step hq hokp))⟩,hg,hat'⟩;rcases hat' with hat | ⟨b,hb,hle⟩
      · exact hok k (hat ▸ hk)
      · rw [hb] at hk
        injection hk with hk
        exact hfresh k (by omega)
  obtain ⟨v1,w1,hr1,h1,hg,hat⟩:=hrun;rw [if_pos hw];unfold Oper.wp execOp;simp only [ho,resolve,invoke,builtin,Sem.run_bind,Sem.run_pure,Result.andThen_ok,List.map_toArray,List.map_cons,List.map_nil,hs,hx,hr1]
  exact h v1 w1 h1 (HB.grown hg hbase (own_base hown)) hg hat
end Kd
end
end Go.Proofs.YtkbgkekegjfkfaaGreatDoor.WW
namespace Go.Proofs.YtkbgkekegjfkfaaGreatDoor.WW
open Go.RowKit
namespace Kd
section
variable {P:Program} {ops:Array Oper} {rest:List Oper} {o:Oper} {a:Act} {Q:Exit→Act→World→Prop} {α:Type}
theorem R_append_rows (d:Kd α) {Rr:α→List Value→Prop} {w0 W:World} (base:Nat) (hgd:o.guard=none) (s x:Operand) (t e:TypeId) (z:Value) (bytes:Nat)
    (ho:o.op=.call { callee:=.builtin .append,args:=#[s,x],argTypes:=#[t,t] })
    (ht:P.underlying t=some (.slice e)) (hinfo:(P.info? e).map (fun i=>(i.zero,i.size,i.bytes))=some (some z,d.sz,bytes)) (hz:z.cells.size=d.sz) (hs0:0 < d.sz) (hb0:0 < bytes)
    (v:Value) (xs ys:List α) (A:Option Addr) (m c:Nat) (ok okp:Nat→Prop) (hs:a.eval s=v) (hx:a.eval x=.slice A m c)
    (HO:d.R e W base ok v xs) (HR:ReadsRow Rr d.sz W A m ys) (hKM:∀ x cs,Rr x cs→d.M W base okp x cs) (hokp:∀ k,okp k→ok k∧some k≠v.ownBlock) (hfresh:∀ k,W.heap.size≤k→ok k)
    (HB:Below base w0 W) (hbase:base≤W.heap.size) (hl:(xs.length+m) * bytes≤140737488355328)
    (h:∀ v1 w1,d.R e w1 base ok v1 (xs++ys)→Below base w0 w1→W.grownBy w1 v.ownBlock→(v1.ownBlock=v.ownBlock∨∃ b,v1.ownBlock=some b∧W.heap.size≤b)→wpList P ops Q rest (a.put o.dst v1) w1) :
    wpList P ops Q (o :: rest) a W:=by
  obtain ⟨i0,hi,hzz⟩:=Option.map_eq_some_iff.1 hinfo;simp only [Prod.mk.injEq] at hzz
  obtain ⟨hz0,hz1,hz2⟩:=hzz;have hm:ys.length=m:=HR.1;have hlen:xs.length+m≤140737488355328:=Nat.le_trans (Nat.le_mul_of_pos_right _ hb0) hl;obtain ⟨hok,inner,hown,hr⟩:=HO
  have hrun:∃ v1 w1,(Builtin.append_ #[t,t] o.type #[v,.slice A m c]).run P W=.ok v1 w1∧d.R e w1 base ok v1 (xs++ys)∧W.grownBy w1 v.ownBlock∧(v1.ownBlock=v.ownBlock∨∃ b,v1.ownBlock=some b∧W.heap.size≤b):=by
    rcases A with _ | ad
    · have h0:m=0:=by
        rcases Nat.eq_zero_or_pos m with h0 | h0
        · exact h0
        · obtain ⟨ad,h,_⟩:=HR.2.2 h0
          cases h
      subst h0;obtain rfl:ys=[]:=List.eq_nil_of_length_eq_zero hm;refine ⟨v,W,?_,by rw [List.append_nil];exact ⟨hok,inner,hown,hr⟩,World.grownBy.refl W _,.inl rfl⟩;rcases hown.2 with ⟨rfl,hn⟩ | ⟨g,cap,cur,rfl,_,_,hnc,_⟩
      · simp [Builtin.append_,run_underlying ht,sizeOf,typeInfo,hi,Builtin.lenOf,Builtin.firstCells]
      · simp [Builtin.append_,run_underlying ht,sizeOf,typeInfo,hi,Builtin.lenOf,Builtin.firstCells,hnc,storeCells]
    · obtain ⟨news,hnr,hnc⟩:=ReadsRow.inner_ HR
      have hnM:Reps (d.M W base okp) d.sz ys news:=hnr.imp_ (fun p c hp=>hKM p c hp)
      have hone:∀ u∈news,u.oneCell'=true:=by
        intro u hu;obtain ⟨q,hq,rfl⟩:=List.mem_iff_getElem.1 hu
        have hql:q / d.sz < ys.length:=by
          rw [Nat.div_lt_iff_lt_mul hs0];rw [← hnM.1];exact hq
        have hc:=hnM.2 (q / d.sz) _ (List.getElem?_eq_getElem hql);refine d.K_one (d.K_of_M hc) _ ?_;rw [List.mem_iff_getElem?];refine ⟨q % d.sz,?_⟩;rw [List.getElem?_take,if_pos (Nat.mod_lt _ hs0),List.getElem?_drop,Nat.mul_comm,Nat.div_add_mod,List.getElem?_eq_getElem hq]
      obtain ⟨v1,w1,hrun,h2,hg,_,hat⟩:=run_append_own_at (P:=P) W base t o.type e i0 z d.sz bytes ht hi hz0 hz1 hz2 hz hs0 v xs.length inner hown ad m c news (by rw [hnM.1,hm]) hnc hone (by simp only [maxLen];omega) hl hbase
      have hat':v1.ownBlock=v.ownBlock∨∃ b,v1.ownBlock=some b∧W.heap.size≤b:=by
        rcases hat with hat | hat
        · exact .inl hat
        · exact .inr ⟨_,hat,Nat.le_refl _⟩
      have hne:∀ k,some k≠v.ownBlock→k < W.heap.size→some k≠v1.ownBlock:=by
        intro k hk hlt;rcases hat' with hat | ⟨b,hb,hle⟩
        · rw [hat];exact hk
        · rw [hb]
          intro he;injection he with he
          omega
      have step:∀ {q:α} {c:List Value} {o:Nat→Prop},d.M W base o q c→(∀ k,o k→ok k∧some k≠v.ownBlock)→d.M w1 base (fun k=>ok k∧some k≠v1.ownBlock) q c:=by
        intro q c o hq ho;have h1:=d.M_move (w1:=w1) (fun k hk=>hg.block k hk.2.2.1 (ho k hk.1).2) (d.M_bound hq);exact d.M_mono (fun k hk=>⟨(ho k hk.1).1,hne k (ho k hk.1).2 hk.2.2.1⟩) h1
      refine ⟨v1,w1,hrun,⟨fun k hk=>?_,inner++news,by rw [List.length_append,hm];exact h2,reps_append (hr.imp_ (fun _ _ hq=>step hq (fun _ hk=>hk))) (hnM.imp_ (fun _ _ hq=>step hq hokp))⟩,hg,hat'⟩;rcases hat' with hat | ⟨b,hb,hle⟩
      · exact hok k (hat ▸ hk)
      · rw [hb] at hk
        injection hk with hk
        exact hfresh k (by omega)
  obtain ⟨v1,w1,hr1,h1,hg,hat⟩:=hrun;refine wpList_plain hgd fun K hK=>?_
  unfold Oper.wp execOp;simp only [ho,resolve,invoke,builtin,Sem.run_bind,Sem.run_pure,Result.andThen_ok,List.map_toArray,List.map_cons,List.map_nil,hs,hx,hr1]
  exact hK _ _ (h v1 w1 h1 (HB.grown hg hbase (own_base hown)) hg hat)
end
end Kd
end Go.Proofs.YtkbgkekegjfkfaaGreatDoor.WW
