-- By pack.py, a program of this session's.
import Derived.Test.YtmlcdpfcafmmcaaDoorX2
import Derived.Test.YtmlcdpfcafmmcaaDoorX3
import Derived.Test.YtmlcdpfcafmmcaaDoorX4
set_option linter.unusedVariables false
set_option linter.unusedSimpArgs false
namespace Go.Proofs.YtmlcdpfcafmmcaaDoor.A
open Go.RowKit B WW WL WM
attribute [local go_sem] max2_int min2_int max_two min_two max_three min_three max_four min_four
set_option maxHeartbeats 8000000
set_option maxRecDepth 100000
theorem ba_nil {s:ByteArray} (h:s.size=0):s=⟨#[]⟩:=by
 cases s with | mk d=>congr 1;exact Array.eq_empty_of_size_eq_zero h
def isLetB (c:UInt8):Bool:=(decide (97≤c.toNat) && decide (c.toNat≤122)) || ((decide (65≤c.toNat) && decide (c.toNat≤90)) || decide (c.toNat=95))
def isDigB (c:UInt8):Bool:=decide (48≤c.toNat) && decide (c.toNat≤57)
def isWdB (c:UInt8):Bool:=isLetB c || isDigB c
theorem every_wd (hF:∀ (c:UInt8) (w:World),Calls Tryd.prog 51 #[.int .u8 (c.toNat:Int)] w fun e w'=>e=.returned (.bool (isWdB c))∧Drawn0 w w') (s:ByteArray) (hs:s.size≤140737488351232) (w:World) :
  Calls Tryd.prog 50 #[.string s,.func (.func 51) #[] #[]] w fun e w'=>e=.returned (.bool (s.data.toList.all isWdB))∧Drawn0 w w':=by
 have HSZ:=sd (size_eq' s);have HF:=sd hF;clear hF;generalize hP:(fun e w'=>e=Ending.returned (.bool (s.data.toList.all isWdB))∧Drawn0 w w')=Post;have HP:=sd hP;clear hP;go_enter Tryd.func50,Tryd.ntmps50
 go_wp2_with fail
 go_loopw [8] (fun n_ wr=>∃ (i:Nat),i≤s.size∧n_=.int .i64 (i:Int)∧Aside0 (∀ j,(h:j < i)→(h':j < s.size)→isWdB s[j]=true)∧Drawn0 w wr) (fun n_ _=>(s.size - (RowKit.intOf n_).toNat))
 case atStart=>exact ⟨0,by omega,rfl,⟨fun j h=>by omega⟩,Drawn0.refl _⟩
 case round =>
  obtain ⟨i,hi,rfl,HU,HDr⟩:=hrel;rename World=>wr
  by_cases hlt:i < s.size
  ·have hlt':(i:Int) < (s.size:Int):=by omega
   go_wp2_with fail
   have HC:=HF.out s[i] wr
   cases hp:isWdB s[i]
   ·rw [hp] at HC;have HB:=sd (show s.data.toList.all isWdB=false from all_bad (by rw [← HSZ.out];exact hlt) (by rw [list_at s i hlt];exact hp));refine HC.mono ?_;rintro e w1 ⟨rfl,hd1⟩;obtain ⟨⟨n1,rfl⟩⟩:=hd1;clear HC;go_wp2_with fail
    rw [← HP.out];exact ⟨by rw [HB.out];(try rfl),HDr.step _⟩
   ·rw [hp] at HC
    have HU2:=sd (show ∀ j,(h:j < i+1)→(h':j < s.size)→isWdB s[j]=true from fun j h h'=>by
     rcases Nat.lt_or_ge j i with h1 | h1
     ·exact HU.out j h1 h'
     ·obtain rfl:j=i:=by omega
      exact hp)
    refine HC.mono ?_;rintro e w1 ⟨rfl,hd1⟩;obtain ⟨⟨n1,rfl⟩⟩:=hd1;clear HC HU;go_wp2_with fail
    go_roundw
    case rel=>exact ⟨i+1,by omega,by go_num,HU2,HDr.step _⟩
    case measure=>simp [RowKit.intOf];omega
  have hlt':¬ (i:Int) < (s.size:Int):=by omega
  obtain rfl:i=s.size:=by omega
  have hall:s.data.toList.all isWdB=true:=by
   rw [List.all_eq_true];intro x hx;obtain ⟨j,hj,rfl⟩:=List.getElem_of_mem hx;have hj2:j < s.size:=by rw [HSZ.out];exact hj
   rw [list_at s j hj2];exact HU.out j hj2 hj2
  have HL:=sd hall;clear hall;go_wp2_with fail
  rw [← HP.out];exact ⟨by rw [HL.out];(try rfl),HDr⟩
def codeW (l:List UInt8):Bool:=!l.isEmpty && (decide (l.length≤12) && l.all isWdB)
def words_Code.f (a0:ByteArray):Option (Bool):=if a0.size≤140737488351232 then some (codeW a0.data.toList) else none
theorem word_ret (Post:Ending→World→Prop) (T:Array Value) (W:World) (g:Nat) (kind:Int) (S:ByteArray) (i e pa pe:Int) (t4:T.getD 4 undef=.pointer (some ⟨g,0,none⟩)) (t5:T.getD 5 undef=.int .i64 e) (t6:T.getD 6 undef=.pointer (some ⟨g+1,0,none⟩))
  (k0:W.cell? ⟨g,0,none⟩=some (.int .i64 kind)) (k1:W.cell? ⟨g,1,none⟩=some (.string S)) (k2:W.cell? ⟨g,2,none⟩=some (.int .i64 i)) (k3:W.cell? ⟨g+1,0,none⟩=some (.int .i64 pa)) (k4:W.cell? ⟨g+1,1,none⟩=some (.int .i64 pe))
  (hp:Post (.returned (.tuple #[.agg #[.int .i64 kind,.string S,.int .i64 i],.int .i64 e,.agg #[.int .i64 pa,.int .i64 pe]])) W):bodyPost Tryd.prog Tryd.f66 Post .ret { tmps:=T,defers:=[] } W:=by
 rw [Array.getD_eq_getD_getElem?] at t4 t5 t6;exact bodyPost_ret (v:=.tuple #[.agg #[.int .i64 kind,.string S,.int .i64 i],.int .i64 e,.agg #[.int .i64 pa,.int .i64 pe]]) (by simp [results,Tryd.results66,go_sem,t4,t5,t6,k0,k1,k2,k3,k4]) rfl hp
def words_word.g (s:ByteArray) (i kind e most:Int):Option (Int×ByteArray×Int×Int×Int×Int) :=
 if i≤e∧e≤(s.size:Int) then some (kind,s.extract i.toNat e.toNat,i,e,if most < e - i then i else 0,if most < e - i then 9 else 0) else none
def words_word.h (k:Nat) (s:ByteArray) (i:Int):Option (Int×ByteArray×Int×Int×Int×Int) :=
 if bt s i=34 then (words_quoted.f k s i).bind fun q=>if q.2.2.2≠0 then some (3,q.1,i,q.2.1,q.2.2.1,q.2.2.2) else
  some (3,q.1,i,q.2.1,if 60 < (q.1.size:Int) then i else q.2.2.1,if 60 < (q.1.size:Int) then 9 else 0)
 else (words_signEnd.f k s i).bind fun e=>if e=i then some (4,⟨#[]⟩,i,e,i,5) else words_word.g s i 4 e 60
def num_Add.f (a0:Int) (a1:Int):Option (Int×Bool):=if ((decide ((wrap64 (a0+a1)) > a0)) != (decide (a1 > 0)))=true then (if a1=0 then (some (wrap64 (a0+a1),true)) else (some (0,false))) else (some (wrap64 (a0+a1),true))
theorem num_Add.calls (a0 a1 r1:Int) (r2:Bool) (w:World) (h:num_Add.f a0 a1=some (r1,r2)) :
  Calls Tryd.prog 102 #[.int .i64 a0,.int .i64 a1] w fun e w'=>e=.returned (.tuple #[.int .i64 r1,.bool r2])∧Drawn0 w w':=by
 have H:=h;clear h;unfold num_Add.f at H;replace H:=ifI H;rcases H with ⟨c3,H⟩ | ⟨c3,H⟩
 ·have c3b0:((decide ((wrap64 (a0+a1)) > a0)) != (decide (a1 > 0)))=true:=c3;(try (have c3b1:decide ((decide ((wrap64 (a0+a1)) > a0))=(decide (a1 > 0)))=false:=by simpa using c3))
  (try (have c3b2:((decide ((wrap64 (a0+a1)) > a0)) == (decide (a1 > 0)))=false:=by simpa using c3))
  (try (have c3b3:¬ ((decide ((wrap64 (a0+a1)) > a0))=(decide (a1 > 0))):=by simpa using c3))
  clear c3;replace H:=ifI H;rcases H with ⟨c4,H⟩ | ⟨c4,H⟩
  ·obtain ⟨c4b0,c4b1⟩:=eqI c4;clear c4;simp only [Option.some.injEq,Prod.mk.injEq] at H
   obtain ⟨rfl,rfl⟩:=H;go_enter Tryd.func102,Tryd.ntmps102
   go_wp2
   go_ret2
   exact ⟨zq1,zq2⟩
  obtain ⟨c4b0,c4b1⟩:=neI c4;simp only [Option.some.injEq,Prod.mk.injEq] at H
  obtain ⟨rfl,rfl⟩:=H;go_enter Tryd.func102,Tryd.ntmps102
  go_wp2
  go_ret2
  exact ⟨zq1,zq2⟩
 have c3b0:((decide ((wrap64 (a0+a1)) > a0)) != (decide (a1 > 0)))=false:=by simpa using c3
 (try (have c3b1:decide ((decide ((wrap64 (a0+a1)) > a0))=(decide (a1 > 0)))=true:=by simpa using c3))
 (try (have c3b2:((decide ((wrap64 (a0+a1)) > a0)) == (decide (a1 > 0)))=true:=by simpa using c3))
 clear c3;simp only [Option.some.injEq,Prod.mk.injEq] at H
 obtain ⟨rfl,rfl⟩:=H;go_enter Tryd.func102,Tryd.ntmps102
 go_wp2
 go_ret2
 exact ⟨zq1,zq2⟩
def num_Sub.f (a0:Int) (a1:Int):Option (Int×Bool):=if ((decide ((wrap64 (a0 - a1)) < a0)) != (decide (a1 > 0)))=true then (if a1=0 then (some (wrap64 (a0 - a1),true)) else (some (0,false))) else (some (wrap64 (a0 - a1),true))
theorem num_Sub.calls (a0 a1 r1:Int) (r2:Bool) (w:World) (h:num_Sub.f a0 a1=some (r1,r2)) :
  Calls Tryd.prog 103 #[.int .i64 a0,.int .i64 a1] w fun e w'=>e=.returned (.tuple #[.int .i64 r1,.bool r2])∧Drawn0 w w':=by
 have H:=h;clear h;unfold num_Sub.f at H;replace H:=ifI H;rcases H with ⟨c3,H⟩ | ⟨c3,H⟩
 ·have c3b0:((decide ((wrap64 (a0 - a1)) < a0)) != (decide (a1 > 0)))=true:=c3;(try (have c3b1:decide ((decide ((wrap64 (a0 - a1)) < a0))=(decide (a1 > 0)))=false:=by simpa using c3))
  (try (have c3b2:((decide ((wrap64 (a0 - a1)) < a0)) == (decide (a1 > 0)))=false:=by simpa using c3))
  (try (have c3b3:¬ ((decide ((wrap64 (a0 - a1)) < a0))=(decide (a1 > 0))):=by simpa using c3))
  clear c3;replace H:=ifI H;rcases H with ⟨c4,H⟩ | ⟨c4,H⟩
  ·obtain ⟨c4b0,c4b1⟩:=eqI c4;clear c4;simp only [Option.some.injEq,Prod.mk.injEq] at H
   obtain ⟨rfl,rfl⟩:=H;go_enter Tryd.func103,Tryd.ntmps103
   go_wp2
   go_ret2
   exact ⟨zq1,zq2⟩
  obtain ⟨c4b0,c4b1⟩:=neI c4;simp only [Option.some.injEq,Prod.mk.injEq] at H
  obtain ⟨rfl,rfl⟩:=H;go_enter Tryd.func103,Tryd.ntmps103
  go_wp2
  go_ret2
  exact ⟨zq1,zq2⟩
 have c3b0:((decide ((wrap64 (a0 - a1)) < a0)) != (decide (a1 > 0)))=false:=by simpa using c3
 (try (have c3b1:decide ((decide ((wrap64 (a0 - a1)) < a0))=(decide (a1 > 0)))=true:=by simpa using c3))
 (try (have c3b2:((decide ((wrap64 (a0 - a1)) < a0)) == (decide (a1 > 0)))=true:=by simpa using c3))
 clear c3;simp only [Option.some.injEq,Prod.mk.injEq] at H
 obtain ⟨rfl,rfl⟩:=H;go_enter Tryd.func103,Tryd.ntmps103
 go_wp2
 go_ret2
 exact ⟨zq1,zq2⟩
def num_Parse.f (a0:ByteArray) (a1 a2:Int):Option (Int×Int):=if a0.size≤140737488351232 then some (parseL a0.data.toList a1 a2) else none
structure FB (bd g:Nat) (v:Value) (w w':World):Prop where
  b:Below bd w w'
  fr:∀ i,i < w.heap.size→i≠g→some i≠v.ownBlock→w'.heap[i]?=w.heap[i]?
theorem FB.refl (bd g:Nat) (v:Value) (w:World):FB bd g v w w:=⟨Below.refl bd w,fun _ _ _ _=>rfl⟩
theorem FB.drew {bd g:Nat} {v:Value} {w w1:World} (h:FB bd g v w w1):FB bd g v w w1.drew:=⟨below_drew1 h.b,h.fr⟩
theorem FB.drewN {bd g:Nat} {v:Value} {w w1:World} (h:FB bd g v w w1) (n:Nat):FB bd g v w (w1.drewN n):=⟨pw_below_drewN h.b n,h.fr⟩
theorem FB.setX {bd g o gb:Nat} {v:Value} {w w1:World} (h:FB bd g v w w1) (hg:bd≤gb) (hn:w.heap.size≤gb) (u:Value):FB bd g v w (w1.setCell ⟨gb,o,none⟩ u) :=
  ⟨below_setN h.b hg u,fun i h1 h2 h3=>(Below.heap_setCell _ _ _ i (by dsimp only;omega)).trans (h.fr i h1 h2 h3)⟩
theorem FB.trans {bd g:Nat} {v:Value} {w w1 w2:World} (h:FB bd g v w w1) (k:FB bd g v w1 w2):FB bd g v w w2 :=
  ⟨h.b.trans k.b,fun i h1 h2 h3=>(k.fr i (Nat.lt_of_lt_of_le h1 h.b.size) h2 h3).trans (h.fr i h1 h2 h3)⟩
theorem FB.grown {bd g:Nat} {v:Value} {w w1 w2:World} (h:FB bd g v w w1) (hb:Below bd w1 w2) (hg:w1.grownBy w2 v.ownBlock):FB bd g v w w2 :=
  ⟨h.b.trans hb,fun i h1 h2 h3=>(hg.block i (Nat.lt_of_lt_of_le h1 h.b.size) h3).trans (h.fr i h1 h2 h3)⟩
theorem digit_any (c:Int) (w:World):Calls Tryd.prog 105 #[.int .i32 c] w fun e w'=>e=.returned (.bool (decide (48≤c) && decide (c≤57)))∧w=w':=by
 by_cases h1:48≤c
 ·go_enter Tryd.func105,Tryd.ntmps105
  go_wp2
  go_ret
  exact ⟨ret_bool (by simp [h1]),rfl⟩
 go_enter Tryd.func105,Tryd.ntmps105
 go_wp2
 go_ret
 exact ⟨ret_bool (by rw [decide_eq_false (show ¬ 48≤c by omega)];rfl),rfl⟩
theorem split_any (s:ByteArray) (hs:s.size≤140737488351232) (w:World):Calls Tryd.prog 88 #[.string s] w fun e w'=>e=.returned (.tuple #[.string (ofL (splitL s.data.toList).1),.string (ofL (splitL s.data.toList).2.1),.bool (splitL s.data.toList).2.2])∧Below w.heap.size w w':=by
 have HSZ:=sd (size_eq' s);generalize hP:(fun e w'=>e=Ending.returned (.tuple #[.string (ofL (splitL s.data.toList).1),.string (ofL (splitL s.data.toList).2.1),.bool (splitL s.data.toList).2.2])∧Below w.heap.size w w')=Post;have HP:=sd hP;clear hP;have HB0:=sd (show ∀ q p,Below w.heap.size w ((w.drewN q).iter s p) from fun q p=>(pw_below_drewN (Below.refl _ _) q).alloc (Nat.le_refl _) _);go_enter Tryd.func88,Tryd.ntmps88
 go_wp2_with fail
 go_loopg [2,3,5,6] s.size (fun g v2 v3 v5 v6 wr=>∃ (p:Nat) (whole rest:ByteArray) (points after:Int),p+g=s.size∧v2=.string whole∧v3=.string rest∧v5=.int .i64 points∧v6=.int .i32 after∧(∃ q,wr=(w.iter s p).drewN q)∧Aside0 (SInv s p whole rest points after))
 case atStart=>exact ⟨0,⟨#[]⟩,⟨#[]⟩,0,0,by omega,rfl,rfl,rfl,rfl,⟨0,rfl⟩,⟨.inl ⟨rfl,rfl,rfl,fun j h=>by omega,fun _=>rfl,fun h=>absurd rfl h⟩⟩⟩
 case round =>
  obtain ⟨p,whole,rest,points,after,hg,rfl,rfl,rfl,rfl,⟨q,rfl⟩,HI⟩:=hrel
  cases gk with
  | zero =>
   obtain rfl:p=s.size:=by omega
   have hnx:=fun ty=>show (Instr.next (.pointer (some ⟨w.heap.size,0,none⟩)) true ty).run Tryd.prog ((w.iter s s.size).drewN q)=_ from run_next_end (P:=Tryd.prog) (w.drewN q) s s.size ty (Nat.lt_irrefl _)
   obtain ⟨F0,F1⟩:=HI.out.fin;by_cases h0:points=0
   ·have hf:=F0 h0;have HF:=sd hf;subst h0;clear F0 F1 hf
    have hrest:rest.toList=[]:=by
     rcases HI.out with ⟨_,_,h3,_⟩ | ⟨h,_⟩
     ·rw [ByteArray.toList_eq];exact h3
     ·exact absurd h (by decide)
    have HR:=sd (show rest=ofL [] from ofL_of (by rw [← ByteArray.toList_eq];exact hrest));go_wp2_with fail
    refine (digit_any after _).mono ?_;rintro e w' ⟨rfl,rfl⟩;generalize (decide (48≤after) && decide (after≤57))=D at *
    cases D
    ·go_wp2_with fail
     go_ret3
     rw [← HP.out];exact ⟨by rw [HF.out,HR.out,ofL_data];(try rfl),zq6⟩
    ·by_cases hw:s.toList=[]
     ·have HW:=sd (show s.data.toList=[] by rw [← ByteArray.toList_eq];exact hw);go_wp2_with fail
      go_ret3
      rw [← HP.out];exact ⟨by rw [HF.out,HR.out,ofL_data,HW.out];(try rfl),zq6⟩
     have HW:=sd (show decide (s.data.toList≠[])=true by rw [decide_eq_true_iff,← ByteArray.toList_eq];exact hw);have hw2:(!s.toList.isEmpty)=true:=by simpa using hw
     go_wp2_with fail
     go_ret3
     rw [← HP.out];exact ⟨by rw [HF.out,HR.out,ofL_data,HW.out];(try rfl),zq6⟩
   obtain ⟨hp1,hf⟩:=F1 h0;have HF:=sd hf;subst hp1;clear F0 F1 hf h0;have hq1:whole=ofL whole.data.toList:=(ofL_data _).symm;have hq2:rest=ofL rest.data.toList:=(ofL_data _).symm;have HQ1:=sd hq1;have HQ2:=sd hq2;clear hq1 hq2;go_wp2_with fail
   refine (digit_any after _).mono ?_;rintro e w' ⟨rfl,rfl⟩;generalize (decide (48≤after) && decide (after≤57))=D at *
   cases D
   ·go_wp2_with fail
    go_ret3
    rw [← HP.out];exact ⟨by rw [HF.out,ofL_data,ofL_data];(try rfl),zq6⟩
   ·by_cases hw:whole.toList=[]
    ·have HW:=sd (show decide (whole.data.toList≠[])=false by rw [← ByteArray.toList_eq,hw];rfl);go_wp2_with fail
     go_ret3
     rw [← HP.out];exact ⟨by rw [HF.out,ofL_data,ofL_data,HW.out];(try rfl),zq6⟩
    have HW:=sd (show decide (whole.data.toList≠[])=true by rw [decide_eq_true_iff,← ByteArray.toList_eq];exact hw);have hw2:(!whole.toList.isEmpty)=true:=by simpa using hw
    by_cases hr:rest.toList=[]
    ·have HR:=sd (show decide (rest.data.toList≠[])=false by rw [← ByteArray.toList_eq,hr];rfl);go_wp2_with fail
     go_ret3
     rw [← HP.out];exact ⟨by rw [HF.out,ofL_data,ofL_data,HW.out,HR.out];(try rfl),zq6⟩
    have HR:=sd (show decide (rest.data.toList≠[])=true by rw [decide_eq_true_iff,← ByteArray.toList_eq];exact hr);have hr2:(!rest.toList.isEmpty)=true:=by simpa using hr
    go_wp2_with fail
    go_ret3
    rw [← HP.out];exact ⟨by rw [HF.out,ofL_data,ofL_data,HW.out,HR.out];(try rfl),zq6⟩
  | succ g =>
   have hlt:p < s.size:=by omega
   by_cases hasc:(s[p].toNat:Int) < 128
   ·have hnx:=fun ty=>show (Instr.next (.pointer (some ⟨w.heap.size,0,none⟩)) true ty).run Tryd.prog ((w.iter s p).drewN q)=.ok _ ((w.iter s (p+1)).drewN q) from run_next_ascii (P:=Tryd.prog) (w.drewN q) s p ty hlt (by omega)
    have HDi:=sd (isDig_eq s[p]);by_cases hd:isDig s[p]=true
    ·have HN:=sd (HI.out.digit hlt hd);obtain ⟨d1,d2⟩:=(isDig_iff _).mp hd;clear hd HDi;generalize (s[p].toNat:Int)=c at *;have hda:=fun W=>digit_any c W
     rw [decide_eq_true d1,decide_eq_true d2] at hda;have HDa:=sd hda;clear hda;go_wp2_with fail
     refine (HDa.out _).mono ?_;rintro e w' ⟨rfl,rfl⟩;go_wp2_with fail
     go_roundg g
     case rel=>exact ⟨p+1,whole,rest,points,c,by omega,rfl,rfl,rfl,rfl,⟨_,rfl⟩,HN⟩
     case measure=>omega
    have hd':isDig s[p]=false:=Bool.eq_false_iff.mpr hd;by_cases h46:s[p]=46∧points=0
    ·obtain ⟨e46,rfl⟩:=h46;have HN:=sd (HI.out.point hlt e46);have ec:(s[p].toNat:Int)=46:=by rw [e46];rfl
     clear hd hd' HDi e46;generalize (s[p].toNat:Int)=c at *;subst ec;have HDa:=sd (fun W=>digit_any 46 W);go_wp2_with fail
     refine (HDa.out _).mono ?_;rintro e w' ⟨rfl,rfl⟩;go_wp2_with fail
     go_region
     go_wp2_with fail
     go_roundg g
     case rel=>exact ⟨p+1,s.extract 0 p,s.extract (p+1) s.size,1,46,by omega,rfl,rfl,rfl,rfl,⟨q+1,rfl⟩,HN⟩
     case measure=>omega
    have HB:=sd (HI.out.bad hlt hd' (fun e h=>h46 ⟨e,h⟩))
    have h46':((s[p].toNat:Int) == 46)=false∨((s[p].toNat:Int) == 46)=true∧(points == 0)=false:=by
     by_cases e:s[p]=46
     ·exact .inr ⟨by rw [e];rfl,by rw [beq_eq_false_iff_ne];exact fun h=>h46 ⟨e,h⟩⟩
     exact .inl (by rw [beq_eq_false_iff_ne];exact fun h=>e ((byte_is s[p] 46).mp h))
    have hda:=fun W=>digit_any (s[p].toNat:Int) W
    rw [← HDi.out,hd'] at hda;have HDa:=sd hda;clear hd hd' h46 hda HDi;generalize (s[p].toNat:Int)=c at *;rcases h46' with h1 | ⟨h1,h2⟩
    all_goals
     go_wp2_with fail
     refine (HDa.out _).mono ?_;rintro e w' ⟨rfl,rfl⟩;go_wp2_with fail
     go_ret3
     rw [← HP.out];exact ⟨by rw [HB.out];(try rfl),zq6⟩
   obtain ⟨c,width,hdc,hc⟩:=decode_over s p hlt (by omega);have hnx:=fun ty=>show (Instr.next (.pointer (some ⟨w.heap.size,0,none⟩)) true ty).run Tryd.prog ((w.iter s p).drewN q)=.ok _ ((w.iter s (p+width)).drewN q) from run_next_over (P:=Tryd.prog) (w.drewN q) s p ty hlt hdc
   have hd':isDig s[p]=false:=by rw [Bool.eq_false_iff];intro h;have:=(isDig_iff _).mp h;omega
   have HB:=sd (HI.out.bad hlt hd' (fun e=>by rw [e] at hasc;exact absurd (by decide) hasc));have h1:((c:Int) == 46)=false:=by rw [beq_eq_false_iff_ne];omega
   have hda:=fun W=>digit_any (c:Int) W
   rw [decide_eq_false (show ¬ (c:Int)≤57 by omega),Bool.and_false] at hda;have HDa:=sd hda;clear hdc hd' hasc hc hda;go_wp2_with fail
   refine (HDa.out _).mono ?_;rintro e w' ⟨rfl,rfl⟩;go_wp2_with fail
   go_ret3
   rw [← HP.out];exact ⟨by rw [HB.out];(try rfl),zq6⟩
def money_split.f (a0:ByteArray):Option (ByteArray×ByteArray×Bool):=if a0.size≤140737488351232 then some (ofL (splitL a0.data.toList).1,ofL (splitL a0.data.toList).2.1,(splitL a0.data.toList).2.2) else none
theorem money_split.calls (a0 r1 r2:ByteArray) (r3:Bool) (w:World) (h:money_split.f a0=some (r1,r2,r3)) :
  Calls Tryd.prog 88 #[.string a0] w fun e w'=>e=.returned (.tuple #[.string r1,.string r2,.bool r3])∧Below w.heap.size w w':=by
 unfold money_split.f at h;split at h
 ·rename_i hs
  simp only [Option.some.injEq,Prod.mk.injEq] at h
  obtain ⟨rfl,rfl,rfl⟩:=h;exact split_any a0 hs w
 ·cases h
def money_plain.l0:Nat→ByteArray→Option (ByteArray)
 | 0,_=>none
 | k+1,x0=>if (x0.size:Int) > 1 then (if 0 < (x0.size:Int) then (if (bt x0 0)=48 then (if 1≤(x0.size:Int) then (money_plain.l0 k (x0.extract 1 x0.size)) else (none)) else (some x0)) else (none)) else (some x0)
def money_plain.f (k:Nat) (a0:ByteArray):Option (ByteArray):=money_plain.l0 k a0
theorem money_plain.calls (k:Nat) (a0 r:ByteArray) (w:World) (h:money_plain.f k a0=some r) :
  Calls Tryd.prog 89 #[.string a0] w fun e w'=>e=.returned (.string r)∧Drawn0 w w':=by
 have H:=h;clear h;unfold money_plain.f at H;have H':=sd H;clear H;go_enter Tryd.func89,Tryd.ntmps89
 go_wp2
 go_loopg [0] k (fun kq v0 w'=>∃ (x0_1:ByteArray),v0=.string x0_1∧Aside0 (money_plain.l0 kq x0_1=some r)∧Aside0 (kq≤k)∧Drawn0 w w')
 case atStart=>exact ⟨(a0),zq1,H',⟨Nat.le_refl _⟩,zq2⟩
 case round =>
  clear H';obtain ⟨x0_1,rfl,HA,HK1,⟨m1,rfl⟩⟩:=hrel
  cases gk with
  | zero=>exact absurd HA.out (by simp [money_plain.l0])
  | succ k1 =>
   have H:=HA.out;clear HA;simp only [money_plain.l0] at H
   replace H:=ifI H;rcases H with ⟨c2,H⟩ | ⟨c2,H⟩
   ·have c2b0:decide (1 < (x0_1.size:Int))=true:=decide_eq_true c2;have c2b1:decide (1 < x0_1.size)=true:=decide_eq_true (by omega);clear c2;replace H:=ifI H;rcases H with ⟨c3,H⟩ | ⟨c3,H⟩
    ·have c3b0:decide (0 < (x0_1.size:Int))=true:=decide_eq_true c3;have c3b1:decide (0 < x0_1.size)=true:=decide_eq_true (by omega);clear c3;replace H:=ifI H;rcases H with ⟨c5,H⟩ | ⟨c5,H⟩
     ·obtain ⟨c5b0,c5b1⟩:=eqI c5;clear c5;replace H:=ifI H;rcases H with ⟨c6,H⟩ | ⟨c6,H⟩
      ·have c6b0:=eq_true c6;have c6b1:decide (1≤(x0_1.size:Int))=true:=decide_eq_true c6;clear c6;have H':=sd H;clear H;have p4:0≤(0:Int):=(by omega)
       have q4:0 < x0_1.size:=(by have:(0:Int) < (x0_1.size:Int):=od;omega)
       have hx4:∀ h:0 < x0_1.size,((x0_1[0]'h).toNat:Int)=bt x0_1 0:=bt_at x0_1 0;clear p4;have qi4:(0 < (x0_1.size:Int))=True:=eq_true (od);replace q4:=eq_true q4;go_wp2
       go_roundg k1
       case measure=>have:=HK1.out;omega
       case rel=>exact ⟨(x0_1.extract 1 x0_1.size),zq1,H',⟨by have:=HK1.out;omega⟩,zq2⟩
      exact absurd H (by simp)
     obtain ⟨c5b0,c5b1⟩:=neI c5;obtain rfl:=Option.some.inj H;have p4:0≤(0:Int):=(by omega)
     have q4:0 < x0_1.size:=(by have:(0:Int) < (x0_1.size:Int):=od;omega)
     have hx4:∀ h:0 < x0_1.size,((x0_1[0]'h).toNat:Int)=bt x0_1 0:=bt_at x0_1 0;clear p4;have qi4:(0 < (x0_1.size:Int))=True:=eq_true (od);replace q4:=eq_true q4;go_wp2
     go_ret
     exact ⟨zq1,zq2⟩
    exact absurd H (by simp)
   have c2b0:decide (1 < (x0_1.size:Int))=false:=decide_eq_false c2;have c2b1:decide (1 < x0_1.size)=false:=decide_eq_false (by omega);clear c2;obtain rfl:=Option.some.inj H;go_wp2
   go_ret
   exact ⟨zq1,zq2⟩
mutual
def money_Parse.j0:Nat→ByteArray→Int→ByteArray→Bool→Option (Int×Int)
 | 0,_,_,_,_=>none
 | k+1,x0,x1,x6,x19=>if x19=true then (if 1≤(x0.size:Int) then (money_Parse.j1 k (x0.extract 1 x0.size) x1 (⟨#[45]⟩:ByteArray)) else (none)) else (money_Parse.j1 k x0 x1 x6)
def money_Parse.j1:Nat→ByteArray→Int→ByteArray→Option (Int×Int)
 | 0,_,_,_=>none
 | k+1,x0,x1,x6=>(money_split.f x0).bind fun bt201=>(if bt201.2.2=true then (if (bt201.2.1.size:Int)=x1 then ((money_plain.f k bt201.1).bind fun t204=>(money_Parse.j2 k x6 bt201.1 bt201.2.1 (bt201.1.toList != t204.toList))) else (money_Parse.j2 k x6 bt201.1 bt201.2.1 true)) else (money_Parse.j2 k x6 bt201.1 bt201.2.1 true))
def money_Parse.j2:Nat→ByteArray→ByteArray→ByteArray→Bool→Option (Int×Int)
 | 0,_,_,_,_=>none
 | k+1,x6,x7,x8,x41=>if x41=true then (some (0,5)) else (if x7.size+x8.size≤9223372036854775807 then ((money_plain.f k (x7++x8)).bind fun t205=>(if x6.size+t205.size≤9223372036854775807 then ((num_Parse.f (x6++t205) (-1000000000000000) 1000000000000000).bind fun bt206=>(if bt206.2=3 then (some (0,4)) else (some (bt206.1,bt206.2)))) else (none))) else (none))
end
def money_Parse.f (k:Nat) (a0:ByteArray) (a1:Int):Option (Int×Int):=(money_fits.f a1).bind fun t200=>(if t200=true then (if a0.toList=([]:List UInt8) then (money_Parse.j0 k a0 a1 (⟨#[]⟩:ByteArray) false) else (if 0 < (a0.size:Int) then (money_Parse.j0 k a0 a1 (⟨#[]⟩:ByteArray) ((bt a0 0) == 45)) else (none))) else (some (0,2)))
mutual
def days_Of.j0:Nat→Bool→Int→Int→Int→Option (Int×Int)
 | 0,_,_,_,_=>none
 | k+1,x27,x209000,x209001,x209002=>if x27=true then (some (0,11)) else ((days_before.f x209000).bind fun t210=>(days_Of.l0 k (wrap64 ((wrap64 (t210+x209002)) - 1)) 1 x209000 x209001 x209002))
def days_Of.l0:Nat→Int→Int→Int→Int→Int→Option (Int×Int)
 | 0,_,_,_,_,_=>none
 | k+1,x2,x4,x209000,x209001,x209002=>if x4 < x209001 then ((days_Length.f x209000 x4).bind fun t211=>(days_Of.l0 k (wrap64 (x2+t211)) (wrap64 (x4+1)) x209000 x209001 x209002)) else (some (x2,0))
end
def days_Of.f (k:Nat) (a0_0:Int) (a0_1:Int) (a0_2:Int):Option (Int×Int):=if a0_0 < 1900 then (days_Of.j0 k true a0_0 a0_1 a0_2) else (if a0_0 > 2199 then (days_Of.j0 k true a0_0 a0_1 a0_2) else (if a0_2 < 1 then (days_Of.j0 k true a0_0 a0_1 a0_2) else ((days_Length.f a0_0 a0_1).bind fun t209=>(days_Of.j0 k (decide (a0_2 > t209)) a0_0 a0_1 a0_2))))
end Go.Proofs.YtmlcdpfcafmmcaaDoor.A
namespace Go.Proofs.YtmlcdpfcafmmcaaDoor.A
open Go.RowKit B WW WL WM
theorem zq11 {P:Prop} (h:P:=by (with_reducible repeat (first | refine blk_drewN ?_ _ | refine blk_drew ?_ | refine blk_alloc ?_ _));exact BK208.out):P:=h
theorem zq66 {P:Prop} (h:P:=by (with_reducible repeat (first | refine blk_drewN ?_ _ | refine blk_drew ?_ | refine blk_alloc ?_ _));exact BK119.out):P:=h
theorem zq69 {P:Prop} (h:P:=by (with_reducible repeat (first | refine blk_drewN ?_ _ | refine blk_drew ?_ | refine blk_alloc ?_ _));refine blk_far ?_ NB119_125.out _;(with_reducible repeat (first | refine blk_drewN ?_ _ | refine blk_drew ?_ | refine blk_alloc ?_ _));refine blk_far ?_ NB119_125.out _;(with_reducible repeat (first | refine blk_drewN ?_ _ | refine blk_drew ?_ | refine blk_alloc ?_ _));refine blk_far ?_ NB119_125.out _;(with_reducible repeat (first | refine blk_drewN ?_ _ | refine blk_drew ?_ | refine blk_alloc ?_ _));refine blk_far ?_ NB119_125.out _;(with_reducible repeat (first | refine blk_drewN ?_ _ | refine blk_drew ?_ | refine blk_alloc ?_ _));exact BK119.out):P:=h
end Go.Proofs.YtmlcdpfcafmmcaaDoor.A
namespace Go.Proofs.YtmlcdpfcafmmcaaDoor.B
open Go.RowKit
theorem any_drewN {W:World} {a:Addr} {n:Nat} (h:∃ x,W.cell? a=some x):∃ x,(W.drewN n).cell? a=some x:=h
theorem has_drewN {W:World} {a:Addr} {n:Nat} {v:Value} (h:W.cell? a=some v):(W.drewN n).cell? a=some v:=h
end Go.Proofs.YtmlcdpfcafmmcaaDoor.B
namespace Go.Proofs.YtmlcdpfcafmmcaaDoor.B
open Go.RowKit WW WL WM
section
variable {P:Program} {ops:Array Oper} {rest:List Oper} {o:Oper} {Q:Exit→Act→World→Prop} {a:Act} {w V W w1:World} {g g':Nat}
theorem bk6 {w:World} {g t:Nat} {v0 v1 v2 v3 v4 v5:Value} (B:Aside0 (w.heap[g]?=some (.cells #[v0,v1,v2,v3,v4,v5] t (0,0)))):w.cell? ⟨g,0,none⟩=some v0∧w.cell? ⟨g,1,none⟩=some v1∧w.cell? ⟨g,2,none⟩=some v2∧w.cell? ⟨g,3,none⟩=some v3∧w.cell? ⟨g,4,none⟩=some v4∧w.cell? ⟨g,5,none⟩=some v5∧w.frozen? ⟨g,0,none⟩=false∧w.frozen? ⟨g,1,none⟩=false∧w.frozen? ⟨g,2,none⟩=false∧w.frozen? ⟨g,3,none⟩=false∧w.frozen? ⟨g,4,none⟩=false∧w.frozen? ⟨g,5,none⟩=false:=⟨(blk_cell B.out 0).trans rfl,(blk_cell B.out 1).trans rfl,(blk_cell B.out 2).trans rfl,(blk_cell B.out 3).trans rfl,(blk_cell B.out 4).trans rfl,(blk_cell B.out 5).trans rfl,blk_frozen B.out 0,blk_frozen B.out 1,blk_frozen B.out 2,blk_frozen B.out 3,blk_frozen B.out 4,blk_frozen B.out 5⟩
end
end Go.Proofs.YtmlcdpfcafmmcaaDoor.B
namespace Go.Proofs.YtmlcdpfcafmmcaaDoor.A
open Go.RowKit B WW WL WM
attribute [local go_sem] max2_int min2_int max_two min_two max_three min_three max_four min_four
structure S44 where
  f0:Int
  f1:Int
  f2:ByteArray
  f3:ByteArray
def z44:S44:=⟨(0:Int),(0:Int),(⟨#[]⟩:ByteArray),(⟨#[]⟩:ByteArray)⟩
def k44:Kd S44:=Kd.iso (Kd.pair (Kd.int .i64) (Kd.pair (Kd.int .i64) (Kd.pair Kd.string Kd.string))) (fun x:S44=>(x.f0,x.f1,x.f2,x.f3))
theorem k44_open {w:World} {x:S44} {cs:List Value} (h:k44.K w x cs):cs=[.int .i64 x.f0,.int .i64 x.f1,.string x.f2,.string x.f3]:=by
  obtain ⟨_,_,rfl,rfl,⟨_,_,rfl,rfl,⟨_,_,rfl,rfl,rfl⟩⟩⟩:=h;exact rfl
theorem k44_mkM (w:World) (base:Nat) (ok:Nat→Prop) (x:S44):k44.M w base ok x [.int .i64 x.f0,.int .i64 x.f1,.string x.f2,.string x.f3]:=⟨[.int .i64 x.f0],[.int .i64 x.f1,.string x.f2,.string x.f3],rfl,rfl,⟨[.int .i64 x.f1],[.string x.f2,.string x.f3],rfl,rfl,⟨[.string x.f2],[.string x.f3],rfl,rfl,rfl⟩⟩⟩
def rd_T44 (xs:List S44) (i:Int):S44:=xs.getD i.toNat z44
theorem at_T44 {w:World} {A:Option Addr} {n:Nat} {xs:List S44} (h:Kd.C k44 w A n xs) (i:Int) (h0:0≤i) (h1:i < n):∃ ad ,A=some ad∧w.cell? (ad.add (i.toNat * 4))=some (.int .i64 (rd_T44 xs i).f0)∧w.cell? ⟨(ad.add (i.toNat * 4)).block,(ad.add (i.toNat * 4)).off+1,none⟩=some (.int .i64 (rd_T44 xs i).f1)∧w.cell? ⟨(ad.add (i.toNat * 4)).block,(ad.add (i.toNat * 4)).off+2,none⟩=some (.string (rd_T44 xs i).f2)∧w.cell? ⟨(ad.add (i.toNat * 4)).block,(ad.add (i.toNat * 4)).off+3,none⟩=some (.string (rd_T44 xs i).f3):=by
  obtain ⟨ad,c,e,_,hK,hc0⟩:=Kd.C_get h z44 i h0 h1;have hc:∀ j u,c[j]?=some u→w.cell? (ad.add (i.toNat * 4+j))=some u:=hc0;obtain rfl:=k44_open hK;exact ⟨ad,e,hc 0 _ rfl,by rw [← add_field _ _ 1 (by omega)];exact hc 1 _ rfl,by rw [← add_field _ _ 2 (by omega)];exact hc 2 _ rfl,by rw [← add_field _ _ 3 (by omega)];exact hc 3 _ rfl⟩
end Go.Proofs.YtmlcdpfcafmmcaaDoor.A
namespace Go.Proofs.YtmlcdpfcafmmcaaDoor.A
open Go.RowKit B WW WL WM
attribute [local go_sem] max2_int min2_int max_two min_two max_three min_three max_four min_four
set_option maxHeartbeats 8000000
set_option maxRecDepth 100000
mutual
def stmt_Check.j0:Nat→Bool→ByteArray→ByteArray→Int→Int→Int→List (S44)→Option (Int)
 | 0,_,_,_,_,_,_,_=>none
 | k+1,x18,x120000,x120001,x120002,x120003,x120004,x120005=>if x18=true then (some 3) else ((stmt_within.f x120003 1000000000000000).bind fun t122=>(if t122=true then ((stmt_within.f x120004 1000000000000000).bind fun t123=>(stmt_Check.j1 k (!t123) x120000 x120001 x120002 x120003 x120004 x120005)) else (stmt_Check.j1 k true x120000 x120001 x120002 x120003 x120004 x120005)))
def stmt_Check.j1:Nat→Bool→ByteArray→ByteArray→Int→Int→Int→List (S44)→Option (Int)
 | 0,_,_,_,_,_,_,_=>none
 | k+1,x27,x120000,x120001,x120002,x120003,x120004,x120005=>if x27=true then (some 4) else (if (x120005.length:Int) > 200 then (some 9) else (stmt_Check.l0 k x120003 0 x120005 (x120005.length:Int) 0 x120000 x120001 x120002 x120003 x120004 x120005))
def stmt_Check.l0:Nat→Int→Int→List (S44)→Int→Int→ByteArray→ByteArray→Int→Int→Int→List (S44)→Option (Int)
 | 0,_,_,_,_,_,_,_,_,_,_,_=>none
 | k+1,x3,x4,x46,x47,x48,x120000,x120001,x120002,x120003,x120004,x120005=>if x48 < x47 then (if 0≤x48 then (if x48 < (x46.length:Int) then ((stmt_one.f k ((rd_T44 x46 x48).f0) ((rd_T44 x46 x48).f1) ((rd_T44 x46 x48).f2) ((rd_T44 x46 x48).f3) x4).bind fun t126=>(if t126=0 then (stmt_Check.l0 k (wrap64 (x3+((rd_T44 x46 x48).f1))) ((rd_T44 x46 x48).f0) x46 x47 (wrap64 (x48+1)) x120000 x120001 x120002 x120003 x120004 x120005) else (some t126))) else (none)) else (none)) else (if x3=x120004 then (some 0) else (some 15))
end
def stmt_Check.f (k:Nat) (a0_0:ByteArray) (a0_1:ByteArray) (a0_2:Int) (a0_3:Int) (a0_4:Int) (l0_5:List (S44)):Option (Int):=(words_Code.f a0_0).bind fun t120=>(if t120=true then ((money_Code.f a0_1).bind fun t121=>(if t121=true then (if a0_2 < 1 then (stmt_Check.j0 k true a0_0 a0_1 a0_2 a0_3 a0_4 l0_5) else (stmt_Check.j0 k (decide (a0_2 > 4000)) a0_0 a0_1 a0_2 a0_3 a0_4 l0_5)) else (some 13))) else (some 7))
structure PSt where
  dg:Int
  part:Int
  acc:ByteArray
  cur:ByteArray
  no:Int
  op:Int
  cl:Int
  ls:List S44
def PSt.cells (p:PSt) (C v:Value):Array Value:=#[C,.int .i64 p.dg,.int .i64 p.part,.string p.acc,.string p.cur,.int .i64 p.no,.int .i64 p.op,.int .i64 p.cl,v]
structure PB (w:World) (bd g:Nat) (C:Value) (p:PSt) (v:Value):Prop where
  blk:w.heap[g]?=some (.cells (p.cells C v) 63 (0,0))
  row:Kd.R k44 44 w bd (fun _=>True) v p.ls
  hbd:bd≤g
theorem PB.facts {w:World} {bd g:Nat} {C v:Value} {p:PSt} (h:PB w bd g C p v) :
    w.cell? ⟨g,0,none⟩=some C∧w.cell? ⟨g,1,none⟩=some (.int .i64 p.dg)∧w.cell? ⟨g,2,none⟩=some (.int .i64 p.part)∧w.cell? ⟨g,3,none⟩=some (.string p.acc)∧w.cell? ⟨g,4,none⟩=some (.string p.cur) ∧
    w.cell? ⟨g,5,none⟩=some (.int .i64 p.no)∧w.cell? ⟨g,6,none⟩=some (.int .i64 p.op)∧w.cell? ⟨g,7,none⟩=some (.int .i64 p.cl)∧w.cell? ⟨g,8,none⟩=some v ∧
    w.frozen? ⟨g,1,none⟩=false∧w.frozen? ⟨g,2,none⟩=false∧w.frozen? ⟨g,3,none⟩=false∧w.frozen? ⟨g,4,none⟩=false∧w.frozen? ⟨g,5,none⟩=false∧w.frozen? ⟨g,6,none⟩=false∧w.frozen? ⟨g,7,none⟩=false∧w.frozen? ⟨g,8,none⟩=false :=
  ⟨(blk_cell h.blk 0).trans rfl,(blk_cell h.blk 1).trans rfl,(blk_cell h.blk 2).trans rfl,(blk_cell h.blk 3).trans rfl,(blk_cell h.blk 4).trans rfl,(blk_cell h.blk 5).trans rfl,(blk_cell h.blk 6).trans rfl,(blk_cell h.blk 7).trans rfl,(blk_cell h.blk 8).trans rfl,
   blk_frozen h.blk 1,blk_frozen h.blk 2,blk_frozen h.blk 3,blk_frozen h.blk 4,blk_frozen h.blk 5,blk_frozen h.blk 6,blk_frozen h.blk 7,blk_frozen h.blk 8⟩
theorem PB.below {w w':World} {bd g:Nat} {C v:Value} {p:PSt} (h:PB w bd g C p v) (hb:Below w.heap.size w w'):PB w' bd g C p v :=
  ⟨blk_below h.blk hb,Kd.R_below h.row hb,h.hbd⟩
theorem PB.drawn {w:World} {bd g:Nat} {C v:Value} {p:PSt} (h:PB w bd g C p v) (n:Nat):PB (w.drewN n) bd g C p v:=h.below (pw_below_drewN (Below.refl _ _) n)
theorem ne93:∀ q,q∈(44:Nat) :: k44.E→q≠63:=by decide
theorem PB.set {w:World} {bd g:Nat} {C v:Value} {p:PSt} (h:PB w bd g C p v) (j:Nat) (u:Value) (q:PSt) (hc:(p.cells C v).set! j u=q.cells C v) (hl:q.ls=p.ls):PB (w.setCell ⟨g,j,none⟩ u) bd g C q v :=
  ⟨blk_put (cs:=p.cells C v) h.blk j u hc,by rw [hl];exact Kd.R_set h.row h.blk ne93 j u,h.hbd⟩
theorem FB.below {bd g:Nat} {v:Value} {w w1 w2:World} (h:FB bd g v w w1) (hb:Below w1.heap.size w1 w2) (hbd:bd≤w.heap.size):FB bd g v w w2 :=
  ⟨h.b.trans ⟨hb.os,hb.tape,hb.output,hb.size,fun i hi=>hb.block i (Nat.lt_of_lt_of_le hi (Nat.le_trans hbd h.b.size))⟩,fun i h1 h2 h3=>(hb.block i (Nat.lt_of_lt_of_le h1 h.b.size)).trans (h.fr i h1 h2 h3)⟩
theorem FB.set {bd g o:Nat} {v:Value} {w w1:World} (h:FB bd g v w w1) (hg:bd≤g) (u:Value):FB bd g v w (w1.setCell ⟨g,o,none⟩ u) :=
  ⟨below_setN h.b hg u,fun i h1 h2 h3=>(Below.heap_setCell _ _ _ i h2).trans (h.fr i h1 h2 h3)⟩
theorem days_Of.calls (k:Nat) (a0_0 a0_1 a0_2 r1 r2:Int) (w:World) (h:days_Of.f k a0_0 a0_1 a0_2=some (r1,r2)) (hG:Gl w) :
  Calls Tryd.prog 107 #[.agg #[.int .i64 a0_0,.int .i64 a0_1,.int .i64 a0_2]] w fun e w'=>e=.returned (.tuple #[.int .i64 r1,.int .i64 r2])∧Below w.heap.size w w':=by
 have HG:=sd hG;clear hG;have hu81:=Tryd.underlying81;have HB:=sd (Below.refl w.heap.size w);have H:=h;clear h;unfold days_Of.f at H;have HC2:=sd H;clear H;go_enter Tryd.func107,Tryd.ntmps107
 go_upto_region 1 with (first | ((with_reducible refine gate_dst (N:=1) rfl ?_);refine bxA 1 #[.int .i64 a0_0,.int .i64 a0_1,.int .i64 a0_2] 81 ?_;intro gb208 hg w3 hbox hb;have BK208:=sd (hbox);have GW208:=gem hg HB;have GE208:=GW208;replace HB:=hbm HB hb;clear hb hbox hg))
 repeat (go_quiet (first | ((with_reducible refine gate_dst (N:=1) rfl ?_);refine bxA 1 #[.int .i64 a0_0,.int .i64 a0_1,.int .i64 a0_2] 81 ?_;intro gb208 hg w3 hbox hb;have BK208:=sd (hbox);have GW208:=gem hg HB;have GE208:=GW208;replace HB:=hbm HB hb;clear hb hbox hg));go_upto_region 1 with (first | ((with_reducible refine gate_dst (N:=1) rfl ?_);refine bxA 1 #[.int .i64 a0_0,.int .i64 a0_1,.int .i64 a0_2] 81 ?_;intro gb208 hg w3 hbox hb;have BK208:=sd (hbox);have GW208:=gem hg HB;have GE208:=GW208;replace HB:=hbm HB hb;clear hb hbox hg)))
 (try simp only [Act.put,List.setIfInBounds_toArray,List.set_cons_zero,List.set_cons_succ])
 go_cut [27] (fun v27 wc=>∃ (kq:Nat) (x27_1:Bool),v27=.bool x27_1∧Aside0 (days_Of.j0 kq x27_1 a0_0 a0_1 a0_2=some (r1,r2))∧Aside0 (kq≤k)∧Aside0 (wc.heap[gb208]?=some (.cells #[.int .i64 a0_0,.int .i64 a0_1,.int .i64 a0_2] 81 (0,0)))∧Aside0 (Below w.heap.size w wc))
 case first =>
  have H:=HC2.out;clear HC2;replace H:=ifI H;rcases H with ⟨c4,H⟩ | ⟨c4,H⟩
  ·have c4b0:decide (a0_0 < 1900)=true:=decide_eq_true c4;clear c4;(first | rw [c4b0] | (simp only [i64_w,i32_w];rw [c4b0]) | skip)
   have H':=sd H;clear H;obtain ⟨_,_,_,_,_,_⟩:=bk3 BK208;go_wp2
   repeat (go_quiet (fail);try go_wp2)
   go_meet
   case rel=>exact ⟨_,(true),zq1,H',⟨by first | omega | exact Nat.le_refl _⟩,⟨zq11⟩,⟨zq12⟩⟩
  have c4b0:decide (a0_0 < 1900)=false:=decide_eq_false c4;clear c4;(first | rw [c4b0] | (simp only [i64_w,i32_w];rw [c4b0]) | skip)
  replace H:=ifI H;rcases H with ⟨c6,H⟩ | ⟨c6,H⟩
  ·have c6b0:decide (2199 < a0_0)=true:=decide_eq_true c6;clear c6;have H':=sd H;clear H;obtain ⟨_,_,_,_,_,_⟩:=bk3 BK208;go_wp2
   repeat (go_quiet (fail);try go_wp2)
   go_meet
   case rel=>exact ⟨_,(true),zq1,H',⟨by first | omega | exact Nat.le_refl _⟩,⟨zq11⟩,⟨zq12⟩⟩
  have c6b0:decide (2199 < a0_0)=false:=decide_eq_false c6;clear c6;replace H:=ifI H;rcases H with ⟨c8,H⟩ | ⟨c8,H⟩
  ·have c8b0:decide (a0_2 < 1)=true:=decide_eq_true c8;clear c8;have H':=sd H;clear H;obtain ⟨_,_,_,_,_,_⟩:=bk3 BK208;go_wp2
   repeat (go_quiet (fail);try go_wp2)
   go_meet
   case rel=>exact ⟨_,(true),zq1,H',⟨by first | omega | exact Nat.le_refl _⟩,⟨zq11⟩,⟨zq12⟩⟩
  have c8b0:decide (a0_2 < 1)=false:=decide_eq_false c8;clear c8;replace H:=bdI H;obtain ⟨t209,A10,H⟩:=H;(try dsimp only at H)
  have H':=sd H;clear H;obtain ⟨_,_,_,_,_,_⟩:=bk3 BK208;go_wp2_with (first | (go_at_call 78;(with_reducible refine (days_Length.calls a0_0 a0_1 t209 _ A10.out (gl_below HG.out zq13)).mono ?_);rintro e w' ⟨rfl,⟨nd,rfl⟩⟩;(try first | exact ⟨rfl,_,World.drewN_drewN _ _ _⟩ | exact ⟨rfl,_,Eq.trans (World.drewN_drewN _ _ _) (congrArg (World.drewN _) (Nat.add_assoc _ _ _))⟩)))
  repeat (go_quiet (first | (go_at_call 78;(with_reducible refine (days_Length.calls a0_0 a0_1 t209 _ A10.out (gl_below HG.out zq13)).mono ?_);rintro e w' ⟨rfl,⟨nd,rfl⟩⟩;(try first | exact ⟨rfl,_,World.drewN_drewN _ _ _⟩ | exact ⟨rfl,_,Eq.trans (World.drewN_drewN _ _ _) (congrArg (World.drewN _) (Nat.add_assoc _ _ _))⟩)));try go_wp2_with (first | (go_at_call 78;(with_reducible refine (days_Length.calls a0_0 a0_1 t209 _ A10.out (gl_below HG.out zq13)).mono ?_);rintro e w' ⟨rfl,⟨nd,rfl⟩⟩;(try first | exact ⟨rfl,_,World.drewN_drewN _ _ _⟩ | exact ⟨rfl,_,Eq.trans (World.drewN_drewN _ _ _) (congrArg (World.drewN _) (Nat.add_assoc _ _ _))⟩))))
  go_meet
  case rel=>exact ⟨_,(decide (a0_2 > t209)),zq1,H',⟨by first | omega | exact Nat.le_refl _⟩,⟨zq11⟩,⟨zq12⟩⟩
 case rest =>
  clear HC2;try clear c1
  try clear p2
  try clear c4
  try clear c4b0
  try clear c6
  try clear c6b0
  try clear c8
  try clear c8b0
  try clear c10
  try clear hcz11_0
  try clear hcz11_1
  try clear hcz11_2
  try clear hcz5_0
  try clear hcz5_1
  try clear hcz5_2
  try clear hcz7_0
  try clear hcz7_1
  try clear hcz7_2
  try clear hcz9_0
  try clear hcz9_1
  try clear hcz9_2
  try clear hfz11_0
  try clear hfz11_1
  try clear hfz11_2
  try clear hfz5_0
  try clear hfz5_1
  try clear hfz5_2
  try clear hfz7_0
  try clear hfz7_1
  try clear hfz7_2
  try clear hfz9_0
  try clear hfz9_1
  try clear hfz9_2
  obtain ⟨kq,x27_1,rfl,HA,HJ1,BK208,HB⟩:=hcut
  cases kq with
  | zero=>exact absurd HA.out (by simp [days_Of.j0])
  | succ kj1 =>
   have H:=HA.out;clear HA;simp only [days_Of.j0] at H
   by_cases c12:x27_1=true
   ·subst c12;rw [if_pos rfl] at H;simp only [Option.some.injEq,Prod.mk.injEq] at H
    obtain ⟨rfl,rfl⟩:=H;go_wp2
    repeat (go_quiet (fail);try go_wp2)
    go_ret2
    exact ⟨zq10,zq12⟩
   replace c12:=Bool.eq_false_iff.mpr c12;subst c12;rw [if_neg Bool.false_ne_true] at H;replace H:=bdI H;obtain ⟨t210,A13,H⟩:=H;(try dsimp only at H)
   have H':=sd H;clear H;obtain ⟨_,_,_,_,_,_⟩:=bk3 BK208;go_wp2_with (first | (go_at_call 77;(with_reducible refine (days_before.calls a0_0 t210 _ A13.out).mono ?_);rintro e w' ⟨rfl,⟨nd,rfl⟩⟩;(try first | exact ⟨rfl,_,World.drewN_drewN _ _ _⟩ | exact ⟨rfl,_,Eq.trans (World.drewN_drewN _ _ _) (congrArg (World.drewN _) (Nat.add_assoc _ _ _))⟩)))
   repeat (go_quiet (first | (go_at_call 77;(with_reducible refine (days_before.calls a0_0 t210 _ A13.out).mono ?_);rintro e w' ⟨rfl,⟨nd,rfl⟩⟩;(try first | exact ⟨rfl,_,World.drewN_drewN _ _ _⟩ | exact ⟨rfl,_,Eq.trans (World.drewN_drewN _ _ _) (congrArg (World.drewN _) (Nat.add_assoc _ _ _))⟩)));try go_wp2_with (first | (go_at_call 77;(with_reducible refine (days_before.calls a0_0 t210 _ A13.out).mono ?_);rintro e w' ⟨rfl,⟨nd,rfl⟩⟩;(try first | exact ⟨rfl,_,World.drewN_drewN _ _ _⟩ | exact ⟨rfl,_,Eq.trans (World.drewN_drewN _ _ _) (congrArg (World.drewN _) (Nat.add_assoc _ _ _))⟩))))
   go_loopg [2,4] kj1 (fun kq v2 v4 w'=>∃ (x2_2:Int) (x4_2:Int),v2=.int .i64 x2_2∧v4=.int .i64 x4_2∧Aside0 (days_Of.l0 kq x2_2 x4_2 a0_0 a0_1 a0_2=some (r1,r2))∧Aside0 (kq≤kj1)∧Aside0 (w'.heap[gb208]?=some (.cells #[.int .i64 a0_0,.int .i64 a0_1,.int .i64 a0_2] 81 (0,0)))∧Aside0 (Below w.heap.size w w'))
   case atStart=>exact ⟨(wrap64 ((wrap64 (t210+a0_2)) - 1)),(1),zq1,zq1,H',⟨Nat.le_refl _⟩,⟨zq11⟩,⟨zq12⟩⟩
   case round =>
    clear H';try clear c1
    try clear p2
    try clear c4
    try clear c4b0
    try clear c6
    try clear c6b0
    try clear p6
    try clear c8
    try clear c8b0
    try clear c10
    try clear c12
    try clear hcz11_0
    try clear hcz11_1
    try clear hcz11_2
    try clear hcz14_0
    try clear hcz14_1
    try clear hcz14_2
    try clear hcz5_0
    try clear hcz5_1
    try clear hcz5_2
    try clear hcz7_0
    try clear hcz7_1
    try clear hcz7_2
    try clear hcz9_0
    try clear hcz9_1
    try clear hcz9_2
    try clear hfz11_0
    try clear hfz11_1
    try clear hfz11_2
    try clear hfz14_0
    try clear hfz14_1
    try clear hfz14_2
    try clear hfz5_0
    try clear hfz5_1
    try clear hfz5_2
    try clear hfz7_0
    try clear hfz7_1
    try clear hfz7_2
    try clear hfz9_0
    try clear hfz9_1
    try clear hfz9_2
    try clear p2
    obtain ⟨x2_2,x4_2,rfl,rfl,HA,HK2,BK208,HB⟩:=hrel
    cases gk with
    | zero=>exact absurd HA.out (by simp [days_Of.l0])
    | succ k2 =>
     have H:=HA.out;clear HA;simp only [days_Of.l0] at H
     replace H:=ifI H;rcases H with ⟨c15,H⟩ | ⟨c15,H⟩
     ·have c15b0:decide (x4_2 < a0_1)=true:=decide_eq_true c15;clear c15;replace H:=bdI H;obtain ⟨t211,A16,H⟩:=H;(try dsimp only at H)
      have H':=sd H;clear H;obtain ⟨_,_,_,_,_,_⟩:=bk3 BK208;go_wp2_with (first | (go_at_call 78;(with_reducible refine (days_Length.calls a0_0 x4_2 t211 _ A16.out (gl_below HG.out zq13)).mono ?_);rintro e w' ⟨rfl,⟨nd,rfl⟩⟩;(try first | exact ⟨rfl,_,World.drewN_drewN _ _ _⟩ | exact ⟨rfl,_,Eq.trans (World.drewN_drewN _ _ _) (congrArg (World.drewN _) (Nat.add_assoc _ _ _))⟩)))
      repeat (go_quiet (first | (go_at_call 78;(with_reducible refine (days_Length.calls a0_0 x4_2 t211 _ A16.out (gl_below HG.out zq13)).mono ?_);rintro e w' ⟨rfl,⟨nd,rfl⟩⟩;(try first | exact ⟨rfl,_,World.drewN_drewN _ _ _⟩ | exact ⟨rfl,_,Eq.trans (World.drewN_drewN _ _ _) (congrArg (World.drewN _) (Nat.add_assoc _ _ _))⟩)));try go_wp2_with (first | (go_at_call 78;(with_reducible refine (days_Length.calls a0_0 x4_2 t211 _ A16.out (gl_below HG.out zq13)).mono ?_);rintro e w' ⟨rfl,⟨nd,rfl⟩⟩;(try first | exact ⟨rfl,_,World.drewN_drewN _ _ _⟩ | exact ⟨rfl,_,Eq.trans (World.drewN_drewN _ _ _) (congrArg (World.drewN _) (Nat.add_assoc _ _ _))⟩))))
      go_roundg k2
      case measure=>have:=HJ1.out;have:=HK2.out;omega
      case rel=>exact ⟨(wrap64 (x2_2+t211)),(wrap64 (x4_2+1)),zq1,zq1,H',⟨by have:=HJ1.out;have:=HK2.out;omega⟩,⟨zq11⟩,⟨zq12⟩⟩
     have c15b0:decide (x4_2 < a0_1)=false:=decide_eq_false c15;clear c15;simp only [Option.some.injEq,Prod.mk.injEq] at H
     obtain ⟨rfl,rfl⟩:=H;obtain ⟨_,_,_,_,_,_⟩:=bk3 BK208;go_wp2
     repeat (go_quiet (fail);try go_wp2)
     go_ret2
     exact ⟨zq10,zq12⟩
theorem one44 (W:World) (x:S44):Kd.C k44 (W.alloc (.cells #[.int .i64 x.f0,.int .i64 x.f1,.string x.f2,.string x.f3] 44)) (some ⟨W.heap.size,0,none⟩) 1 [x] :=
 ⟨rfl,by decide,fun _=>⟨_,rfl,fun j p hj=>by
  cases j with
  | zero =>
   obtain rfl:=Option.some.inj hj;refine ⟨[.int .i64 x.f0,.int .i64 x.f1,.string x.f2,.string x.f3],rfl,⟨[.int .i64 x.f0],[.int .i64 x.f1,.string x.f2,.string x.f3],rfl,rfl,⟨[.int .i64 x.f1],[.string x.f2,.string x.f3],rfl,rfl,⟨[.string x.f2],[.string x.f3],rfl,rfl,rfl⟩⟩⟩,fun i u hu=>?_⟩;have hb:=fun k=>blk_cell (blk_new W (.cells #[.int .i64 x.f0,.int .i64 x.f1,.string x.f2,.string x.f3] 44)) k
   have e:(⟨W.heap.size,0,none⟩:Addr).add (0 * 4+i)=⟨W.heap.size,i,none⟩:=by
    simp [Addr.add]
    try (exact fun h=>h.symm)
   have e4:k44.sz=4:=rfl;rw [e4,e,hb i];simpa using hu
  | succ j=>cases hj⟩⟩
def livesS:List S44:=[⟨46000,-150,⟨#[114,49]⟩,⟨#[97,32,34,98,34]⟩⟩]
end Go.Proofs.YtmlcdpfcafmmcaaDoor.A
namespace Go.Proofs.YtmlcdpfcafmmcaaDoor.A
open Go.RowKit B WW WL WM
theorem zq70 {P:Prop} (h:P:=by (with_reducible repeat (first | refine blk_drewN ?_ _ | refine blk_drew ?_ | refine blk_alloc ?_ _));refine blk_put (cs:=#[.int .i64 ((rd_T44 l0_5 x48_3).f0),.int .i64 ((rd_T44 l0_5 x48_3).f1),.string ((rd_T44 l0_5 x48_3).f2),.string (⟨#[]⟩:ByteArray)]) ?_ 3 _ rfl;(with_reducible repeat (first | refine blk_drewN ?_ _ | refine blk_drew ?_ | refine blk_alloc ?_ _));refine blk_put (cs:=#[.int .i64 ((rd_T44 l0_5 x48_3).f0),.int .i64 ((rd_T44 l0_5 x48_3).f1),.string (⟨#[]⟩:ByteArray),.string (⟨#[]⟩:ByteArray)]) ?_ 2 _ rfl;(with_reducible repeat (first | refine blk_drewN ?_ _ | refine blk_drew ?_ | refine blk_alloc ?_ _));refine blk_put (cs:=#[.int .i64 ((rd_T44 l0_5 x48_3).f0),.int .i64 0,.string (⟨#[]⟩:ByteArray),.string (⟨#[]⟩:ByteArray)]) ?_ 1 _ rfl;(with_reducible repeat (first | refine blk_drewN ?_ _ | refine blk_drew ?_ | refine blk_alloc ?_ _));refine blk_put (cs:=#[.int .i64 0,.int .i64 0,.string (⟨#[]⟩:ByteArray),.string (⟨#[]⟩:ByteArray)]) ?_ 0 _ rfl;(with_reducible repeat (first | refine blk_drewN ?_ _ | refine blk_drew ?_ | refine blk_alloc ?_ _));exact BK125.out):P:=h
theorem zq122 {P:Prop} (h:P:=by repeat (first | (with_reducible first | assumption | apply has_drewN | apply has_drew | refine has_same ?_ | apply any_drewN | apply any_drew | apply any_set | exact ⟨_,‹_›⟩) | (with_reducible refine has_other (by simp) ?_) | (go_simp;done) | exact ⟨_,by go_simp⟩)):P:=h
end Go.Proofs.YtmlcdpfcafmmcaaDoor.A
