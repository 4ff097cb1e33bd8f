-- By pack.py, a program of this session's.
import Derived.Test.YtlblkojjpagbkaaDoorZ2
import Derived.Test.YtlblkojjpagbkaaDoorZ3
set_option linter.unusedVariables false
set_option linter.unusedSimpArgs false
namespace Go.Proofs.YtlblkojjpagbkaaDoor
namespace A
open Go.RowKit B WW WL WM
attribute [local go_sem] max2_int min2_int max_two min_two max_three min_three max_four min_four
set_option maxHeartbeats 8000000
set_option maxRecDepth 100000
theorem every_print (hF:∀ (c:UInt8) (w:World),Calls Tryd.prog 55 #[.int .u8 (c.toNat:Int)] w fun e w'=>e=.returned (.bool (isPrn c))∧Drawn0 w w') (s:ByteArray) (hs:s.size≤140737488351232) (w:World) :
  Calls Tryd.prog 35 #[.string s,.func (.func 55) #[] #[]] w fun e w'=>e=.returned (.bool (s.data.toList.all isPrn))∧Drawn0 w w':=by
 have HSZ:=sd (size_eq' s);have HF:=sd hF;clear hF;generalize hP:(fun e w'=>e=Ending.returned (.bool (s.data.toList.all isPrn))∧Drawn0 w w')=Post;have HP:=sd hP;clear hP;go_enter Tryd.func35,Tryd.ntmps35
 go_wp2_with fail
 go_loopw [8] (fun n_ wr=>∃ (i:Nat),i≤s.size∧n_=.int .i64 (i:Int)∧Aside0 (∀ j,(h:j < i)→(h':j < s.size)→isPrn s[j]=true)∧Drawn0 w wr) (fun n_ _=>(s.size - (RowKit.intOf n_).toNat))
 case atStart=>exact ⟨0,by omega,rfl,⟨fun j h=>by omega⟩,Drawn0.refl _⟩
 case round =>
  obtain ⟨i,hi,rfl,HU,HDr⟩:=hrel;rename World=>wr
  by_cases hlt:i < s.size
  ·have hlt':(i:Int) < (s.size:Int):=by omega
   go_wp2_with fail
   have HC:=HF.out s[i] wr
   cases hp:isPrn s[i]
   ·rw [hp] at HC;have HB:=sd (show s.data.toList.all isPrn=false from all_bad (by rw [← HSZ.out];exact hlt) (by rw [list_at s i hlt];exact hp));refine HC.mono ?_;rintro e w1 ⟨rfl,hd1⟩;obtain ⟨⟨n1,rfl⟩⟩:=hd1;clear HC;go_wp2_with fail
    rw [← HP.out];exact ⟨by rw [HB.out];(try rfl),HDr.step _⟩
   ·rw [hp] at HC
    have HU2:=sd (show ∀ j,(h:j < i+1)→(h':j < s.size)→isPrn s[j]=true from fun j h h'=>by
     rcases Nat.lt_or_ge j i with h1|h1
     ·exact HU.out j h1 h'
     ·obtain rfl:j=i:=by omega
      exact hp)
    refine HC.mono ?_;rintro e w1 ⟨rfl,hd1⟩;obtain ⟨⟨n1,rfl⟩⟩:=hd1;clear HC HU;go_wp2_with fail
    go_roundw
    case rel=>exact ⟨i+1,by omega,by go_num,HU2,HDr.step _⟩
    case measure=>simp [RowKit.intOf];omega
  have hlt':¬ (i:Int) < (s.size:Int):=by omega
  obtain rfl:i=s.size:=by omega
  have hall:s.data.toList.all isPrn=true:=by
   rw [List.all_eq_true];intro x hx;obtain ⟨j,hj,rfl⟩:=List.getElem_of_mem hx;have hj2:j < s.size:=by rw [HSZ.out];exact hj
   rw [list_at s j hj2];exact HU.out j hj2 hj2
  have HL:=sd hall;clear hall;go_wp2_with fail
  rw [← HP.out];exact ⟨by rw [HL.out];(try rfl),HDr⟩
theorem every_wd (hF:∀ (c:UInt8) (w:World),Calls Tryd.prog 36 #[.int .u8 (c.toNat:Int)] w fun e w'=>e=.returned (.bool (isWdB c))∧Drawn0 w w') (s:ByteArray) (hs:s.size≤140737488351232) (w:World) :
  Calls Tryd.prog 35 #[.string s,.func (.func 36) #[] #[]] w fun e w'=>e=.returned (.bool (s.data.toList.all isWdB))∧Drawn0 w w':=by
 have HSZ:=sd (size_eq' s);have HF:=sd hF;clear hF;generalize hP:(fun e w'=>e=Ending.returned (.bool (s.data.toList.all isWdB))∧Drawn0 w w')=Post;have HP:=sd hP;clear hP;go_enter Tryd.func35,Tryd.ntmps35
 go_wp2_with fail
 go_loopw [8] (fun n_ wr=>∃ (i:Nat),i≤s.size∧n_=.int .i64 (i:Int)∧Aside0 (∀ j,(h:j < i)→(h':j < s.size)→isWdB s[j]=true)∧Drawn0 w wr) (fun n_ _=>(s.size - (RowKit.intOf n_).toNat))
 case atStart=>exact ⟨0,by omega,rfl,⟨fun j h=>by omega⟩,Drawn0.refl _⟩
 case round =>
  obtain ⟨i,hi,rfl,HU,HDr⟩:=hrel;rename World=>wr
  by_cases hlt:i < s.size
  ·have hlt':(i:Int) < (s.size:Int):=by omega
   go_wp2_with fail
   have HC:=HF.out s[i] wr
   cases hp:isWdB s[i]
   ·rw [hp] at HC;have HB:=sd (show s.data.toList.all isWdB=false from all_bad (by rw [← HSZ.out];exact hlt) (by rw [list_at s i hlt];exact hp));refine HC.mono ?_;rintro e w1 ⟨rfl,hd1⟩;obtain ⟨⟨n1,rfl⟩⟩:=hd1;clear HC;go_wp2_with fail
    rw [← HP.out];exact ⟨by rw [HB.out];(try rfl),HDr.step _⟩
   ·rw [hp] at HC
    have HU2:=sd (show ∀ j,(h:j < i+1)→(h':j < s.size)→isWdB s[j]=true from fun j h h'=>by
     rcases Nat.lt_or_ge j i with h1|h1
     ·exact HU.out j h1 h'
     ·obtain rfl:j=i:=by omega
      exact hp)
    refine HC.mono ?_;rintro e w1 ⟨rfl,hd1⟩;obtain ⟨⟨n1,rfl⟩⟩:=hd1;clear HC HU;go_wp2_with fail
    go_roundw
    case rel=>exact ⟨i+1,by omega,by go_num,HU2,HDr.step _⟩
    case measure=>simp [RowKit.intOf];omega
  have hlt':¬ (i:Int) < (s.size:Int):=by omega
  obtain rfl:i=s.size:=by omega
  have hall:s.data.toList.all isWdB=true:=by
   rw [List.all_eq_true];intro x hx;obtain ⟨j,hj,rfl⟩:=List.getElem_of_mem hx;have hj2:j < s.size:=by rw [HSZ.out];exact hj
   rw [list_at s j hj2];exact HU.out j hj2 hj2
  have HL:=sd hall;clear hall;go_wp2_with fail
  rw [← HP.out];exact ⟨by rw [HL.out];(try rfl),HDr⟩
theorem num_size.same (a0:Int) (hb:I64 a0) (w:World) :
  Calls Tryd.prog 59 #[.int .i64 a0] w fun e w'=>e=.returned (.int .u64 (a0.natAbs:Int))∧w=w':=by
 obtain ⟨h0,h1⟩:=hb;by_cases h:a0 < 0
 ·go_enter Tryd.func59,Tryd.ntmps59
  go_wp2
  go_ret
  exact ⟨ret_int (by rw [wu64,wu64];omega),rfl⟩
 go_enter Tryd.func59,Tryd.ntmps59
 go_wp2
 go_ret
 exact ⟨ret_int (by omega),rfl⟩
theorem sl20 (W:World) (b m:Nat) (z:Int) (hz:z=(m:Int)) (h:m < 20) :
  (Instr.sliceAt 101 (.pointer (some ⟨b,0,none⟩)) (some (.int .i64 z)) none none).run Tryd.prog W=.ok (.slice (some ⟨b,m,none⟩) (20 - m) (20 - m)) W:=by
 subst hz;have e1:Tryd.prog.arrayLen 101=20:=by kernel_rfl
 have e2:Tryd.prog.elem 101=5:=by kernel_rfl
 rw [run_sliceAt_array_l W 101 ⟨b,0,none⟩ (by rw [e1,e2];exact Tryd.underlying101) .i64 (m:Int) (by omega) (by rw [e1];omega),e1,e2];have e3:(Go.sizeOf 5).run Tryd.prog W=.ok 1 W:=by kernel_rfl
 rw [e3];simp only [Result.andThen,slicedAt,Int.toNat_natCast,if_neg (show ¬ 20=m by omega),Nat.mul_one,add_plain']
def days_is.f (a0:Int):Option (Bool):=if a0 ≥ 0 then (some (decide (a0≤109572))) else (some false)
def days_before.f (a0:Int):Option (Int):=some (wrap64 ((wrap64 (365 * (wrap64 (a0 - 1900))))+(wrap64 ((wrap64 ((wrap64 ((wrap64 ((wrap64 ((wrap64 (Int.tdiv (wrap64 (a0 - 1)) 4)) - (wrap64 (Int.tdiv (wrap64 (a0 - 1)) 100))))+(wrap64 (Int.tdiv (wrap64 (a0 - 1)) 400)))) - 474))+18)) - 4))))
def days_Leap.f (a0:Int):Option (Bool):=if (Int.tmod a0 4)=0 then (if (Int.tmod a0 100)=0 then (some ((Int.tmod a0 400) == 0)) else (some true)) else (some ((Int.tmod a0 400) == 0))
def days_Length.f (a0 a1:Int):Option Int:=if a1 < 1∨12 < a1 then some 0 else if a1=2 then (days_Leap.f a0).bind fun b=>some (if b=true then 29 else 28) else some (monLen (a1 - 1).toNat)
mutual
def days_Date.j1:Nat→Int→Int→Int→Int→Option (Int×Int×Int×Int)
|0,_,_,_,_=>none
|k+1,x0,x129000,x129001,x129002=>(days_before.f x129000).bind fun t131=>(days_Date.l1 k (wrap64 (x0 - t131)) x129000 1 x129002)
def days_Date.l1:Nat→Int→Int→Int→Int→Option (Int×Int×Int×Int)
|0,_,_,_,_=>none
|k+1,x0,x129000,x129001,x129002=>(days_Length.f x129000 x129001).bind fun t132=>(if x0 ≥ t132 then ((days_Length.f x129000 x129001).bind fun t133=>(days_Date.l1 k (wrap64 (x0 - t133)) x129000 (wrap64 (x129001+1)) x129002)) else (some (x129000,x129001,wrap64 (x0+1),0)))
def days_Date.l0:Nat→Int→Int→Int→Int→Option (Int×Int×Int×Int)
|0,_,_,_,_=>none
|k+1,x0,x129000,x129001,x129002=>if x129000 < 2199 then ((days_before.f (wrap64 (x129000+1))).bind fun t130=>(if t130≤x0 then (days_Date.l0 k x0 (wrap64 (x129000+1)) x129001 x129002) else (days_Date.j1 k x0 x129000 x129001 x129002))) else (days_Date.j1 k x0 x129000 x129001 x129002)
end
def days_Date.f (k:Nat) (a0:Int):Option (Int×Int×Int×Int):=(days_is.f a0).bind fun t129=>(if t129=true then (days_Date.l0 k a0 (wrap64 (1900+(wrap64 (Int.tdiv a0 366)))) 0 0) else (some (0,0,0,11)))
def words_Quote.l0:Nat→ByteArray→List Int→Int→Int→Option (ByteArray×Int)
|0,_,_,_,_=>none
|k+1,x0,x4,x11,x12=>if x12 < x11 then (if 0≤x12 then (if x12 < (x0.size:Int) then (if (bt x0 x12)=34 then (if x4.length < 140737488355328 then ((some (x4++[92]:List Int)).bind fun y148=>(if y148.length < 140737488355328 then (words_Quote.l0 k x0 (y148++[bt x0 x12]) x11 (wrap64 (x12+1))) else (none))) else (none)) else (if (bt x0 x12)=92 then (if x4.length < 140737488355328 then ((some (x4++[92]:List Int)).bind fun y154=>(if y154.length < 140737488355328 then (words_Quote.l0 k x0 (y154++[bt x0 x12]) x11 (wrap64 (x12+1))) else (none))) else (none)) else (if x4.length < 140737488355328 then (words_Quote.l0 k x0 (x4++[bt x0 x12]) x11 (wrap64 (x12+1))) else (none)))) else (none)) else (none)) else (if x4.length < 140737488355328 then (some (strOfNums (x4++[34]),0)) else (none))
def words_Quote.f (k:Nat) (a0:ByteArray):Option (ByteArray×Int):=(words_Plain.f a0).bind fun t144=>(if t144=true then (words_Quote.l0 k a0 (([34]:List Int)) (a0.size:Int) 0) else (some ((⟨#[]⟩:ByteArray),5)))
theorem word_ret (Post:Ending→World→Prop) (T:Array Value) (W:World) (g:Nat) (kind:Int) (S:ByteArray) (i e pa pe:Int) (t4:T.getD 4 undef=.pointer (some ⟨g,0,none⟩)) (t5:T.getD 5 undef=.int .i64 e) (t6:T.getD 6 undef=.pointer (some ⟨g+1,0,none⟩))
  (k0:W.cell? ⟨g,0,none⟩=some (.int .i64 kind)) (k1:W.cell? ⟨g,1,none⟩=some (.string S)) (k2:W.cell? ⟨g,2,none⟩=some (.int .i64 i)) (k3:W.cell? ⟨g+1,0,none⟩=some (.int .i64 pa)) (k4:W.cell? ⟨g+1,1,none⟩=some (.int .i64 pe))
  (hp:Post (.returned (.tuple #[.agg #[.int .i64 kind,.string S,.int .i64 i],.int .i64 e,.agg #[.int .i64 pa,.int .i64 pe]])) W):bodyPost Tryd.prog Tryd.f51 Post .ret { tmps:=T,defers:=[] } W:=by
 rw [Array.getD_eq_getD_getElem?] at t4 t5 t6;exact bodyPost_ret (v:=.tuple #[.agg #[.int .i64 kind,.string S,.int .i64 i],.int .i64 e,.agg #[.int .i64 pa,.int .i64 pe]]) (by simp [results,Tryd.results51,go_sem,t4,t5,t6,k0,k1,k2,k3,k4]) rfl hp
def words_word.g (s:ByteArray) (i kind e most:Int):Option (Int×ByteArray×Int×Int×Int×Int) :=
 if i≤e∧e≤(s.size:Int) then some (kind,s.extract i.toNat e.toNat,i,e,if most < e - i then i else 0,if most < e - i then 9 else 0) else none
def words_word.h (k:Nat) (s:ByteArray) (i:Int):Option (Int×ByteArray×Int×Int×Int×Int) :=
 if bt s i=34 then (words_quoted.f k s i).bind fun q=>if q.2.2.2≠0 then some (3,q.1,i,q.2.1,q.2.2.1,q.2.2.2) else
  some (3,q.1,i,q.2.1,if 60 < (q.1.size:Int) then i else q.2.2.1,if 60 < (q.1.size:Int) then 9 else 0)
 else (words_signEnd.f k s i).bind fun e=>if e=i then some (4,⟨#[]⟩,i,e,i,5) else words_word.g s i 4 e 60
def words_word.f (k:Nat) (s:ByteArray) (i:Int):Option (Int×ByteArray×Int×Int×Int×Int) :=
 if 0≤i∧i < (s.size:Int)∧s.size≤140737488351232 then
  (words_letter.f (bt s i)).bind fun l=>if l=true then (words_nameEnd.f k s i).bind fun e=>words_word.g s i 1 e 12 else
  (words_digit.f (bt s i)).bind fun d=>if d=true then (words_numberEnd.f k s i).bind fun e=>words_word.g s i 2 e 60 else
  if bt s i=45 then (words_digitAt.f s (i+1)).bind fun b=>if b=true then (words_numberEnd.f k s i).bind fun e=>words_word.g s i 2 e 60 else words_word.h k s i
  else words_word.h k s i
 else none
mutual
def num_formed.j0:Nat→ByteArray→Bool→Option (Bool)
|0,_,_=>none
|k+1,x0,x3=>if x3=true then (if 1≤(x0.size:Int) then (num_formed.j1 k (x0.extract 1 x0.size) x3) else (none)) else (num_formed.j1 k x0 x3)
def num_formed.j1:Nat→ByteArray→Bool→Option (Bool)
|0,_,_=>none
|k+1,x0,x3=>if x0.toList=([]:List UInt8) then (num_formed.j2 k x0 true) else (if 0 < (x0.size:Int) then (if (bt x0 0)=48 then (if x3=true then (num_formed.j2 k x0 true) else (num_formed.j2 k x0 (decide ((x0.size:Int) > 1)))) else (num_formed.j2 k x0 false)) else (none))
def num_formed.j2:Nat→ByteArray→Bool→Option (Bool)
|0,_,_=>none
|k+1,x0,x30=>if x30=true then (some false) else (num_formed.l0 k x0 (x0.size:Int) 0)
def num_formed.l0:Nat→ByteArray→Int→Int→Option (Bool)
|0,_,_,_=>none
|k+1,x0,x32,x33=>if x33 < x32 then (if 0≤x33 then (if x33 < (x0.size:Int) then (if (bt x0 x33) < 48 then (some false) else (if (bt x0 x33) > 57 then (some false) else (num_formed.l0 k x0 x32 (wrap64 (x33+1))))) else (none)) else (none)) else (some true)
end
def num_formed.f (k:Nat) (a0:ByteArray):Option (Bool):=if (a0.size:Int) > 0 then (if 0 < (a0.size:Int) then (num_formed.j0 k a0 ((bt a0 0) == 45)) else (none)) else (num_formed.j0 k a0 false)
theorem formed_l0 (s:ByteArray) (hs:s.size≤140737488351232) (d:Nat):∀ i:Nat,i+d=s.size→Ev (fun k=>num_formed.l0 k s (s.size:Int) (i:Int)) ((s.data.toList.drop i).all isDig):=by
 induction d with
|zero =>
  intro i hi;refine Ev.step (fun k=>by rw [num_formed.l0]) ?_;refine Ev.no (by omega) (Ev.is ?_);rw [List.drop_eq_nil_of_le (by rw [← size_eq'];omega)];rfl
|succ d ih =>
  intro i hi;have hl:i < s.data.toList.length:=by rw [← size_eq'];omega
  have hd:s.data.toList.drop i=s.data.toList[i] :: s.data.toList.drop (i+1):=List.drop_eq_getElem_cons hl;have hb:bt s (i:Int)=(s.data.toList[i].toNat:Int):=by rw [bt_eq,Int.toNat_natCast,List.getD_eq_getElem?_getD,List.getElem?_eq_getElem hl];rfl
  have hc:=isDig_iff s.data.toList[i];rw [← hb] at hc;refine Ev.step (fun k=>by rw [num_formed.l0]) ?_;refine Ev.yes (by omega) (Ev.yes (by omega) (Ev.yes (by omega) (Ev.both (fun h=>Ev.is ?_) (fun h=>Ev.both (fun h2=>Ev.is ?_) (fun h2=>?_)))))
  ·rw [hd,List.all_cons];have:isDig s.data.toList[i]=false:=by rw [← Bool.not_eq_true,hc];omega
   rw [this];rfl
  ·rw [hd,List.all_cons];have:isDig s.data.toList[i]=false:=by rw [← Bool.not_eq_true,hc];omega
   rw [this];rfl
  ·rw [hd,List.all_cons,hc.mpr ⟨by omega,by omega⟩,Bool.true_and,show wrap64 ((i:Int)+1)=((i+1:Nat):Int) by unfold wrap64;omega];exact ih (i+1) (by omega)
theorem formed_j2 (s:ByteArray) (hs:s.size≤140737488351232) (b:Bool):Ev (fun k=>num_formed.j2 k s b) (!b && s.data.toList.all isDig):=by
 refine Ev.step (fun k=>by rw [num_formed.j2]) ?_;refine Ev.both (fun h=>Ev.is (by rw [h];rfl)) (fun h=>?_);have:=formed_l0 s hs s.size 0 (by omega);rw [Bool.not_eq_true] at h;rw [h];exact this
theorem formed_j1 (s:ByteArray) (hs:s.size≤140737488351232) (b:Bool):Ev (fun k=>num_formed.j1 k s b) (formedM s.data.toList b):=by
 refine Ev.step (fun k=>by rw [num_formed.j1]) ?_;have hsz:=size_eq' s;have hb:bt s 0=((s.data.toList.getD 0 0).toNat:Int):=bt_eq s 0;rw [ByteArray.toList_eq];generalize hl:s.data.toList=l at *
 cases l with
|nil =>
  refine Ev.yes rfl ?_;have:=formed_j2 s hs true;rw [hl] at this;exact this
|cons c r =>
  have e:formedM (c :: r) b=(!(c == 48 && (b || decide (1 < (c :: r).length))) && (c :: r).all isDig):=by simp [formedM]
  rw [e]
  have h48:bt s 0=48 ↔ (c == 48)=true:=by
   rw [hb,beq_iff_eq];exact byte_is c 48
  refine Ev.no (by simp) (Ev.yes (by simp only [List.length_cons] at hsz;omega) (Ev.both (fun h=>?_) (fun h=>?_)))
  ·rw [h48.mp h];refine Ev.both (fun hb=>?_) (fun hb=>?_)
   ·have:=formed_j2 s hs true;rw [hl] at this;rw [hb];exact this
   ·have:=formed_j2 s hs (decide ((s.size:Int) > 1));rw [hl] at this;rw [Bool.not_eq_true] at hb;rw [hb];rw [show decide ((s.size:Int) > 1)=decide (1 < (c :: r).length) by rw [hsz,decide_eq_decide,List.length_cons];omega] at this ⊢;exact this
  ·rw [h48] at h;rw [Bool.not_eq_true _ |>.mp h];have:=formed_j2 s hs false;rw [hl] at this;exact this
theorem formed_ev (s:ByteArray) (hs:s.size≤140737488351232):Ev (fun k=>num_formed.f k s) (formedL s.data.toList):=by
 unfold num_formed.f;have hsz:=size_eq' s;have hb:bt s 0=((s.data.toList.getD 0 0).toNat:Int):=bt_eq s 0;have hx:=Lib.extract_to_end s 1;have hxs:(s.extract 1 s.size).size≤140737488351232:=by rw [size_eq',hx,List.length_drop];omega
 have key:Ev (fun k=>num_formed.j0 k s (negOf s.data.toList)) (formedL s.data.toList):=by
  refine Ev.step (fun k=>by rw [num_formed.j0]) ?_;refine Ev.both (fun h=>?_) (fun h=>?_)
  ·have hp:1≤s.size:=by
    rw [hsz];cases hl:s.data.toList with
   |nil=>rw [hl] at h;simp [negOf] at h
   |cons c r=>simp
   refine Ev.yes (by omega) ?_;have:=formed_j1 (s.extract 1 s.size) hxs (negOf s.data.toList);rw [hx] at this;have e:formedL s.data.toList=formedM (s.data.toList.drop 1) (negOf s.data.toList):=by simp [formedL,formedM,magOf,h]
   rw [e];exact this
  ·have:=formed_j1 s hs (negOf s.data.toList);have e:formedL s.data.toList=formedM s.data.toList (negOf s.data.toList):=by simp [formedL,formedM,magOf,h]
   rw [e];exact this
 have hn:s.size > 0→(bt s 0 == 45)=negOf s.data.toList:=by
  intro h;rw [hb]
  cases hl:s.data.toList with
 |nil=>rw [hl,List.length_nil] at hsz;omega
 |cons c r =>
   simp only [negOf,List.getD_cons_zero,List.head?_cons]
   rw [Bool.eq_iff_iff,beq_iff_eq,beq_iff_eq,Option.some_inj];exact byte_is c 45
 refine Ev.both (fun h=>Ev.yes h ?_) (fun h=>?_)
 ·rw [hn (by omega)];exact key
 ·have e:negOf s.data.toList=false:=by
   cases hl:s.data.toList with
  |nil=>rfl
  |cons c r=>rw [hl] at hsz;simp at hsz;omega
  rw [e] at key;exact key
mutual
def days_Of.j0:Nat→Bool→Int→Int→Int→Option (Int×Int)
|0,_,_,_,_=>none
|k+1,x27,x209000,x209001,x209002=>if x27=true then (some (0,11)) else ((days_before.f x209000).bind fun t210=>(days_Of.l0 k (wrap64 ((wrap64 (t210+x209002)) - 1)) 1 x209000 x209001 x209002))
def days_Of.l0:Nat→Int→Int→Int→Int→Int→Option (Int×Int)
|0,_,_,_,_,_=>none
|k+1,x2,x4,x209000,x209001,x209002=>if x4 < x209001 then ((days_Length.f x209000 x4).bind fun t211=>(days_Of.l0 k (wrap64 (x2+t211)) (wrap64 (x4+1)) x209000 x209001 x209002)) else (some (x2,0))
end
def days_Of.f (k:Nat) (a0_0:Int) (a0_1:Int) (a0_2:Int):Option (Int×Int):=if a0_0 < 1900 then (days_Of.j0 k true a0_0 a0_1 a0_2) else (if a0_0 > 2199 then (days_Of.j0 k true a0_0 a0_1 a0_2) else (if a0_2 < 1 then (days_Of.j0 k true a0_0 a0_1 a0_2) else ((days_Length.f a0_0 a0_1).bind fun t209=>(days_Of.j0 k (decide (a0_2 > t209)) a0_0 a0_1 a0_2))))
end A
namespace B
open Go.RowKit WW WL WM
section
variable {P:Program} {ops:Array Oper} {rest:List Oper} {o:Oper} {Q:Exit→Act→World→Prop} {a:Act} {w V W w1:World} {g g':Nat}
theorem bk3 {w:World} {g t:Nat} {v0 v1 v2:Value} (B:Aside0 (w.heap[g]?=some (.cells #[v0,v1,v2] t (0,0)))):w.cell? ⟨g,0,none⟩=some v0∧w.cell? ⟨g,1,none⟩=some v1∧w.cell? ⟨g,2,none⟩=some v2∧w.frozen? ⟨g,0,none⟩=false∧w.frozen? ⟨g,1,none⟩=false∧w.frozen? ⟨g,2,none⟩=false:=⟨(blk_cell B.out 0).trans rfl,(blk_cell B.out 1).trans rfl,(blk_cell B.out 2).trans rfl,blk_frozen B.out 0,blk_frozen B.out 1,blk_frozen B.out 2⟩
theorem bk5 {w:World} {g t:Nat} {v0 v1 v2 v3 v4:Value} (B:Aside0 (w.heap[g]?=some (.cells #[v0,v1,v2,v3,v4] t (0,0)))):w.cell? ⟨g,0,none⟩=some v0∧w.cell? ⟨g,1,none⟩=some v1∧w.cell? ⟨g,2,none⟩=some v2∧w.cell? ⟨g,3,none⟩=some v3∧w.cell? ⟨g,4,none⟩=some v4∧w.frozen? ⟨g,0,none⟩=false∧w.frozen? ⟨g,1,none⟩=false∧w.frozen? ⟨g,2,none⟩=false∧w.frozen? ⟨g,3,none⟩=false∧w.frozen? ⟨g,4,none⟩=false:=⟨(blk_cell B.out 0).trans rfl,(blk_cell B.out 1).trans rfl,(blk_cell B.out 2).trans rfl,(blk_cell B.out 3).trans rfl,(blk_cell B.out 4).trans rfl,blk_frozen B.out 0,blk_frozen B.out 1,blk_frozen B.out 2,blk_frozen B.out 3,blk_frozen B.out 4⟩
theorem bkm {ob:Obj} (B:Aside0 (V.heap[g]?=some ob)) (hb:Below W.heap.size W w1) (hs:V.heap[g]?=some ob→W.heap[g]?=some ob:=by (intro h;(with_reducible repeat (first|refine blk_drewN ?_ _|refine blk_drew ?_|refine blk_alloc ?_ _));exact h)):Aside0 (w1.heap[g]?=some ob):=⟨blk_below (hs B.out) hb⟩
theorem nlm {ob:Obj} (hg:g'=W.heap.size) (B:Aside0 (V.heap[g]?=some ob)) (hs:V.heap[g]?=some ob→W.heap[g]?=some ob:=by (intro h;(with_reducible repeat (first|refine blk_drewN ?_ _|refine blk_drew ?_|refine blk_alloc ?_ _));exact h)):Aside0 (g≠g'):=⟨by rw [hg];exact Nat.ne_of_lt (blk_lt (hs B.out))⟩
theorem ngm {ob:Obj} (hg:g'=W.heap.size) (B:Aside0 (V.heap[g]?=some ob)) (hs:V.heap[g]?=some ob→W.heap[g]?=some ob:=by (intro h;(with_reducible repeat (first|refine blk_drewN ?_ _|refine blk_drew ?_|refine blk_alloc ?_ _));exact h)):Aside0 (g'≠g):=⟨by rw [hg];exact Nat.ne_of_gt (blk_lt (hs B.out))⟩
end
end B
namespace B
open Go.Lib Go.RowKit WW
theorem trow_digits (u m k:Nat) (hmk:m+k=19) (h1:u / 10 ^ (k+1)=0) (h2:k=0∨u / 10 ^ k≠0) :
    (decDigits u).length=20 - m∧∀ i,i < (decDigits u).length→(trow u m)[m+i]?=some (.int .u8 (((decDigits u).getD i 0).toNat:Int)):=by
  have hn:=nDigits_of u k h1 h2;have hl:(decDigits u).length=20 - m:=by rw [decDigits_length,hn];omega
  refine ⟨hl,fun i hi=>?_⟩;rw [trow_at u m (m+i) (by omega),if_pos (by omega)]
  have:(decDigits u).getD i 0=dg u (19 - (m+i)):=by
    rw [decDigits_eq,List.getD_eq_getElem?_getD,List.getElem?_map,List.getElem?_range (by rw [hn];omega),hn];simp only [Option.map_some,Option.getD_some]
    congr 1;omega
  rw [this,dg];simp only [UInt8.toNat_ofNat']
  rw [Nat.mod_eq_of_lt (show 48+u / 10 ^ (19 - (m+i)) % 10 < 2 ^ 8 by omega)]
theorem conv_row {P:Program} (w:World) (T src dst e:TypeId) (hs:P.underlying src=some (.slice e)) (he:P.underlying e=some (.int .u8)) (hd:P.underlying dst=some .string)
    (Y:Array Value) (m len cap:Nat) (l:List UInt8) (hl:l.length=len) (h:∀ i,i < l.length→Y[m+i]?=some (.int .u8 ((l.getD i 0).toNat:Int))) :
    (convert src dst (.slice (some ⟨w.heap.size,m,none⟩) len cap)).run P (w.alloc (.cells Y T))=.ok (.string ⟨l.toArray⟩) (w.alloc (.cells Y T)):=by
  rw [run_convert_bytes_arg (w.alloc (.cells Y T)) src e hs he w.heap.size m len cap (l.map fun b=>(b.toNat:Int)) (by simpa using hl) (fun i hi=>by
    rw [World.cell?_alloc_new,h i (by omega)];congr 2
    simp [List.getD_eq_getElem?_getD,List.getElem?_map]
    rw [List.getElem?_eq_getElem (by omega:i < l.length)];rfl) dst hd]
  congr 3
  simp only [strOfNums,List.map_map]
  congr 2
  conv=>rhs;rw [← List.map_id l]
  refine List.map_congr_left fun b _=>?_
  simp
theorem itoa_pos {n:Int} (h:¬ n < 0):itoa n=decDigits n.natAbs:=by rw [itoa,if_neg h];congr 1;omega
theorem TabAt.below {g:Nat} {l:List Int} {w w':World} (h:TabAt g l w) (hb:Below w.heap.size w w'):TabAt g l w':=by
  refine ⟨Nat.lt_of_lt_of_le h.1 hb.size,fun i hi=>?_⟩;rw [← h.2 i hi];exact hb.cell (p:=⟨g,i,none⟩) h.1
theorem SpAt.below {w w':World} (h:SpAt w) (hb:Below w.heap.size w w'):SpAt w' :=
  ⟨Nat.lt_of_lt_of_le h.1 hb.size,fun c hc=>by rw [← h.2 c hc];exact hb.cell (p:=⟨0,c,none⟩) h.1⟩
theorem MxAt.below {w w':World} (h:MxAt w) (hb:Below w.heap.size w w'):MxAt w':=by
  obtain ⟨h1,m,hm⟩:=h;exact ⟨Nat.lt_of_lt_of_le h1 hb.size,m,by rw [← hm];exact hb.cell (p:=⟨1,0,none⟩) h1⟩
theorem gl_below {w w':World} (h:Gl w) (hb:Below w.heap.size w w'):Gl w':=⟨TabAt.below h.1 hb,h.2.1.below hb,h.2.2.below hb⟩
end B
namespace WL
section
variable {P:Program} {ops:Array Oper} {Q:Exit→Act→World→Prop} {md:Region.Mode} {S:World→Prop} {ds:List Nat}
theorem one_ {i:Nat} {N:Option Tmp} {oi:Oper} {fuel:Nat} {l:Array Bool} {a:Act} {w:World} (l':Array Bool) (hi:ops[i]?=some oi) (hN:oi.dst=N) (hc:readyB md ops l l' i=true) (hd:i ∉ ds)
    (h:∀ K:Act→World→Prop,Shut (∀ a' w',S w'→(S w'→wpAnyLast P md ops Q S ds fuel l' a' w')→K a' w')→if Region.wanted oi (yielded ops a.tmps)=true then Oper.wp P oi a w K Q else K (a.put N undef) w) :
    wpAnyLast P md ops Q S ds (fuel+1) l a w:=by
  subst hN;simp only [readyB,Bool.and_eq_true,beq_iff_eq] at hc
  obtain ⟨h1,h2⟩:=hc;subst h2;exact wpAnyLast_ready h1 (by simp) (AllReadyL.cons hi hd (fun K hK=>h K hK) AllReadyL.nil)
theorem goes_ {oi : Oper} {N : Option Tmp} {a : Act} {w : World} {K : Act → World → Prop} {f : FuncId} {fn : Func} {as_ : Array Operand} {ts : Array TypeId} (hf : P.funcs[f]? = some fn) (hname : (fn.name == "runtime.NumGoroutine") = false) (hb : fn.body.isSome = true) (args : Array Value)
    (hw:Region.wanted oi (yielded ops a.tmps)=true) (hN:oi.dst=N) (hop:oi.op=.call { callee:=.value (.func f),args:=as_,argTypes:=ts }) (hargs:as_.map a.eval=args)
    (h:Calls P f args w fun e w'=>∃ v,e=.returned v∧K (a.put N v) w'):if Region.wanted oi (yielded ops a.tmps)=true then Oper.wp P oi a w K Q else K (a.put N undef) w:=by
  refine call_ f args hw hN ?_ h;have he:=enters_ hf hname hb args w;unfold execOp;simp [hop,resolve,Deferred.ofValue,invoke,Act.eval,hargs,he]
end
end WL
namespace A
open Go.RowKit B WW WL WM
theorem zq1 {P:Prop} (h:P:=by repeat (first|(with_reducible first|assumption|apply has_drewN|apply has_drew|refine has_same ?_|apply any_drewN|apply any_drew|apply any_set|exact ⟨_,‹_›⟩)|(with_reducible refine has_other (by simp) ?_)|(go_simp;done)|exact ⟨_,by go_simp⟩)):P:=h
theorem zq64 {P:Prop} (h:P:=by (with_reducible repeat (first|refine blk_drewN ?_ _|refine blk_drew ?_|refine blk_alloc ?_ _));refine blk_put (cs:=#[.string ((rd_T35 l0 x10_1).f0),.string (⟨#[]⟩:ByteArray)]) ?_ 1 _ rfl;(with_reducible repeat (first|refine blk_drewN ?_ _|refine blk_drew ?_|refine blk_alloc ?_ _));refine blk_put (cs:=#[.string (⟨#[]⟩:ByteArray),.string (⟨#[]⟩:ByteArray)]) ?_ 0 _ rfl;(with_reducible repeat (first|refine blk_drewN ?_ _|refine blk_drew ?_|refine blk_alloc ?_ _));exact BK109.out):P:=h
end A
namespace B
open Go.RowKit WW WL WM
section
variable {P:Program} {md:Region.Mode} {ops:Array Oper} {Q:Exit→Act→World→Prop} {S:World→Prop} {ds:List Nat} {T:Bool×List (List Nat×List Nat)} {BB:List Nat} {oi:Oper} {v:Value} {fuel:Nat} {l l':Array Bool} {a a':Act} {w:World}
theorem nA (N:Nat) (h:wpAnyLast P md ops Q S ds fuel l a' w) (ha:a.put (some N) v=a':=by (simp only [Act.put,List.setIfInBounds_toArray,List.set_cons_zero,List.set_cons_succ,i64_w,i32_w];rfl)):wpAnyLast P md ops Q S ds fuel l (a.put (some N) v) w:=norm_ ha h
end
end B
namespace B
open Go.RowKit
theorem WordW.a {W:World} {g:Nat} {kind:Int} {S:ByteArray} {i pa pe:Int} (h:WordW W g kind S i pa pe) (x:Int):WordW (W.setCell ⟨g+1,0,none⟩ (.int .i64 x)) g kind S i x pe :=
  ⟨has_other (by simp) h.k0,has_other (by simp) h.k1,has_other (by simp) h.k2,has_same ⟨_,h.k3⟩,has_other (by simp) h.k4,by rw [World.frozen?_setCell];exact h.f0,by rw [World.frozen?_setCell];exact h.f1,by rw [World.frozen?_setCell];exact h.f2,by rw [World.frozen?_setCell];exact h.f3,by rw [World.frozen?_setCell];exact h.f4⟩
end B
namespace A
open Go.RowKit B WW WL WM
attribute [local go_sem] max2_int min2_int max_two min_two max_three min_three max_four min_four
set_option maxHeartbeats 8000000
set_option maxRecDepth 100000
theorem goesF_ {P : Program} {ops : Array Oper} {Q : Exit → Act → World → Prop} {oi : Oper} {N : Option Tmp} {a : Act} {w : World} {K : Act → World → Prop} {f : FuncId} {fn : Func} {o : Operand} {as_ : Array Operand} {ts : Array TypeId} {cap : Array Value} (hf : P.funcs[f]? = some fn) (hname : (fn.name == "runtime.NumGoroutine") = false) (hb : fn.body.isSome = true) (args : Array Value)
  (hw:Region.wanted oi (yielded ops a.tmps)=true) (hN:oi.dst=N) (hop:oi.op=.call { callee:=.value o,args:=as_,argTypes:=ts }) (ho:a.eval o=.func (.func f) #[] cap) (hargs:as_.map a.eval++cap=args)
  (h:Calls P f args w fun e w'=>∃ v,e=.returned v∧K (a.put N v) w'):if Region.wanted oi (yielded ops a.tmps)=true then Oper.wp P oi a w K Q else K (a.put N undef) w:=by
 refine call_ f args hw hN ?_ h;have he:=enters_ hf hname hb args w;unfold execOp;simp [hop,resolve,Deferred.ofValue,invoke,ho,hargs,he]
def lineV (d a:Int) (rf tx:ByteArray):Value:=.agg #[.int .i64 d,.int .i64 a,.string rf,.string tx]
theorem m64_maskN (a:Nat) (ha:a < 18446744073709551616):bits .and .u64 (a:Int) 4294967295=((a % 4294967296:Nat):Int):=by
 have h:=bits_and_u64_nat a 4294967295 ha (by omega);have e:a &&& 4294967295=a % 4294967296:=Nat.and_two_pow_sub_one_eq_mod a 32;rw [e] at h;exact h
theorem m64_divN (a:Nat):(a:Int) / 4294967296=((a / 4294967296:Nat):Int):=by omega
theorem m64_mulN (a b:Nat):(a:Int) * (b:Int)=((a * b:Nat):Int):=(Int.natCast_mul a b).symm
theorem m64_addN (a b:Nat):(a:Int)+(b:Int)=((a+b:Nat):Int):=(Int.natCast_add a b).symm
theorem m64_wrapN (a:Nat) (ha:a < 18446744073709551616):IntKind.u64.wrap (a:Int)=(a:Int):=by rw [IntKind.wrap_u64];omega
theorem m64_wrapM (a:Nat):IntKind.u64.wrap (a:Int)=((a % 18446744073709551616:Nat):Int):=by rw [IntKind.wrap_u64];omega
theorem bits_Mul64.nat (x y:Nat) (hx:x < 18446744073709551616) (hy:y < 18446744073709551616) (w:World) :
  Calls Tryd.prog 91 #[.int .u64 x,.int .u64 y] w fun e w'=>e=.returned (.tuple #[.int .u64 ((x * y / 18446744073709551616:Nat):Int),.int .u64 ((x * y % 18446744073709551616:Nat):Int)])∧w'=w:=by
 obtain ⟨bd,bt,bw,hhi⟩:=Lib.mul64_hi x y hx hy;have ba:=Lib.half_mul_le (a:=x / 4294967296) (b:=y / 4294967296) (by omega) (by omega);have bb:=Lib.half_mul_le (a:=x / 4294967296) (b:=y % 4294967296) (by omega) (by omega);have bc:=Lib.half_mul_le (a:=x % 4294967296) (b:=y / 4294967296) (by omega) (by omega);have ba':x / 4294967296 * (y / 4294967296) < 18446744073709551616:=by omega
 have bb':x / 4294967296 * (y % 4294967296) < 18446744073709551616:=by omega
 have bc':x % 4294967296 * (y / 4294967296) < 18446744073709551616:=by omega
 have bh1:x / 4294967296 * (y / 4294967296)+(x / 4294967296 * (y % 4294967296)+x % 4294967296 * (y % 4294967296) / 4294967296) / 4294967296 < 18446744073709551616:=by omega
 have bh:x / 4294967296 * (y / 4294967296)+(x / 4294967296 * (y % 4294967296)+x % 4294967296 * (y % 4294967296) / 4294967296) / 4294967296+((x / 4294967296 * (y % 4294967296)+x % 4294967296 * (y % 4294967296) / 4294967296) % 4294967296+x % 4294967296 * (y / 4294967296)) / 4294967296 < 18446744073709551616:=by omega
 go_enter Tryd.func91,Tryd.ntmps91
 go_wp2
 simp only [m64_maskN x hx,m64_maskN y hy,m64_divN,m64_mulN,m64_addN,m64_wrapN _ bd,m64_wrapN _ bb',m64_wrapN _ bt,m64_maskN _ bt,m64_wrapN _ bc',m64_wrapN _ bw,m64_wrapN _ ba',m64_wrapN _ bh1,m64_wrapN _ bh,m64_wrapM (x * y)]
 rw [hhi];go_ret2
 exact ⟨rfl,rfl⟩
theorem parts_at0 (W:World) (a b c:ByteArray):(Instr.index 119 (.agg #[.string a,.string b,.string c]) (.int .i64 0)).run Tryd.prog W=.ok (.string a) W:=by simp [Instr.index,go_sem]
theorem parts_at1 (W:World) (a b c:ByteArray):(Instr.index 119 (.agg #[.string a,.string b,.string c]) (.int .i64 1)).run Tryd.prog W=.ok (.string b) W:=by simp [Instr.index,go_sem]
theorem parts_at2 (W:World) (a b c:ByteArray):(Instr.index 119 (.agg #[.string a,.string b,.string c]) (.int .i64 2)).run Tryd.prog W=.ok (.string c) W:=by simp [Instr.index,go_sem]
end A
namespace WW
open Go.RowKit
section
variable {P:Program} {d:Nat} {xs ys:Array Value} {f:Field} {fs:List Field} {a b:Value} {r s:Bool} {w:World}
theorem eqf_last (hn : (f.name == "_") = false) (ha : (part f.type xs f.offset).run P w = .ok a w) (hb : (part f.type ys f.offset).run P w = .ok b w) (he : (Op.equalIn d f.type a b).run P w = .ok r w) : (Op.eqFields d xs ys [f]).run P w = .ok r w := by
  have hn' : f.name ≠ "_" := by simpa using hn
  simp only [Op.eqFields,if_pos hn',Sem.run_bind,ha,hb,he,Result.andThen_ok]
  cases r <;> simp
theorem eqf_cons (hn : (f.name == "_") = false) (ha : (part f.type xs f.offset).run P w = .ok a w) (hb : (part f.type ys f.offset).run P w = .ok b w) (he : (Op.equalIn d f.type a b).run P w = .ok r w) (hr : (Op.eqFields d xs ys fs).run P w = .ok s w) : (Op.eqFields d xs ys (f :: fs)).run P w = .ok (r && s) w := by
  have hn' : f.name ≠ "_" := by simpa using hn
  rw [Op.eqFields];simp only [if_pos hn',Sem.run_bind,ha,hb,he,Result.andThen_ok]
  cases r
  · simp
  · simpa using hr
theorem eqA_of {t:TypeId} {fs:Array Field} (hu:P.underlying t=some (.struct fs)) (hp:P.stoodInHeld t=false) (h:(Op.eqFields d xs ys fs.toList).run P w=.ok r w):(Op.equalIn (d+1) t (.agg xs) (.agg ys)).run P w=.ok r w:=by
  have hf:P.fieldsOf t=fs:=by simp [Program.fieldsOf,hu]
  rw [run_equalIn_struct (P:=P) w d t xs ys (by rw [hf];exact hu) hp,hf];exact h
end
end WW
namespace A
open Go.RowKit B WW WL WM
attribute [local go_sem] max2_int min2_int max_two min_two max_three min_three max_four min_four
structure S27 where
  f0:Int
  f1:Int
  f2:ByteArray
  f3:Int
def z27:S27:=⟨(0:Int),(0:Int),(⟨#[]⟩:ByteArray),(0:Int)⟩
def k27:Kd S27:=Kd.iso (Kd.pair (Kd.int .i64) (Kd.pair (Kd.int .i64) (Kd.pair Kd.string (Kd.int .i64)))) (fun x:S27=>(x.f0,x.f1,x.f2,x.f3))
theorem k27_open {w:World} {x:S27} {cs:List Value} (h:k27.K w x cs):cs=[.int .i64 x.f0,.int .i64 x.f1,.string x.f2,.int .i64 x.f3]:=by
  obtain ⟨_,_,rfl,rfl,⟨_,_,rfl,rfl,⟨_,_,rfl,rfl,rfl⟩⟩⟩:=h;exact rfl
theorem k27_openM {w:World} {base:Nat} {ok:Nat→Prop} {x:S27} {cs:List Value} (h:k27.M w base ok x cs):cs=[.int .i64 x.f0,.int .i64 x.f1,.string x.f2,.int .i64 x.f3]:=by
  obtain ⟨_,_,rfl,rfl,⟨_,_,rfl,rfl,⟨_,_,rfl,rfl,rfl⟩⟩⟩:=h;exact rfl
theorem k27_mkM (w:World) (base:Nat) (ok:Nat→Prop) (x:S27):k27.M w base ok x [.int .i64 x.f0,.int .i64 x.f1,.string x.f2,.int .i64 x.f3]:=⟨[.int .i64 x.f0],[.int .i64 x.f1,.string x.f2,.int .i64 x.f3],rfl,rfl,⟨[.int .i64 x.f1],[.string x.f2,.int .i64 x.f3],rfl,rfl,⟨[.string x.f2],[.int .i64 x.f3],rfl,rfl,rfl⟩⟩⟩
def rd_T27 (xs:List S27) (i:Int):S27:=xs.getD i.toNat z27
theorem at_T27 {w:World} {A:Option Addr} {n:Nat} {xs:List S27} (h:Kd.C k27 w A n xs) (i:Int) (h0:0≤i) (h1:i < n):∃ ad ,A=some ad∧w.cell? (ad.add (i.toNat * 4))=some (.int .i64 (rd_T27 xs i).f0)∧w.cell? ⟨(ad.add (i.toNat * 4)).block,(ad.add (i.toNat * 4)).off+1,none⟩=some (.int .i64 (rd_T27 xs i).f1)∧w.cell? ⟨(ad.add (i.toNat * 4)).block,(ad.add (i.toNat * 4)).off+2,none⟩=some (.string (rd_T27 xs i).f2)∧w.cell? ⟨(ad.add (i.toNat * 4)).block,(ad.add (i.toNat * 4)).off+3,none⟩=some (.int .i64 (rd_T27 xs i).f3):=by
  obtain ⟨ad,c,e,_,hK,hc0⟩:=Kd.C_get h z27 i h0 h1;have hc:∀ j u,c[j]?=some u→w.cell? (ad.add (i.toNat * 4+j))=some u:=hc0;obtain rfl:=k27_open hK;exact ⟨ad,e,hc 0 _ rfl,by rw [← add_field _ _ 1 (by omega)];exact hc 1 _ rfl,by rw [← add_field _ _ 2 (by omega)];exact hc 2 _ rfl,by rw [← add_field _ _ 3 (by omega)];exact hc 3 _ rfl⟩
theorem eqA27 (d:Nat) (w:World) (x0 y0 x1 y1:Int) (x2 y2:ByteArray) (x3 y3:Int) :
    (Op.equalIn (d+2) 27 (.agg #[.int .i64 x0,.int .i64 x1,.string x2,.int .i64 x3]) (.agg #[.int .i64 y0,.int .i64 y1,.string y2,.int .i64 y3])).run Tryd.prog w=.ok (x0 == y0 && (x1 == y1 && (x2.toList == y2.toList && (x3 == y3)))) w:=by
  refine eqA_of Tryd.underlying27 (by kernel_rfl) ?_;refine eqf_cons (by rfl) (by go_simp;rfl) (by go_simp;rfl) (by go_simp) ?_;refine eqf_cons (by rfl) (by go_simp;rfl) (by go_simp;rfl) (by go_simp) ?_;refine eqf_cons (by rfl) (by go_simp;rfl) (by go_simp;rfl) (by go_simp) ?_;exact eqf_last (by rfl) (by go_simp;rfl) (by go_simp;rfl) (by go_simp)
theorem eqA35 (d:Nat) (w:World) (x0 y0 x1 y1:ByteArray) :
    (Op.equalIn (d+2) 35 (.agg #[.string x0,.string x1]) (.agg #[.string y0,.string y1])).run Tryd.prog w=.ok (x0.toList == y0.toList && (x1.toList == y1.toList)) w:=by
  refine eqA_of Tryd.underlying35 (by kernel_rfl) ?_;refine eqf_cons (by rfl) (by go_simp;rfl) (by go_simp;rfl) (by go_simp) ?_;exact eqf_last (by rfl) (by go_simp;rfl) (by go_simp;rfl) (by go_simp)
end A
namespace A
open Go.RowKit B WW WL WM
attribute [local go_sem] max2_int min2_int max_two min_two max_three min_three max_four min_four
set_option maxHeartbeats 8000000
set_option maxRecDepth 100000
mutual
def rules_Check.j0:Nat→Bool→ByteArray→List (S27)→ByteArray→ByteArray→List (S35)→Option (Int)
|0,_,_,_,_,_,_=>none
|k+1,x6,x118000,x118001,x118002,x118003,x118004=>if x6=true then (some 7) else ((dims_Right.f k x118004).bind fun t121=>(if t121=true then (if (x118001.length:Int)=0 then (some 2) else (if (x118001.length:Int) > 8 then (some 9) else (rules_Check.l0 k x118001 (x118001.length:Int) 0))) else (some 14)))
def rules_Check.l0:Nat→List (S27)→Int→Int→Option (Int)
|0,_,_,_=>none
|k+1,x44,x45,x46=>if x46 < x45 then (if 0≤x46 then (if x46 < (x44.length:Int) then ((rules_cond.f k ((rd_T27 x44 x46).f0) ((rd_T27 x44 x46).f1) ((rd_T27 x44 x46).f2) ((rd_T27 x44 x46).f3)).bind fun t124=>(if t124=0 then (rules_Check.l0 k x44 x45 (wrap64 (x46+1))) else (some t124))) else (none)) else (none)) else (some 0)
end
def rules_Check.f (k:Nat) (a0_0:ByteArray) (l0_1:List (S27)) (a0_2:ByteArray) (a0_3:ByteArray) (l0_4:List (S35)):Option (Int):=(words_Code.f a0_0).bind fun t118=>(if t118=true then ((words_Code.f a0_2).bind fun t119=>(if t119=true then (if a0_3.toList=([]:List UInt8) then (rules_Check.j0 k false a0_0 l0_1 a0_2 a0_3 l0_4) else ((words_Code.f a0_3).bind fun t120=>(rules_Check.j0 k (!t120) a0_0 l0_1 a0_2 a0_3 l0_4))) else (rules_Check.j0 k true a0_0 l0_1 a0_2 a0_3 l0_4))) else (rules_Check.j0 k true a0_0 l0_1 a0_2 a0_3 l0_4))
def nOfC (c:S27) (d a:Int):Int:=if c.f0=4 then d else a
def sOfC (c:S27) (rf tx:ByteArray):ByteArray:=if c.f0=2 then rf else tx
def testF (c:S27) (d a:Int) (rf tx:ByteArray):Bool :=
 if c.f1=2 then decide (nOfC c d a ≥ c.f3) else if c.f1=3 then decide (nOfC c d a≤c.f3) else
 if c.f1=4 then Lib.contains (sOfC c rf tx).data.toList c.f2.data.toList else if c.f1=5 then Lib.hasPrefix (sOfC c rf tx).data.toList c.f2.data.toList else
 if c.f0=1∨c.f0=4 then decide (nOfC c d a=c.f3) else decide ((sOfC c rf tx).toList=c.f2.toList)
theorem nOf_calls (g:Nat) (c:S27) (d a:Int) (rf tx:ByteArray) (w:World) (h0:w.cell? ⟨g,0,none⟩=some (.int .i64 c.f0)) :
  Calls Tryd.prog 17 #[.agg #[.int .i64 d,.int .i64 a,.string rf,.string tx],.pointer (some ⟨g,0,none⟩)] w fun e w'=>e=.returned (.int .i64 (nOfC c d a))∧Below w.heap.size w w':=by
 have hlt:=lt_of_cell h0;unfold nOfC;go_enter Tryd.func17,Tryd.ntmps17
 by_cases e:c.f0=4
 ·have e0:decide (c.f0=4)=true:=decide_eq_true e;rw [if_pos e];go_wp2_with fail
  go_ret
  exact ⟨rfl,below_alloc (Below.refl _ _) _⟩
 have e0:decide (c.f0=4)=false:=decide_eq_false e;rw [if_neg e];go_wp2_with fail
 go_ret
 exact ⟨rfl,below_alloc (Below.refl _ _) _⟩
theorem sOf_calls (g:Nat) (c:S27) (d a:Int) (rf tx:ByteArray) (w:World) (h0:w.cell? ⟨g,0,none⟩=some (.int .i64 c.f0)) :
  Calls Tryd.prog 18 #[.agg #[.int .i64 d,.int .i64 a,.string rf,.string tx],.pointer (some ⟨g,0,none⟩)] w fun e w'=>e=.returned (.string (sOfC c rf tx))∧Below w.heap.size w w':=by
 have hlt:=lt_of_cell h0;unfold sOfC;go_enter Tryd.func18,Tryd.ntmps18
 by_cases e:c.f0=2
 ·have e0:decide (c.f0=2)=true:=decide_eq_true e;rw [if_pos e];go_wp2_with fail
  go_ret
  exact ⟨rfl,below_alloc (Below.refl _ _) _⟩
 have e0:decide (c.f0=2)=false:=decide_eq_false e;rw [if_neg e];go_wp2_with fail
 go_ret
 exact ⟨rfl,below_alloc (Below.refl _ _) _⟩
structure CEnv (w:World) (g gn gs:Nat) (c:S27):Prop where
 c0:w.cell? ⟨g,0,none⟩=some (.int .i64 c.f0)
 c2:w.cell? ⟨g,2,none⟩=some (.string c.f2)
 c3:w.cell? ⟨g,3,none⟩=some (.int .i64 c.f3)
 fn:w.cell? ⟨gn,0,none⟩=some (.func (.func 17) #[] #[.pointer (some ⟨g,0,none⟩)])
 fs:w.cell? ⟨gs,0,none⟩=some (.func (.func 18) #[] #[.pointer (some ⟨g,0,none⟩)])
theorem CEnv.below {w w':World} {g gn gs:Nat} {c:S27} (h:CEnv w g gn gs c) (hb:Below w.heap.size w w'):CEnv w' g gn gs c :=
 ⟨(hb.cell (p:=⟨g,0,none⟩) (lt_of_cell h.c0)).trans h.c0,(hb.cell (p:=⟨g,2,none⟩) (lt_of_cell h.c2)).trans h.c2,(hb.cell (p:=⟨g,3,none⟩) (lt_of_cell h.c3)).trans h.c3,(hb.cell (p:=⟨gn,0,none⟩) (lt_of_cell h.fn)).trans h.fn,(hb.cell (p:=⟨gs,0,none⟩) (lt_of_cell h.fs)).trans h.fs⟩
def TestK (c:S27) (f:Nat) (cap:Array Value) (g gn gs:Nat):Prop :=
 (c.f1=2∧f=19∧cap=#[.pointer (some ⟨gn,0,none⟩),.pointer (some ⟨g,0,none⟩)])∨(c.f1=3∧f=20∧cap=#[.pointer (some ⟨gn,0,none⟩),.pointer (some ⟨g,0,none⟩)]) ∨
 (c.f1=4∧f=21∧cap=#[.pointer (some ⟨gs,0,none⟩),.pointer (some ⟨g,0,none⟩)])∨(c.f1=5∧f=23∧cap=#[.pointer (some ⟨gs,0,none⟩),.pointer (some ⟨g,0,none⟩)]) ∨
 ((c.f1≠2∧c.f1≠3∧c.f1≠4∧c.f1≠5)∧(((c.f0=1∨c.f0=4)∧f=26∧cap=#[.pointer (some ⟨gn,0,none⟩),.pointer (some ⟨g,0,none⟩)])∨(¬ (c.f0=1∨c.f0=4)∧f=27∧cap=#[.pointer (some ⟨gs,0,none⟩),.pointer (some ⟨g,0,none⟩)])))
theorem rd48_mem (l:List S27) (i:Nat) (h:i < l.length):rd_T27 l (i:Int)∈l:=by
 unfold rd_T27;rw [Int.toNat_natCast,List.getD_eq_getElem?_getD,List.getElem?_eq_getElem h];exact List.getElem_mem h
theorem take48 (l:List S27) (i:Nat) (h:i < l.length):l.take (i+1)=l.take i++[rd_T27 l (i:Int)]:=by
 unfold rd_T27;rw [List.take_add_one,List.getElem?_eq_getElem h,Int.toNat_natCast,List.getD_eq_getElem?_getD,List.getElem?_eq_getElem h];rfl
def rules_Holds.f (k:Nat) (a0_0:ByteArray) (l0_1:List S27) (a0_2 a0_3:ByteArray) (l0_4:List S35) (a1_0 a1_1:Int) (a1_2 a1_3:ByteArray):Option Bool :=
 (rules_Check.f k a0_0 l0_1 a0_2 a0_3 l0_4).bind fun e=>if e=0 then (if a1_2.size < 4294967281∧a1_3.size < 4294967281 then some (l0_1.all fun c=>testF c a1_0 a1_1 a1_2 a1_3) else none) else some false
theorem n48:∀ q,q∈(27:Nat) :: k27.E→q≠64:=by decide
end A
namespace A
open Go.RowKit B WW WL WM
attribute [local go_sem] max2_int min2_int max_two min_two max_three min_three max_four min_four
set_option maxHeartbeats 8000000
set_option maxRecDepth 100000
attribute [local go_sem high] eqA27 eqA35
def rf09_Same.l0:Nat→List (S35)→List (S35)→Int→Option (Bool)
|0,_,_,_=>none
|k+1,x0,x1,x5=>if x5 < (x0.length:Int) then (if 0≤x5 then (if x5 < (x1.length:Int) then (if (!((((rd_T35 x0 x5).f0).toList) == (((rd_T35 x1 x5).f0).toList)) || (!((((rd_T35 x0 x5).f1).toList) == (((rd_T35 x1 x5).f1).toList))))=true then (some false) else (rf09_Same.l0 k x0 x1 (wrap64 (x5+1)))) else (none)) else (none)) else (some true)
def rf09_Same.f (k:Nat) (l0:List (S35)) (l1:List (S35)):Option (Bool):=if (l0.length:Int)=(l1.length:Int) then (rf09_Same.l0 k l0 l1 0) else (some false)
mutual
def rf48_Same.j0:Nat→Bool→ByteArray→List (S27)→ByteArray→ByteArray→List (S35)→ByteArray→List (S27)→ByteArray→ByteArray→List (S35)→Option (Bool)
|0,_,_,_,_,_,_,_,_,_,_,_=>none
|k+1,x41,x218000,x218001,x218002,x218003,x218004,x219000,x219001,x219002,x219003,x219004=>if x41=true then (some false) else (rf48_Same.l0 k 0 x218000 x218001 x218002 x218003 x218004 x219000 x219001 x219002 x219003 x219004)
def rf48_Same.l0:Nat→Int→ByteArray→List (S27)→ByteArray→ByteArray→List (S35)→ByteArray→List (S27)→ByteArray→ByteArray→List (S35)→Option (Bool)
|0,_,_,_,_,_,_,_,_,_,_,_=>none
|k+1,x5,x218000,x218001,x218002,x218003,x218004,x219000,x219001,x219002,x219003,x219004=>if x5 < (x218001.length:Int) then (if 0≤x5 then (if x5 < (x219001.length:Int) then (if (!(((rd_T27 x218001 x5).f0) == ((rd_T27 x219001 x5).f0)) || (!(((rd_T27 x218001 x5).f1) == ((rd_T27 x219001 x5).f1)) || (!((((rd_T27 x218001 x5).f2).toList) == (((rd_T27 x219001 x5).f2).toList)) || (!(((rd_T27 x218001 x5).f3) == ((rd_T27 x219001 x5).f3))))))=true then (some false) else (rf48_Same.l0 k (wrap64 (x5+1)) x218000 x218001 x218002 x218003 x218004 x219000 x219001 x219002 x219003 x219004)) else (none)) else (none)) else (some true)
end
def rf48_Same.f (k:Nat) (a0_0:ByteArray) (l0_1:List (S27)) (a0_2:ByteArray) (a0_3:ByteArray) (l0_4:List (S35)) (a1_0:ByteArray) (l1_1:List (S27)) (a1_2:ByteArray) (a1_3:ByteArray) (l1_4:List (S35)):Option (Bool):=if a0_0.toList=a1_0.toList then (if a0_2.toList=a1_2.toList then (if a0_3.toList=a1_3.toList then (if (l0_1.length:Int)=(l1_1.length:Int) then ((rf09_Same.f k l0_4 l1_4).bind fun t219=>(rf48_Same.j0 k (!t219) a0_0 l0_1 a0_2 a0_3 l0_4 a1_0 l1_1 a1_2 a1_3 l1_4)) else (rf48_Same.j0 k true a0_0 l0_1 a0_2 a0_3 l0_4 a1_0 l1_1 a1_2 a1_3 l1_4)) else (rf48_Same.j0 k true a0_0 l0_1 a0_2 a0_3 l0_4 a1_0 l1_1 a1_2 a1_3 l1_4)) else (rf48_Same.j0 k true a0_0 l0_1 a0_2 a0_3 l0_4 a1_0 l1_1 a1_2 a1_3 l1_4)) else (rf48_Same.j0 k true a0_0 l0_1 a0_2 a0_3 l0_4 a1_0 l1_1 a1_2 a1_3 l1_4)
end A

end Go.Proofs.YtlblkojjpagbkaaDoor