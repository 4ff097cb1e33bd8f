-- By pack.py, a program of this session's.
import Derived.Test.YtkbgkekegjfkfaaGreatDoorX2
import Derived.Test.YtkbgkekegjfkfaaGreatDoorX3
import Derived.Test.YtkbgkekegjfkfaaGreatDoorX4
set_option linter.unusedVariables false
set_option linter.unusedSimpArgs false
namespace Go.Proofs.YtkbgkekegjfkfaaGreatDoor.A
open Go.RowKit B WW WL WM
attribute [local go_sem] max2_int min2_int max_two min_two max_three min_three max_four min_four
set_option maxHeartbeats 8000000
set_option maxRecDepth 100000
def num_size.f (a0:Int):Option (Int):=if I64 a0 then some (a0.natAbs:Int) else none
theorem num_size.same (a0:Int) (hb:I64 a0) (w:World) :
  Calls Tryz.prog 100 #[.int .i64 a0] w fun e w'=>e=.returned (.int .u64 (a0.natAbs:Int))∧w=w':=by
 obtain ⟨h0,h1⟩:=hb;by_cases h:a0 < 0
 ·go_enter Tryz.func100,Tryz.ntmps100
  go_wp2
  go_ret
  exact ⟨ret_int (by rw [wu64,wu64];omega),rfl⟩
 go_enter Tryz.func100,Tryz.ntmps100
 go_wp2
 go_ret
 exact ⟨ret_int (by omega),rfl⟩
theorem num_size.calls (a0 r:Int) (w:World) (h:num_size.f a0=some r) :
  Calls Tryz.prog 100 #[.int .i64 a0] w fun e w'=>e=.returned (.int .u64 r)∧Drawn0 w w':=by
 unfold num_size.f at h;split at h <;> simp only [Option.some.injEq,reduceCtorEq] at h
 rename_i hb
 subst h;refine (num_size.same a0 hb w).mono ?_;rintro e w' ⟨rfl,rfl⟩;exact ⟨rfl,Drawn0.refl _⟩
theorem sl20 (W:World) (b m:Nat) (z:Int) (hz:z=(m:Int)) (h:m < 20) :
  (Instr.sliceAt 136 (.pointer (some ⟨b,0,none⟩)) (some (.int .i64 z)) none none).run Tryz.prog W=.ok (.slice (some ⟨b,m,none⟩) (20 - m) (20 - m)) W:=by
 subst hz;have e1:Tryz.prog.arrayLen 136=20:=by kernel_rfl
 have e2:Tryz.prog.elem 136=5:=by kernel_rfl
 rw [run_sliceAt_array_l W 136 ⟨b,0,none⟩ (by rw [e1,e2];exact Tryz.underlying136) .i64 (m:Int) (by omega) (by rw [e1];omega),e1,e2];have e3:(Go.sizeOf 5).run Tryz.prog W=.ok 1 W:=by kernel_rfl
 rw [e3];simp only [Result.andThen,slicedAt,Int.toNat_natCast,if_neg (show ¬ 20=m by omega),Nat.mul_one,add_plain']
def num_Text.f (a0:Int):Option (ByteArray):=if I64 a0 then some ⟨(Lib.itoa a0).toArray⟩ else none
def days_padded.f (a0:Int):Option (ByteArray):=if a0 < 10 then ((num_Text.f a0).bind fun t169=>(if 1+t169.size≤9223372036854775807 then (some ((⟨#[48]⟩:ByteArray)++t169)) else (none))) else ((num_Text.f a0).bind fun t170=>(some t170))
def days_Text.T4:Bool×List (List Nat×List Nat):=(true,[([],[]),([0],[0]),([1],[1]),([2],[2]),([],[]),([4],[4]),([5,2],[5]),([3,6],[3,6]),([7],[7]),([],[]),([9],[9]),([10,6],[10]),([8,11],[8,11]),([12,11,0,1,2,3,4,5,6,7,8,9,10,11,12],[12]),([13,0,1,2,3,4,5,6,7,8,9,10,11,12,13],[])])
def days_Text.B4:List Nat:=[0,1,3,7,0,16,55,127,255,0,512,1655,4095,8191,16383]
theorem days_Text.bits4:waitsOk days_Text.T4.2 days_Text.B4=true:=by kernel_rfl
def words_Quote.l0:Nat→ByteArray→List Int→Int→Int→Option (ByteArray×Int)
 | 0,_,_,_,_=>none
 | k+1,x0,x4,x11,x12=>if x12 < x11 then (if 0≤x12 then (if x12 < (x0.size:Int) then (if (bt x0 x12)=34 then (if x4.length < 140737488355328 then ((some (x4++[92]:List Int)).bind fun y183=>(if y183.length < 140737488355328 then (words_Quote.l0 k x0 (y183++[bt x0 x12]) x11 (wrap64 (x12+1))) else (none))) else (none)) else (if (bt x0 x12)=92 then (if x4.length < 140737488355328 then ((some (x4++[92]:List Int)).bind fun y189=>(if y189.length < 140737488355328 then (words_Quote.l0 k x0 (y189++[bt x0 x12]) x11 (wrap64 (x12+1))) else (none))) else (none)) else (if x4.length < 140737488355328 then (words_Quote.l0 k x0 (x4++[bt x0 x12]) x11 (wrap64 (x12+1))) else (none)))) else (none)) else (none)) else (if x4.length < 140737488355328 then (some (strOfNums (x4++[34]),0)) else (none))
def words_Quote.f (k:Nat) (a0:ByteArray):Option (ByteArray×Int):=(words_Plain.f a0).bind fun t179=>(if t179=true then (words_Quote.l0 k a0 (([34]:List Int)) (a0.size:Int) 0) else (some ((⟨#[]⟩:ByteArray),5)))
def numS:List ByteArray→ByteArray→Nat→Int
 | [],_,_=>0
 | x :: r,s,i=>if x.toList=s.toList then (i:Int)+1 else numS r s (i+1)
def fieldB:ByteArray:=⟨#[97,109,111,117,110,116,32,114,101,102,32,116,101,120,116,32,100,97,121]⟩
def fieldL:List ByteArray:=[⟨#[97,109,111,117,110,116]⟩,⟨#[114,101,102]⟩,⟨#[116,101,120,116]⟩,⟨#[100,97,121]⟩]
def opB:ByteArray:=⟨#[105,115,32,108,101,97,115,116,32,109,111,115,116,32,104,97,115,32,98,101,103,105,110,115]⟩
def opL:List ByteArray:=[⟨#[105,115]⟩,⟨#[108,101,97,115,116]⟩,⟨#[109,111,115,116]⟩,⟨#[104,97,115]⟩,⟨#[98,101,103,105,110,115]⟩]
theorem ascii_of {s:ByteArray} (h:∀ b∈s.data.toList,b.toNat < 128):∀ (j:Nat) b,s.data.toList[j]?=some b→b.toNat < 128:=fun j b hb=>h b (List.mem_of_getElem? hb)
theorem fieldB_L:(Lib.fields fieldB.data.toList).map (fun l=>(⟨l.toArray⟩:ByteArray))=fieldL:=by decide +kernel
theorem opB_L:(Lib.fields opB.data.toList).map (fun l=>(⟨l.toArray⟩:ByteArray))=opL:=by decide +kernel
theorem fieldB_a:∀ b∈fieldB.data.toList,b.toNat < 128:=by decide
theorem opB_a:∀ b∈opB.data.toList,b.toNat < 128:=by decide
abbrev ruleB:ByteArray:=⟨#[114,117,108,101]⟩
abbrev ifB:ByteArray:=⟨#[105,102]⟩
abbrev andB:ByteArray:=⟨#[97,110,100]⟩
abbrev thenB:ByteArray:=⟨#[116,104,101,110]⟩
abbrev partyB:ByteArray:=⟨#[112,97,114,116,121]⟩
abbrev tagB:ByteArray:=⟨#[116,97,103]⟩
abbrev eqB:ByteArray:=⟨#[61]⟩
def nmd (L:List ByteArray) (n:Int):Option ByteArray:=if 1≤n∧n≤1000 then L[n.toNat - 1]? else none
def txT:List S50→List ByteArray→List ByteArray
 | [],l=>l
 | t :: r,l=>txT r (l++[tagB,t.f0,eqB,t.f1])
def joinB (l:List ByteArray):ByteArray:=⟨(Lib.join (l.map (·.data.toList)) [32]).toArray⟩
def txJ (l:List ByteArray):Option (ByteArray×Int):=if l.length≤140737488355328∧(joinB l).size≤140737488355328 then (if 400 < (joinB l).size then some (⟨#[]⟩,9) else some (joinB l,0)) else none
theorem strs_cells {w:World} {g n:Nat} {xs:List ByteArray} (h:Kd.C Kd.string w (some ⟨g,0,none⟩) n xs) (hn:0 < n):∀ (j:Nat) x,xs[j]?=some x→w.cell? ⟨g,0+j,none⟩=some (.string x):=by
 obtain ⟨ad,e,hc⟩:=h.2.2 hn;obtain rfl:=Option.some.inj e;intro j x hj;obtain ⟨c,_,hK,hcell⟩:=hc j x hj;have hK':c=[.string x]:=hK;subst hK';have:=hcell 0 _ rfl;rw [Nat.zero_add];have e1:j * Kd.string.sz+0=j:=by show j * 1+0=j;omega
 rw [e1] at this;have e2:(⟨g,0,none⟩:Addr).add j=⟨g,j,none⟩:=by unfold Addr.add;split <;> simp_all
 rw [e2] at this;exact this
def rules_follow.f (a0:Bool) (a1:Int):Option (Int):=if a0=true then (some a1) else (some 14)
def num_Add.f (a0:Int) (a1:Int):Option (Int×Bool):=if ((decide ((wrap64 (a0+a1)) > a0)) != (decide (a1 > 0)))=true then (if a1=0 then (some (wrap64 (a0+a1),true)) else (some (0,false))) else (some (wrap64 (a0+a1),true))
def num_Sub.f (a0:Int) (a1:Int):Option (Int×Bool):=if ((decide ((wrap64 (a0 - a1)) < a0)) != (decide (a1 > 0)))=true then (if a1=0 then (some (wrap64 (a0 - a1),true)) else (some (0,false))) else (some (wrap64 (a0 - a1),true))
def bits_Mul64.f (a0:Int) (a1:Int):Option (Int×Int):=if 0≤a0∧a0 < 18446744073709551616∧0≤a1∧a1 < 18446744073709551616 then some (a0 * a1 / 18446744073709551616,a0 * a1 % 18446744073709551616) else none
def num_Mul.f (a0:Int) (a1:Int):Option (Int×Bool):=if I64 a0∧I64 a1 then some (fit (a0 * a1)) else none
def num_Parse.f (a0:ByteArray) (a1 a2:Int):Option (Int×Int):=if a0.size≤140737488351232 then some (parseL a0.data.toList a1 a2) else none
def days_number.l0:Nat→ByteArray→Int→Int→Int→Option (Int×Bool)
 | 0,_,_,_,_=>none
 | k+1,x0,x2,x6,x7=>if x7 < x6 then (if 0≤x7 then (if x7 < (x0.size:Int) then (if (bt x0 x7) < 48 then (some (0,false)) else (if (bt x0 x7) > 57 then (some (0,false)) else (days_number.l0 k x0 (wrap64 ((wrap64 (10 * x2))+(((bt x0 x7) - 48) % 256))) x6 (wrap64 (x7+1))))) else (none)) else (none)) else (some (x2,true))
def days_number.f (k:Nat) (a0:ByteArray):Option (Int×Bool):=days_number.l0 k a0 0 (a0.size:Int) 0
structure Arr3 (W:World) (g:Nat) (x y z:Int):Prop where
 k0:W.cell? ⟨g,0,none⟩=some (.int .i64 x)
 k1:W.cell? ⟨g,1,none⟩=some (.int .i64 y)
 k2:W.cell? ⟨g,2,none⟩=some (.int .i64 z)
 f0:W.frozen? ⟨g,0,none⟩=false
 f1:W.frozen? ⟨g,1,none⟩=false
 f2:W.frozen? ⟨g,2,none⟩=false
theorem Arr3.s0 {W:World} {g:Nat} {x y z:Int} (h:Arr3 W g x y z) (v:Int):Arr3 (W.setCell ⟨g,0,none⟩ (.int .i64 v)) g v y z :=
 ⟨has_same ⟨_,h.k0⟩,has_other (by simp) h.k1,has_other (by simp) h.k2,zq24,zq25,zq26⟩
theorem Arr3.s1 {W:World} {g:Nat} {x y z:Int} (h:Arr3 W g x y z) (v:Int):Arr3 (W.setCell ⟨g,1,none⟩ (.int .i64 v)) g x v z :=
 ⟨has_other (by simp) h.k0,has_same ⟨_,h.k1⟩,has_other (by simp) h.k2,zq24,zq25,zq26⟩
theorem Arr3.s2 {W:World} {g:Nat} {x y z:Int} (h:Arr3 W g x y z) (v:Int):Arr3 (W.setCell ⟨g,2,none⟩ (.int .i64 v)) g x y v :=
 ⟨has_other (by simp) h.k0,has_other (by simp) h.k1,has_same ⟨_,h.k2⟩,zq24,zq25,zq26⟩
theorem Arr3.drawn {W:World} {g:Nat} {x y z:Int} (h:Arr3 W g x y z) (n:Nat):Arr3 (W.drewN n) g x y z:=⟨h.k0,h.k1,h.k2,h.f0,h.f1,h.f2⟩
theorem n50:∀ q,q∈(50:Nat) :: k50.E→q≠71:=by decide
def keyV (kd:Int) (s x:ByteArray):Bool:=decide (kd=1∧s.toList=x.toList)
def fol (b:Bool) (s:Int):Int:=if b=true then s else 14
theorem below_base {bd:Nat} {w w':World} (h:Below bd w w') (hb:bd≤w.heap.size):bd≤w'.heap.size:=Nat.le_trans hb h.size
theorem cell_bd {bd b:Nat} {w w':World} {o:Nat} (hb:Below bd w w') (h:b < bd):w'.cell? ⟨b,o,none⟩=w.cell? ⟨b,o,none⟩:=by
  unfold World.cell?;rw [hb.block b h]
theorem gl_bd {bd:Nat} {w w':World} (h:Gl w) (hb:Below bd w w') (hl:GlLt bd):Gl w':=by
  obtain ⟨a0,a1,a2⟩:=hl;obtain ⟨⟨t1,t2⟩,⟨s1,s2⟩,⟨m1,m,m2⟩⟩:=h;refine ⟨⟨Nat.lt_of_lt_of_le t1 hb.size,fun i hi=>?_⟩,⟨Nat.lt_of_lt_of_le s1 hb.size,fun c hc=>?_⟩,⟨Nat.lt_of_lt_of_le m1 hb.size,m,?_⟩⟩
  · rw [cell_bd hb (by omega)];exact t2 i hi
  · rw [cell_bd hb (by omega)];exact s2 c hc
  · rw [cell_bd hb (by omega)];exact m2
theorem n50r:∀ q,q∈(50:Nat) :: k50.E→q≠25:=by decide
def rf06_letter.f (a0:Int):Option (Bool):=if a0 ≥ 97 then (if a0≤122 then (some true) else (if a0 ≥ 65 then (if a0≤90 then (some true) else (some (a0 == 95))) else (some (a0 == 95)))) else (if a0 ≥ 65 then (if a0≤90 then (some true) else (some (a0 == 95))) else (some (a0 == 95)))
def rf06_digit.f (a0:Int):Option (Bool):=if a0 ≥ 48 then (some (decide (a0≤57))) else (some false)
def rf06_Code.l0:Nat→ByteArray→Int→Option (Bool)
 | 0,_,_=>none
 | k+1,x0,x3=>if x3 < (x0.size:Int) then (if 0≤x3 then ((rf06_letter.f (bt x0 x3)).bind fun t125=>(if t125=true then (rf06_Code.l0 k x0 (wrap64 (x3+1))) else ((rf06_digit.f (bt x0 x3)).bind fun t126=>(if t126=true then (rf06_Code.l0 k x0 (wrap64 (x3+1))) else (some false))))) else (none)) else (if (x0.size:Int) ≥ 1 then (some (decide ((x0.size:Int)≤12))) else (some false))
def rf06_Code.f (k:Nat) (a0:ByteArray):Option (Bool):=rf06_Code.l0 k a0 0
def rf09_named.f (k:Nat) (a0_0:ByteArray) (a0_1:ByteArray):Option (Bool):=(rf06_Code.f k a0_0).bind fun t128=>(if t128=true then ((rf06_Code.f k a0_1).bind fun t129=>(some t129)) else (some false))
def rf09_Right.l0:Nat→List (S50)→Int→Option (Bool)
 | 0,_,_=>none
 | k+1,x0,x3=>if x3 < (x0.length:Int) then (if 0≤x3 then ((rf09_named.f k ((rd_T50 x0 x3).f0) ((rd_T50 x0 x3).f1)).bind fun t131=>(if t131=true then (if x3 > 0 then (if 0≤(wrap64 (x3 - 1)) then (if (wrap64 (x3 - 1)) < (x0.length:Int) then (if ((Op.bytesLess (((rd_T50 x0 (wrap64 (x3 - 1))).f0).toList) (((rd_T50 x0 x3).f0).toList))=true) then (rf09_Right.l0 k x0 (wrap64 (x3+1))) else (some false)) else (none)) else (none)) else (rf09_Right.l0 k x0 (wrap64 (x3+1)))) else (some false))) else (none)) else (some (decide ((x0.length:Int)≤6)))
def rf09_Right.f (k:Nat) (l0:List (S50)):Option (Bool):=rf09_Right.l0 k l0 0
def rf09_Right.T4:Bool×List (List Nat×List Nat):=(true,[([],[]),([],[]),([0,1],[0,1]),([2],[2]),([3],[3]),([4],[4]),([5,4],[5]),([6],[6]),([7,6],[6,7]),([8,6,6],[6,8]),([9],[9]),([9],[9]),([10,11,9],[9,10,11]),([12,9],[9,12]),([13,9],[9,13]),([9],[9]),([9],[9]),([16,9],[9,16]),([15,17,9],[9,15,17]),([18,9],[9,18]),([19,9],[9,19]),([14,20,9],[9,14,20]),([9,21,6],[6,9,21]),([6,22],[6,22])])
def rf09_Right.B4:List Nat:=[0,0,3,7,15,31,63,127,255,511,1023,1023,4095,8191,16383,1023,1023,66559,230399,492543,1016831,2097151,4194303,8388607]
theorem rf09_Right.bits4:waitsOk rf09_Right.T4.2 rf09_Right.B4=true:=by kernel_rfl
theorem add_at (g n:Nat):(⟨g,0,none⟩:Addr).add n=⟨g,n,none⟩:=by unfold Addr.add;split <;> simp_all
def livesX:ByteArray:=⟨([114,117,108,101,32,114,101,110,116,32,105,102,32,97,109,111,117,110,116,32,109,111,115,116,32,45,49,48,48,32,97,110,100,32,116,101,120,116,32].append [104,97,115,32,34,114,101,110,116,34,32,116,104,101,110,32,53,49,32,112,97,114,116,121,32,112,32,116,97,103,32,100,101,112,116,32,61,32,120]).toArray⟩
theorem livesX_L:livesX.toList=[114,117,108,101,32,114,101,110,116,32,105,102,32,97,109,111,117,110,116,32,109,111,115,116,32,45,49,48,48,32,97,110,100,32,116,101,120,116,32,104,97,115,32,34,114,101,110,116,34,32,116,104,101,110,32,53,49,32,112,97,114,116,121,32,112,32,116,97,103,32,100,101,112,116,32,61,32,120]:=by decide +kernel
def livesY:ByteArray:=⟨#[114,117,108,101,32,114,101,110,116,32,105,102,32,97,109,111,117,110,116,32,104,97,115,32,53,32,116,104,101,110,32,53,49]⟩
end Go.Proofs.YtkbgkekegjfkfaaGreatDoor.A
namespace Go.Proofs.YtkbgkekegjfkfaaGreatDoor.B
open Go.Lib Go.RowKit WW
theorem trow_digits (u m k:Nat) (hmk:m+k=19) (h1:u / 10 ^ (k+1)=0) (h2:k=0∨u / 10 ^ k≠0) :
    (decDigits u).length=20 - m∧∀ i,i < (decDigits u).length→(trow u m)[m+i]?=some (.int .u8 (((decDigits u).getD i 0).toNat:Int)):=by
  have hn:=nDigits_of u k h1 h2;have hl:(decDigits u).length=20 - m:=by rw [decDigits_length,hn];omega
  refine ⟨hl,fun i hi=>?_⟩;rw [trow_at u m (m+i) (by omega),if_pos (by omega)]
  have:(decDigits u).getD i 0=dg u (19 - (m+i)):=by
    rw [decDigits_eq,List.getD_eq_getElem?_getD,List.getElem?_map,List.getElem?_range (by rw [hn];omega),hn];simp only [Option.map_some,Option.getD_some]
    congr 1;omega
  rw [this,dg];simp only [UInt8.toNat_ofNat']
  rw [Nat.mod_eq_of_lt (show 48+u / 10 ^ (19 - (m+i)) % 10 < 2 ^ 8 by omega)]
theorem conv_row {P:Program} (w:World) (T src dst e:TypeId) (hs:P.underlying src=some (.slice e)) (he:P.underlying e=some (.int .u8)) (hd:P.underlying dst=some .string)
    (Y:Array Value) (m len cap:Nat) (l:List UInt8) (hl:l.length=len) (h:∀ i,i < l.length→Y[m+i]?=some (.int .u8 ((l.getD i 0).toNat:Int))) :
    (convert src dst (.slice (some ⟨w.heap.size,m,none⟩) len cap)).run P (w.alloc (.cells Y T))=.ok (.string ⟨l.toArray⟩) (w.alloc (.cells Y T)):=by
  rw [run_convert_bytes_arg (w.alloc (.cells Y T)) src e hs he w.heap.size m len cap (l.map fun b=>(b.toNat:Int)) (by simpa using hl) (fun i hi=>by
    rw [World.cell?_alloc_new,h i (by omega)];congr 2
    simp [List.getD_eq_getElem?_getD,List.getElem?_map]
    rw [List.getElem?_eq_getElem (by omega:i < l.length)];rfl) dst hd]
  congr 3
  simp only [strOfNums,List.map_map]
  congr 2
  conv=>rhs;rw [← List.map_id l]
  refine List.map_congr_left fun b _=>?_
  simp
theorem itoa_pos {n:Int} (h:¬ n < 0):itoa n=decDigits n.natAbs:=by rw [itoa,if_neg h];congr 1;omega
theorem dval_append_le (l m:List UInt8):dval l≤dval (l++m):=by
  have key:∀ (m:List UInt8) (v:Nat),v≤m.foldl (fun v c=>10 * v+(c.toNat - 48)) v:=by
    intro m;induction m with
    | nil=>intro v;exact Nat.le_refl _
    | cons c m ih=>intro v;exact Nat.le_trans (by omega) (ih (10 * v+(c.toNat - 48)))
  unfold dval;rw [List.foldl_append];exact key m _
theorem sgn_big_append (b:Bool) (l m:List UInt8) (hn:¬ I64 (sgn b (dval l))):¬ I64 (sgn b (dval (l++m))):=sgn_big b (dval_append_le l m) hn
theorem PInv.stop {neg:Bool} {m:List UInt8} {j:Nat} {n:Int} (h:PInv neg m j n false):¬ I64 (sgn neg (dval m)):=by
  rcases h with ⟨h,_⟩ | ⟨_,_,h⟩
  · cases h
  · have:=sgn_big_append neg (m.take j) (m.drop j) h
    rwa [List.take_append_drop] at this
theorem parse_stop {l:List UInt8} (hf:formedL l=true) {j:Nat} {n:Int} (h:PInv (negOf l) (magOf l) j n false) (lo hi:Int):parseL l lo hi=(0,3):=by
  unfold parseL;rw [if_pos hf,if_neg];intro hh;exact h.stop hh.1
theorem DInv.start {c R0 W:Nat} (h:R0 < c) (hW:W < 18446744073709551616):DInv c R0 W 64 0 R0 :=
  ⟨Nat.le_refl _,by rw [Nat.div_eq_of_lt (show W < 2 ^ 64 from hW)];simp,h,h,hW⟩
theorem DInv.next {c R0 W k Q r:Nat} (h:DInv c R0 W (k+1) Q r) :
    (c≤2 * r+W / 2 ^ k % 2→DInv c R0 W k (2 * Q+1) (2 * r+W / 2 ^ k % 2 - c))∧(2 * r+W / 2 ^ k % 2 < c→DInv c R0 W k (2 * Q) (2 * r+W / 2 ^ k % 2)):=by
  have hk:=h.le;have h1:2 ^ (64 - k)=2 * 2 ^ (64 - (k+1)):=by rw [show 64 - k=64 - (k+1)+1 by omega,Nat.pow_succ];omega
  have h2:W / 2 ^ k=2 * (W / 2 ^ (k+1))+W / 2 ^ k % 2:=by rw [Nat.pow_succ,← Nat.div_div_eq_div_mul];omega
  have h3:=h.eq;have h4:=h.lt
  have key:R0 * 2 ^ (64 - k)+W / 2 ^ k=2 * (Q * c)+(2 * r+W / 2 ^ k % 2):=by
    rw [h1,show R0 * (2 * 2 ^ (64 - (k+1)))=2 * (R0 * 2 ^ (64 - (k+1))) by rw [Nat.mul_left_comm]];omega
  constructor
  · intro hc
    refine ⟨by omega,?_,by omega,h.lt0,h.ltW⟩;rw [key,Nat.add_mul,Nat.one_mul,Nat.mul_assoc];omega
  · intro hc
    refine ⟨by omega,?_,hc,h.lt0,h.ltW⟩;rw [key,Nat.mul_assoc]
end Go.Proofs.YtkbgkekegjfkfaaGreatDoor.B
namespace Go.Proofs.YtkbgkekegjfkfaaGreatDoor.A
open Go.RowKit B WW WL WM
attribute [local go_sem] max2_int min2_int max_two min_two max_three min_three max_four min_four
theorem info9:(Tryz.prog.info? 9).map (fun i=>(i.zero,i.size,i.bytes))=some (some (.string ⟨#[]⟩),1,16):=by kernel_rfl
theorem info48:(Tryz.prog.info? 48).map (fun i=>(i.zero,i.size,i.bytes))=some (some (.agg #[(.int .i64 0),(.int .i64 0),(.string ⟨#[]⟩),(.int .i64 0)]),4,40):=by kernel_rfl
theorem info50:(Tryz.prog.info? 50).map (fun i=>(i.zero,i.size,i.bytes))=some (some (.agg #[(.string ⟨#[]⟩),(.string ⟨#[]⟩)]),2,32):=by kernel_rfl
theorem info73:(Tryz.prog.info? 73).map (fun i=>(i.zero,i.size,i.bytes))=some (some (.agg #[(.int .i64 0),(.string ⟨#[]⟩),(.int .i64 0)]),3,32):=by kernel_rfl
theorem k50_openM {w:World} {base:Nat} {ok:Nat→Prop} {x:S50} {cs:List Value} (h:k50.M w base ok x cs):cs=[.string x.f0,.string x.f1]:=by
  obtain ⟨_,_,rfl,rfl,rfl⟩:=h;exact rfl
theorem k50_mkM (w:World) (base:Nat) (ok:Nat→Prop) (x:S50):k50.M w base ok x [.string x.f0,.string x.f1]:=⟨[.string x.f0],[.string x.f1],rfl,rfl,rfl⟩
end Go.Proofs.YtkbgkekegjfkfaaGreatDoor.A
namespace Go.Proofs.YtkbgkekegjfkfaaGreatDoor.B
open Go.RowKit WW WL WM
section
variable {P:Program} {ops:Array Oper} {rest:List Oper} {o:Oper} {Q:Exit→Act→World→Prop} {a:Act} {w V W w1:World} {g g':Nat}
theorem bk5 {w:World} {g t:Nat} {v0 v1 v2 v3 v4:Value} (B:Aside0 (w.heap[g]?=some (.cells #[v0,v1,v2,v3,v4] t (0,0)))):w.cell? ⟨g,0,none⟩=some v0∧w.cell? ⟨g,1,none⟩=some v1∧w.cell? ⟨g,2,none⟩=some v2∧w.cell? ⟨g,3,none⟩=some v3∧w.cell? ⟨g,4,none⟩=some v4∧w.frozen? ⟨g,0,none⟩=false∧w.frozen? ⟨g,1,none⟩=false∧w.frozen? ⟨g,2,none⟩=false∧w.frozen? ⟨g,3,none⟩=false∧w.frozen? ⟨g,4,none⟩=false:=⟨(blk_cell B.out 0).trans rfl,(blk_cell B.out 1).trans rfl,(blk_cell B.out 2).trans rfl,(blk_cell B.out 3).trans rfl,(blk_cell B.out 4).trans rfl,blk_frozen B.out 0,blk_frozen B.out 1,blk_frozen B.out 2,blk_frozen B.out 3,blk_frozen B.out 4⟩
theorem nlm {ob:Obj} (hg:g'=W.heap.size) (B:Aside0 (V.heap[g]?=some ob)) (hs:V.heap[g]?=some ob→W.heap[g]?=some ob:=by (intro h;(with_reducible repeat (first | refine blk_drewN ?_ _ | refine blk_drew ?_ | refine blk_alloc ?_ _));exact h)):Aside0 (g≠g'):=⟨by rw [hg];exact Nat.ne_of_lt (blk_lt (hs B.out))⟩
theorem ngm {ob:Obj} (hg:g'=W.heap.size) (B:Aside0 (V.heap[g]?=some ob)) (hs:V.heap[g]?=some ob→W.heap[g]?=some ob:=by (intro h;(with_reducible repeat (first | refine blk_drewN ?_ _ | refine blk_drew ?_ | refine blk_alloc ?_ _));exact h)):Aside0 (g'≠g):=⟨by rw [hg];exact Nat.ne_of_gt (blk_lt (hs B.out))⟩
theorem rbm {α:Type} {d:Kd α} {e base:Nat} {ok:Nat→Prop} {v:Value} {xs:List α} (H:Aside0 (d.R e V base ok v xs)) (hb:Below W.heap.size W w1) (hs:d.R e V base ok v xs→d.R e W base ok v xs:=by (intro h;(with_reducible repeat (first | apply Kd.R_alloc | apply Kd.R_drewN | apply Kd.R_drew));exact h)):Aside0 (d.R e w1 base ok v xs):=⟨Kd.R_below (hs H.out) hb⟩
end
end Go.Proofs.YtkbgkekegjfkfaaGreatDoor.B
namespace Go.Proofs
open Go.Shelf
open Go.RowKit in
theorem Tryz.strings_Join (bk o c:Nat) (xs:List ByteArray) (sep:ByteArray) (w:World) (hcells:∀ (j:Nat) x,xs[j]?=some x→w.cell? ⟨bk,o+j,none⟩=some (.string x)) (hbk:bk < w.heap.size) (hN:xs.length≤140737488355328) (hcap:xs.length≤c) (hlen:(Lib.join (xs.map (·.data.toList)) sep.data.toList).length≤140737488355328) :
    Calls Tryz.prog 32 #[.slice (some ⟨bk,o,none⟩) xs.length c,.string sep] w fun e w'=>e=.returned (.string ⟨(Lib.join (xs.map (·.data.toList)) sep.data.toList).toArray⟩)∧Below w.heap.size w w':=Any.strings_Join Tryz.lays156 Tryz.Builder_Extra_156 bk o c xs sep w hcells hbk hN hcap hlen
open Go.RowKit Go.Lib in
theorem Tryz.strings_Contains (s sub:ByteArray) (m:Int) (w:World) (hs:s.size < 4294967281) (hm:w.cell? ⟨2,0,none⟩=some (.int .i64 m)) :
    Calls Tryz.prog 64 #[.string s,.string sub] w fun e w'=>e=.returned (.bool (Lib.contains s.data.toList sub.data.toList))∧w'=w:=Any.strings_Contains Tryz.lays144 s sub m w hs hm
open Go.RowKit Go.Lib in
theorem Tryz.strings_HasPrefix (s p:ByteArray) (w:World) :
    Calls Tryz.prog 66 #[.string s,.string p] w fun e w'=>e=.returned (.bool (Lib.hasPrefix s.data.toList p.data.toList))∧w'=w:=Any.strings_HasPrefix Tryz.lays99 s p w
end Go.Proofs
namespace Go.Proofs.YtkbgkekegjfkfaaGreatDoor.B
open Go.RowKit WW WL WM
section
variable {P:Program} {md:Region.Mode} {ops:Array Oper} {Q:Exit→Act→World→Prop} {S:World→Prop} {ds:List Nat} {T:Bool×List (List Nat×List Nat)} {BB:List Nat} {oi:Oper} {v:Value} {fuel:Nat} {l l':Array Bool} {a a':Act} {w:World}
theorem pB (i N:Nat) (h:wpAnyLast P md ops Q S ds fuel l' a' w)
    (hi:ops[i]?=some oi:=by rfl) (hN:oi.dst=some N:=by rfl) (hl:l.setIfInBounds i true=l':=by (simp only [List.setIfInBounds_toArray,List.set_cons_zero,List.set_cons_succ];rfl))
    (hc:anyB md ops l l' i=true:=by kernel_rfl) (hQ:∀ c a w,Q (.panic c) (a.put oi.dst v) w→Q (.panic c) a w:=by exact (fun _ _ _ h=>h)) (hg:Region.wanted oi (yielded ops a.tmps)=true:=by rfl)
    (hy:∀ w,(execOp a.eval oi).run P w=.ok (.value v) w:=by (intro w';go_simp;with_reducible rfl))
    (ha:a.put (some N) v=a':=by (simp only [Act.put,List.setIfInBounds_toArray,List.set_cons_zero,List.set_cons_succ,i64_w,i32_w];rfl)):wpAnyLast P md ops Q S ds (fuel+1) l a w :=
  pure_ l' hi hN hc hQ (.inl ⟨hg,hy⟩) ha h
theorem tB (i N:Nat) (hS:S w) (h:wpAnyLast P md ops Q S ds fuel l' a' w)
    (hi:ops[i]?=some oi:=by rfl) (hN:oi.dst=some N:=by rfl) (hl:l.setIfInBounds i true=l':=by (simp only [List.setIfInBounds_toArray,List.set_cons_zero,List.set_cons_succ];rfl))
    (hc:takeB md ops ds l l' i=true:=by kernel_rfl) (hQ:∀ c a w,Q (.panic c) (a.put oi.dst v) w→Q (.panic c) a w:=by exact (fun _ _ _ h=>h)) (hg:Region.wanted oi (yielded ops a.tmps)=true:=by rfl)
    (hy:∀ w,S w→(execOp a.eval oi).run P w=.ok (.value v) w:=by (intro w' hs_;(try dsimp only at hs_);(try go_split_ands);go_simp;with_reducible rfl))
    (ha:a.put (some N) v=a':=by (simp only [Act.put,List.setIfInBounds_toArray,List.set_cons_zero,List.set_cons_succ,i64_w,i32_w];rfl)):wpAnyLast P md ops Q S ds (fuel+1) l a w :=
  take_ l' hi hN hc hQ (.inl ⟨hg,hy⟩) hS ha h
end
end Go.Proofs.YtkbgkekegjfkfaaGreatDoor.B
namespace Go.Proofs.YtkbgkekegjfkfaaGreatDoor.A
open Go.RowKit B WW WL WM
theorem r6letter_eq (c:UInt8):rf06_letter.f (c.toNat:Int)=some (isLet c):=by
  have h:∀ n:Nat,n < 256→rf06_letter.f (n:Int)=some ((decide (97≤n) && decide (n≤122)) || ((decide (65≤n) && decide (n≤90)) || decide (n=95))):=by decide +kernel
  exact h c.toNat c.toNat_lt
theorem r6digit_eq (c:UInt8):rf06_digit.f (c.toNat:Int)=some (isDig c):=by
  have h:∀ n:Nat,n < 256→rf06_digit.f (n:Int)=some (decide (48≤n∧n≤57)):=by decide +kernel
  rw [h c.toNat c.toNat_lt];congr 1
  rw [Bool.eq_iff_iff,decide_eq_true_iff,isDig_range]
end Go.Proofs.YtkbgkekegjfkfaaGreatDoor.A
namespace Go.Proofs.YtkbgkekegjfkfaaGreatDoor.A
open Go.RowKit B WW WL WM
theorem zq11 {P:Prop} (h:P:=by first | (go_simp;done) | (go_simp;rfl)):P:=h
theorem zq30 {P:Prop} (h:P:=by (try simp only [List.map_toArray,List.map_cons,List.map_nil]);first | done | rfl):P:=h
end Go.Proofs.YtkbgkekegjfkfaaGreatDoor.A
namespace Go.Proofs.YtkbgkekegjfkfaaGreatDoor.WW
open Go.RowKit
section
variable {w w1:World} {base n size:Nat} {e:TypeId} {v:Value} {xs:List Value}
theorem setCells_row {g:Nat} {e:TypeId}:∀ (vs:List Value) (o:Nat) (w:World) (cur:Array Value),w.heap[g]?=some (.cells cur e (0,0))→o+vs.length≤cur.size →
    ∃ cur',(w.setCells g o vs).heap[g]?=some (.cells cur' e (0,0))∧cur'.size=cur.size∧cur'.toList=cur.toList.take o++vs++cur.toList.drop (o+vs.length)
  | [],o,w,cur,h,_=>⟨cur,h,rfl,by simp⟩
  | v :: r,o,w,cur,h,hl=>by
    have h2:=blk_set h o v;simp only [List.length_cons] at hl
    obtain ⟨cur',h3,h4,h5⟩:=setCells_row r (o+1) (w.setCell ⟨g,o,none⟩ v) _ h2 (by simp;omega);refine ⟨cur',h3,by rw [h4];simp,?_⟩;rw [h5,Array.toList_setIfInBounds];have ho:o < cur.toList.length:=by rw [Array.length_toList];omega
    rw [List.take_set,List.drop_set_of_lt (by omega)];simp only [List.length_cons]
    rw [show o+1+r.length=o+(r.length+1) by omega];congr 1
    rw [List.take_succ_eq_append_getElem ho,List.set_append_right _ _ (by rw [List.length_take];omega)];have ho':o < cur.size:=by omega
    simp [Nat.min_eq_left (Nat.le_of_lt ho')]
end
end Go.Proofs.YtkbgkekegjfkfaaGreatDoor.WW
namespace Go.Proofs.YtkbgkekegjfkfaaGreatDoor.WW
open Go.RowKit
section
variable {P:Program} {ops:Array Oper} {o:Oper} {a:Act} {Q:Exit→Act→World→Prop} {Kc:Act→World→Prop}
namespace Kd
variable {α:Type}
theorem R_append_rows_step (d:Kd α) {Rr:α→List Value→Prop} {w0 W:World} (base:Nat) (hw:Region.wanted o (yielded ops a.tmps)=true) (s x:Operand) (t e:TypeId) (z:Value) (bytes:Nat)
    (ho:o.op=.call { callee:=.builtin .append,args:=#[s,x],argTypes:=#[t,t] })
    (ht:P.underlying t=some (.slice e)) (hinfo:(P.info? e).map (fun i=>(i.zero,i.size,i.bytes))=some (some z,d.sz,bytes)) (hz:z.cells.size=d.sz) (hs0:0 < d.sz) (hb0:0 < bytes)
    (v:Value) (xs ys:List α) (A:Option Addr) (m c:Nat) (ok okp:Nat→Prop) (hs:a.eval s=v) (hx:a.eval x=.slice A m c)
    (HO:d.R e W base ok v xs) (HR:ReadsRow Rr d.sz W A m ys) (hKM:∀ x cs,Rr x cs→d.M W base okp x cs) (hokp:∀ k,okp k→ok k∧some k≠v.ownBlock) (hfresh:∀ k,W.heap.size≤k→ok k)
    (HB:Below base w0 W) (hbase:base≤W.heap.size) (hl:(xs.length+m) * bytes≤140737488355328)
    (h:∀ v1 w1,d.R e w1 base ok v1 (xs++ys)→Below base w0 w1→W.grownBy w1 v.ownBlock→(v1.ownBlock=v.ownBlock∨∃ b,v1.ownBlock=some b∧W.heap.size≤b)→Kc (a.put o.dst v1) w1) :
    if Region.wanted o (yielded ops a.tmps)=true then Oper.wp P o a W Kc Q else Kc (a.put o.dst undef) W:=by
  obtain ⟨i0,hi,hzz⟩:=Option.map_eq_some_iff.1 hinfo;simp only [Prod.mk.injEq] at hzz
  obtain ⟨hz0,hz1,hz2⟩:=hzz;have hm:ys.length=m:=HR.1;have hlen:xs.length+m≤140737488355328:=Nat.le_trans (Nat.le_mul_of_pos_right _ hb0) hl;obtain ⟨hok,inner,hown,hr⟩:=HO
  have hrun:∃ v1 w1,(Builtin.append_ #[t,t] o.type #[v,.slice A m c]).run P W=.ok v1 w1∧d.R e w1 base ok v1 (xs++ys)∧W.grownBy w1 v.ownBlock∧(v1.ownBlock=v.ownBlock∨∃ b,v1.ownBlock=some b∧W.heap.size≤b):=by
    rcases A with _ | ad
    · have h0:m=0:=by
        rcases Nat.eq_zero_or_pos m with h0 | h0
        · exact h0
        · obtain ⟨ad,h,_⟩:=HR.2.2 h0
          cases h
      subst h0;obtain rfl:ys=[]:=List.eq_nil_of_length_eq_zero hm;refine ⟨v,W,?_,by rw [List.append_nil];exact ⟨hok,inner,hown,hr⟩,World.grownBy.refl W _,.inl rfl⟩;rcases hown.2 with ⟨rfl,hn⟩ | ⟨g,cap,cur,rfl,_,_,hnc,_⟩
      · simp [Builtin.append_,run_underlying ht,sizeOf,typeInfo,hi,Builtin.lenOf,Builtin.firstCells]
      · simp [Builtin.append_,run_underlying ht,sizeOf,typeInfo,hi,Builtin.lenOf,Builtin.firstCells,hnc,storeCells]
    · obtain ⟨news,hnr,hnc⟩:=ReadsRow.inner_ HR
      have hnM:Reps (d.M W base okp) d.sz ys news:=hnr.imp_ (fun p c hp=>hKM p c hp)
      have hone:∀ u∈news,u.oneCell'=true:=by
        intro u hu;obtain ⟨q,hq,rfl⟩:=List.mem_iff_getElem.1 hu
        have hql:q / d.sz < ys.length:=by
          rw [Nat.div_lt_iff_lt_mul hs0];rw [← hnM.1];exact hq
        have hc:=hnM.2 (q / d.sz) _ (List.getElem?_eq_getElem hql);refine d.K_one (d.K_of_M hc) _ ?_;rw [List.mem_iff_getElem?];refine ⟨q % d.sz,?_⟩;rw [List.getElem?_take,if_pos (Nat.mod_lt _ hs0),List.getElem?_drop,Nat.mul_comm,Nat.div_add_mod,List.getElem?_eq_getElem hq]
      obtain ⟨v1,w1,hrun,h2,hg,_,hat⟩:=run_append_own_at (P:=P) W base t o.type e i0 z d.sz bytes ht hi hz0 hz1 hz2 hz hs0 v xs.length inner hown ad m c news (by rw [hnM.1,hm]) hnc hone (by simp only [maxLen];omega) hl hbase
      have hat':v1.ownBlock=v.ownBlock∨∃ b,v1.ownBlock=some b∧W.heap.size≤b:=by
        rcases hat with hat | hat
        · exact .inl hat
        · exact .inr ⟨_,hat,Nat.le_refl _⟩
      have hne:∀ k,some k≠v.ownBlock→k < W.heap.size→some k≠v1.ownBlock:=by
        intro k hk hlt;rcases hat' with hat | ⟨b,hb,hle⟩
        · rw [hat];exact hk
        · rw [hb]
          intro he;injection he with he
          omega
      have step:∀ {q:α} {c:List Value} {o:Nat→Prop},d.M W base o q c→(∀ k,o k→ok k∧some k≠v.ownBlock)→d.M w1 base (fun k=>ok k∧some k≠v1.ownBlock) q c:=by
        intro q c o hq ho;have h1:=d.M_move (w1:=w1) (fun k hk=>hg.block k hk.2.2.1 (ho k hk.1).2) (d.M_bound hq);exact d.M_mono (fun k hk=>⟨(ho k hk.1).1,hne k (ho k hk.1).2 hk.2.2.1⟩) h1
      refine ⟨v1,w1,hrun,⟨fun k hk=>?_,inner++news,by rw [List.length_append,hm];exact h2,reps_append (hr.imp_ (fun _ _ hq=>step hq (fun _ hk=>hk))) (hnM.imp_ (fun _ _ hq=>step hq hokp))⟩,hg,hat'⟩;rcases hat' with hat | ⟨b,hb,hle⟩
      · exact hok k (hat ▸ hk)
      · rw [hb] at hk
        injection hk with hk
        exact hfresh k (by omega)
  obtain ⟨v1,w1,hr1,h1,hg,hat⟩:=hrun;rw [if_pos hw];unfold Oper.wp execOp;simp only [ho,resolve,invoke,builtin,Sem.run_bind,Sem.run_pure,Result.andThen_ok,List.map_toArray,List.map_cons,List.map_nil,hs,hx,hr1]
  exact h v1 w1 h1 (HB.grown hg hbase (own_base hown)) hg hat
end Kd
end
end Go.Proofs.YtkbgkekegjfkfaaGreatDoor.WW
namespace Go.Proofs.YtkbgkekegjfkfaaGreatDoor.WW
open Go.RowKit
namespace Kd
section
variable {P:Program} {ops:Array Oper} {rest:List Oper} {o:Oper} {a:Act} {Q:Exit→Act→World→Prop} {α:Type}
theorem R_append_rows (d:Kd α) {Rr:α→List Value→Prop} {w0 W:World} (base:Nat) (hgd:o.guard=none) (s x:Operand) (t e:TypeId) (z:Value) (bytes:Nat)
    (ho:o.op=.call { callee:=.builtin .append,args:=#[s,x],argTypes:=#[t,t] })
    (ht:P.underlying t=some (.slice e)) (hinfo:(P.info? e).map (fun i=>(i.zero,i.size,i.bytes))=some (some z,d.sz,bytes)) (hz:z.cells.size=d.sz) (hs0:0 < d.sz) (hb0:0 < bytes)
    (v:Value) (xs ys:List α) (A:Option Addr) (m c:Nat) (ok okp:Nat→Prop) (hs:a.eval s=v) (hx:a.eval x=.slice A m c)
    (HO:d.R e W base ok v xs) (HR:ReadsRow Rr d.sz W A m ys) (hKM:∀ x cs,Rr x cs→d.M W base okp x cs) (hokp:∀ k,okp k→ok k∧some k≠v.ownBlock) (hfresh:∀ k,W.heap.size≤k→ok k)
    (HB:Below base w0 W) (hbase:base≤W.heap.size) (hl:(xs.length+m) * bytes≤140737488355328)
    (h:∀ v1 w1,d.R e w1 base ok v1 (xs++ys)→Below base w0 w1→W.grownBy w1 v.ownBlock→(v1.ownBlock=v.ownBlock∨∃ b,v1.ownBlock=some b∧W.heap.size≤b)→wpList P ops Q rest (a.put o.dst v1) w1) :
    wpList P ops Q (o :: rest) a W:=by
  obtain ⟨i0,hi,hzz⟩:=Option.map_eq_some_iff.1 hinfo;simp only [Prod.mk.injEq] at hzz
  obtain ⟨hz0,hz1,hz2⟩:=hzz;have hm:ys.length=m:=HR.1;have hlen:xs.length+m≤140737488355328:=Nat.le_trans (Nat.le_mul_of_pos_right _ hb0) hl;obtain ⟨hok,inner,hown,hr⟩:=HO
  have hrun:∃ v1 w1,(Builtin.append_ #[t,t] o.type #[v,.slice A m c]).run P W=.ok v1 w1∧d.R e w1 base ok v1 (xs++ys)∧W.grownBy w1 v.ownBlock∧(v1.ownBlock=v.ownBlock∨∃ b,v1.ownBlock=some b∧W.heap.size≤b):=by
    rcases A with _ | ad
    · have h0:m=0:=by
        rcases Nat.eq_zero_or_pos m with h0 | h0
        · exact h0
        · obtain ⟨ad,h,_⟩:=HR.2.2 h0
          cases h
      subst h0;obtain rfl:ys=[]:=List.eq_nil_of_length_eq_zero hm;refine ⟨v,W,?_,by rw [List.append_nil];exact ⟨hok,inner,hown,hr⟩,World.grownBy.refl W _,.inl rfl⟩;rcases hown.2 with ⟨rfl,hn⟩ | ⟨g,cap,cur,rfl,_,_,hnc,_⟩
      · simp [Builtin.append_,run_underlying ht,sizeOf,typeInfo,hi,Builtin.lenOf,Builtin.firstCells]
      · simp [Builtin.append_,run_underlying ht,sizeOf,typeInfo,hi,Builtin.lenOf,Builtin.firstCells,hnc,storeCells]
    · obtain ⟨news,hnr,hnc⟩:=ReadsRow.inner_ HR
      have hnM:Reps (d.M W base okp) d.sz ys news:=hnr.imp_ (fun p c hp=>hKM p c hp)
      have hone:∀ u∈news,u.oneCell'=true:=by
        intro u hu;obtain ⟨q,hq,rfl⟩:=List.mem_iff_getElem.1 hu
        have hql:q / d.sz < ys.length:=by
          rw [Nat.div_lt_iff_lt_mul hs0];rw [← hnM.1];exact hq
        have hc:=hnM.2 (q / d.sz) _ (List.getElem?_eq_getElem hql);refine d.K_one (d.K_of_M hc) _ ?_;rw [List.mem_iff_getElem?];refine ⟨q % d.sz,?_⟩;rw [List.getElem?_take,if_pos (Nat.mod_lt _ hs0),List.getElem?_drop,Nat.mul_comm,Nat.div_add_mod,List.getElem?_eq_getElem hq]
      obtain ⟨v1,w1,hrun,h2,hg,_,hat⟩:=run_append_own_at (P:=P) W base t o.type e i0 z d.sz bytes ht hi hz0 hz1 hz2 hz hs0 v xs.length inner hown ad m c news (by rw [hnM.1,hm]) hnc hone (by simp only [maxLen];omega) hl hbase
      have hat':v1.ownBlock=v.ownBlock∨∃ b,v1.ownBlock=some b∧W.heap.size≤b:=by
        rcases hat with hat | hat
        · exact .inl hat
        · exact .inr ⟨_,hat,Nat.le_refl _⟩
      have hne:∀ k,some k≠v.ownBlock→k < W.heap.size→some k≠v1.ownBlock:=by
        intro k hk hlt;rcases hat' with hat | ⟨b,hb,hle⟩
        · rw [hat];exact hk
        · rw [hb]
          intro he;injection he with he
          omega
      have step:∀ {q:α} {c:List Value} {o:Nat→Prop},d.M W base o q c→(∀ k,o k→ok k∧some k≠v.ownBlock)→d.M w1 base (fun k=>ok k∧some k≠v1.ownBlock) q c:=by
        intro q c o hq ho;have h1:=d.M_move (w1:=w1) (fun k hk=>hg.block k hk.2.2.1 (ho k hk.1).2) (d.M_bound hq);exact d.M_mono (fun k hk=>⟨(ho k hk.1).1,hne k (ho k hk.1).2 hk.2.2.1⟩) h1
      refine ⟨v1,w1,hrun,⟨fun k hk=>?_,inner++news,by rw [List.length_append,hm];exact h2,reps_append (hr.imp_ (fun _ _ hq=>step hq (fun _ hk=>hk))) (hnM.imp_ (fun _ _ hq=>step hq hokp))⟩,hg,hat'⟩;rcases hat' with hat | ⟨b,hb,hle⟩
      · exact hok k (hat ▸ hk)
      · rw [hb] at hk
        injection hk with hk
        exact hfresh k (by omega)
  obtain ⟨v1,w1,hr1,h1,hg,hat⟩:=hrun;refine wpList_plain hgd fun K hK=>?_
  unfold Oper.wp execOp;simp only [ho,resolve,invoke,builtin,Sem.run_bind,Sem.run_pure,Result.andThen_ok,List.map_toArray,List.map_cons,List.map_nil,hs,hx,hr1]
  exact hK _ _ (h v1 w1 h1 (HB.grown hg hbase (own_base hown)) hg hat)
end
end Kd
end Go.Proofs.YtkbgkekegjfkfaaGreatDoor.WW
namespace Go.Proofs.YtkbgkekegjfkfaaGreatDoor.WW
open Go.RowKit
namespace Kd
section
variable {P:Program} {ops:Array Oper} {o:Oper} {a:Act} {Q:Exit→Act→World→Prop} {Kc:Act→World→Prop} {α:Type}
theorem R_append_step (d:Kd α) {w0 W:World} (base:Nat) (hw:Region.wanted o (yielded ops a.tmps)=true) (s x:Operand) (t e:TypeId) (z:Value) (bytes:Nat)
    (ho:o.op=.call { callee:=.builtin .append,args:=#[s,x],argTypes:=#[t,t] })
    (ht:P.underlying t=some (.slice e)) (hinfo:(P.info? e).map (fun i=>(i.zero,i.size,i.bytes))=some (some z,d.sz,bytes)) (hz:z.cells.size=d.sz) (hs0:0 < d.sz) (hb0:0 < bytes)
    (v:Value) (xs:List α) (p:α) (cs:List Value) (ok okp:Nat→Prop) (hs:a.eval s=v) (hx:a.eval x=.slice (some ⟨W.heap.size,0,none⟩) 1 1) (hp:d.M W base okp p cs) (hokp:∀ k,okp k→ok k∧some k≠v.ownBlock) (hfresh:∀ k,W.heap.size≤k→ok k)
    (HO:d.R e W base ok v xs) (HB:Below base w0 W) (hbase:base≤W.heap.size) (hl:(xs.length+1) * bytes≤140737488355328)
    (h:∀ v1 w1,d.R e w1 base ok v1 (xs++[p])→Below base w0 w1→W.grownBy w1 v.ownBlock→(v1.ownBlock=v.ownBlock∨∃ b,v1.ownBlock=some b∧W.heap.size≤b)→Kc (a.put o.dst v1) w1) :
    if Region.wanted o (yielded ops a.tmps)=true then Oper.wp P o a (W.alloc (.cells cs.toArray e)) Kc Q else Kc (a.put o.dst undef) (W.alloc (.cells cs.toArray e)):=by
  obtain ⟨h0,inner,hown,hr⟩:=HO;refine step_append_cells base hw s x t e z d.sz bytes ho ht hinfo hz hs0 hb0 v xs.length inner cs hs hx (d.K_len (d.K_of_M hp)) (d.K_one (d.K_of_M hp)) hown HB hbase hl ?_;intro v1 w1 hown1 hb1 hg1 hat1;exact h v1 w1 (R_appended h0 hr hp hokp hfresh hown1 hg1 hat1) hb1 hg1 hat1
end
end Kd
end Go.Proofs.YtkbgkekegjfkfaaGreatDoor.WW
namespace Go.Proofs.YtkbgkekegjfkfaaGreatDoor.WW
open Go.RowKit
theorem seg_get {α:Type} (a seg:List α) (o:Nat) (h:o+seg.length≤a.length) (q:Nat) :
    (a.take o++seg++a.drop (o+seg.length))[q]?=if q < o then a[q]? else if q < o+seg.length then seg[q - o]? else a[q]?:=by
  have hl:(a.take o).length=o:=by rw [List.length_take];omega
  rw [List.append_assoc];by_cases h1:q < o
  · rw [if_pos h1,List.getElem?_append_left (by omega),List.getElem?_take,if_pos h1]
  · rw [if_neg h1,List.getElem?_append_right (by omega),hl]
    by_cases h2:q < o+seg.length
    · rw [if_pos h2,List.getElem?_append_left (by omega)]
    · rw [if_neg h2,List.getElem?_append_right (by omega),List.getElem?_drop]
      congr 1
      omega
end Go.Proofs.YtkbgkekegjfkfaaGreatDoor.WW
namespace Go.Proofs.YtkbgkekegjfkfaaGreatDoor.WW
open Go.RowKit
namespace Kd
section
variable {α:Type} {d:Kd α} {e base g n cap:Nat} {ok okp:Nat→Prop} {W:World} {xs:List α}
theorem R_seg (h:d.R e W base ok (.slice (some ⟨g,0,none⟩) n cap) xs) (i:Int) (h0:0≤i) (h1:i < n) {c seg:List Value} {j:Nat} (hcl:c.length=d.sz) (hcc:∀ j u,c[j]?=some u→W.cell? ⟨g,i.toNat * d.sz+j,none⟩=some u)
    (hj:j+seg.length≤d.sz) {x':α} (hM:d.M W base okp x' (c.take j++seg++c.drop (j+seg.length))) (hokp:∀ k,okp k→ok k∧k≠g) :
    d.R e (W.setCells g (i.toNat * d.sz+j) seg) base ok (.slice (some ⟨g,0,none⟩) n cap) (xs.set i.toNat x')∧W.grownBy (W.setCells g (i.toNat * d.sz+j) seg) (some g):=by
  obtain ⟨hn,hnc,_⟩:=R_reads' h;obtain ⟨hok,inner,ho,hr⟩:=h;have hil:i.toNat < xs.length:=by omega
  have hseg:i.toNat * d.sz+d.sz≤inner.length:=by rw [hr.1,← Nat.succ_mul];exact Nat.mul_le_mul_right _ hil
  have hin:inner.length=n * d.sz:=by rw [hr.1,hn]
  obtain ⟨ho1,ho2⟩:=ho;rcases ho2 with ⟨hv,_⟩ | ⟨g',cap',cur,hv,hb,hh,hnc',hcm,hcs,ht⟩
  · cases hv
  injection hv with ha _ hc
  injection ha with ha
  injection ha with hg
  subst hg;subst hc
  have hfit:i.toNat * d.sz+j+seg.length≤cur.size:=by
    have:n * d.sz≤cap * d.sz:=Nat.mul_le_mul_right _ hnc;omega
  obtain ⟨cur',h3,h4,h5⟩:=setCells_row seg (i.toNat * d.sz+j) W cur hh hfit;obtain ⟨s1,s2,s3,s4⟩:=setCells_same g seg (i.toNat * d.sz+j) W;have hfar:∀ k,k≠g→(W.setCells g (i.toNat * d.sz+j) seg).heap[k]?=W.heap[k]?:=fun k hk=>setCells_far seg _ k hk
  have hcin:∀ q,q < d.sz→c[q]?=inner[i.toNat * d.sz+q]?:=by
    intro q hq;have hq':q < c.length:=by omega
    have h6:=hcc q _ (List.getElem?_eq_getElem hq');rw [cell_of_row W g _ cur e (0,0) hh] at h6;rw [List.getElem?_eq_getElem hq',← h6,← ht,List.getElem?_take,if_pos (by rw [← hn];omega),Array.getElem?_toList]
  refine ⟨⟨hok,inner.take (i.toNat * d.sz+j)++seg++inner.drop (i.toNat * d.sz+j+seg.length),⟨?_,.inr ⟨g,cap,cur',by rw [List.length_set,hn],hb,h3,by rw [List.length_set,← hn];exact hnc,hcm,by rw [h4,hcs],?_⟩⟩,?_⟩,
    ⟨s1,s2,s3,by rw [s4];exact Nat.le_refl _,fun k _ hk=>hfar k (fun he=>hk (by rw [he]))⟩⟩
  · rw [List.length_set]
    simp only [List.length_append,List.length_take,List.length_drop]
    rw [hr.1] at hseg ⊢;omega
  · rw [List.length_set,← hn]
    apply List.ext_getElem?;intro q;rw [List.getElem?_take,h5];rw [seg_get cur.toList seg (i.toNat * d.sz+j) (by rw [Array.length_toList];omega) q,seg_get inner seg (i.toNat * d.sz+j) (by omega) q]
    have hcur:∀ q,q < n * d.sz→cur.toList[q]?=inner[q]?:=by
      intro q hq;rw [← ht,List.getElem?_take,if_pos (by rw [← hn];exact hq)]
    by_cases hq:q < n * d.sz
    · rw [if_pos hq,hcur q hq]
    · rw [if_neg hq,if_neg (by omega),if_neg (by omega),List.getElem?_eq_none (by omega)]
  · refine ⟨?_,fun m p hm=>?_⟩
    · rw [List.length_set]
      simp only [List.length_append,List.length_take,List.length_drop]
      rw [hr.1] at hseg ⊢;omega
    · have hml:m < xs.length:=by
        have:=(List.getElem?_eq_some_iff.1 hm).1;rwa [List.length_set] at this
      have hmfit:m * d.sz+d.sz≤inner.length:=by rw [hr.1,← Nat.succ_mul];exact Nat.mul_le_mul_right _ hml
      have hgo:some g=(Value.slice (some ⟨g,0,none⟩) n cap).ownBlock:=by simp [Value.ownBlock]
      by_cases hmi:m=i.toNat
      · subst hmi
        rw [List.getElem?_set_self (by omega)] at hm;injection hm with hm
        subst hm
        have hcells:((inner.take (i.toNat * d.sz+j)++seg++inner.drop (i.toNat * d.sz+j+seg.length)).drop (i.toNat * d.sz)).take d.sz=c.take j++seg++c.drop (j+seg.length):=by
          apply List.ext_getElem?;intro q;rw [List.getElem?_take,List.getElem?_drop,seg_get inner seg _ (by omega),seg_get c seg j (by omega) q];by_cases hq:q < d.sz
          · rw [if_pos hq,hcin q hq]
            by_cases hq1:q < j
            · rw [if_pos (by omega),if_pos hq1]
            · rw [if_neg (by omega),if_neg hq1]
              by_cases hq2:q < j+seg.length
              · rw [if_pos (by omega),if_pos hq2]
                congr 1
                omega
              · rw [if_neg (by omega),if_neg hq2]
          · rw [if_neg hq,if_neg (by omega),if_neg (by omega),List.getElem?_eq_none (by omega)]
        rw [hcells];refine d.M_mono (fun k hk=>?_) (d.M_move (w1:=W.setCells g (i.toNat * d.sz+j) seg) (fun k hk=>hfar k (hokp k hk).2) hM);exact ⟨(hokp k hk).1,fun he=>(hokp k hk).2 (by rw [← hgo] at he;injection he)⟩
      · rw [List.getElem?_set_ne (by omega)] at hm
        have hold:=hr.2 m p hm
        have hcells:((inner.take (i.toNat * d.sz+j)++seg++inner.drop (i.toNat * d.sz+j+seg.length)).drop (m * d.sz)).take d.sz=(inner.drop (m * d.sz)).take d.sz:=by
          apply List.ext_getElem?;intro q;rw [List.getElem?_take,List.getElem?_take,List.getElem?_drop,List.getElem?_drop,seg_get inner seg _ (by omega)];by_cases hq:q < d.sz
          · rw [if_pos hq,if_pos hq]
            rcases Nat.lt_or_gt_of_ne hmi with hlt | hgt
            · have:m * d.sz+d.sz≤i.toNat * d.sz:=by rw [← Nat.succ_mul];exact Nat.mul_le_mul_right _ hlt
              rw [if_pos (by omega)]
            · have:i.toNat * d.sz+d.sz≤m * d.sz:=by rw [← Nat.succ_mul];exact Nat.mul_le_mul_right _ hgt
              rw [if_neg (by omega),if_neg (by omega)]
          · rw [if_neg hq,if_neg hq]
        rw [hcells];refine d.M_move (fun k hk=>hfar k (fun he=>hk.2 (by rw [he];exact hgo))) hold
end
end Kd
end Go.Proofs.YtkbgkekegjfkfaaGreatDoor.WW
