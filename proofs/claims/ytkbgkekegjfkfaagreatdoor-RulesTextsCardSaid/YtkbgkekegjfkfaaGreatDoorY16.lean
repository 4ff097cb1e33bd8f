-- By pack.py, a program of this session's.
import Derived.Test.YtkbgkekegjfkfaaGreatDoorY12
import Derived.Test.YtkbgkekegjfkfaaGreatDoorY13
set_option linter.unusedVariables false
set_option linter.unusedSimpArgs false
namespace Go.Proofs.YtkbgkekegjfkfaaGreatDoor.A
open Go.RowKit B WW WL WM
attribute [local go_sem] max2_int min2_int max_two min_two max_three min_three max_four min_four
set_option maxHeartbeats 8000000
set_option maxRecDepth 100000
theorem fields_calls (s:ByteArray) (L:List ByteArray) (hL:(Lib.fields s.data.toList).map (fun l=>(⟨l.toArray⟩:ByteArray))=L) (hs:s.size < 4294967281) (ha:∀ (j:Nat) b,s.data.toList[j]?=some b→b.toNat < 128) (w:World) (hG:Gl w) :
  Calls Tryz.prog 71 #[.string s] w fun e w'=>e=.returned (.slice (some ⟨w.heap.size,0,none⟩) L.length L.length)∧w'=w.alloc (.cells (L.map Value.string).toArray 9):=by
 have:=Go.Proofs.Any.strings_Fields_core Go.Proofs.Tryz.lays157 (by kernel_rfl) s w hs ha hG.2.1.2;refine this.mono ?_;rintro e w' ⟨rfl,rfl⟩;refine ⟨by rw [← hL,List.length_map],by rw [← hL,List.map_map];rfl⟩
theorem named_calls (s:ByteArray) (L:List ByteArray) (hL:(Lib.fields s.data.toList).map (fun l=>(⟨l.toArray⟩:ByteArray))=L) (hs:s.size < 4294967281) (ha:∀ (j:Nat) b,s.data.toList[j]?=some b→b.toNat < 128) (m:Nat) (x:ByteArray) (hx:L[m]?=some x) (w:World) (hG:Gl w) (hm:m≤1000) :
  Calls Tryz.prog 30 #[.string s,.int .i64 ((m:Int)+1)] w fun e w'=>e=.returned (.string x)∧Below w.heap.size w w':=by
 have HF:=sd (fields_calls s L hL hs ha w hG)
 have hlt:m < L.length:=by
  rcases Nat.lt_or_ge m L.length with h | h
  ·exact h
  ·rw [List.getElem?_eq_none h] at hx;cases hx
 have hlt':(m:Int) < (L.length:Int):=by omega
 have h0:(0:Int)≤(m:Int):=by omega
 have hw:wrap64 ((m:Int)+1 - 1)=(m:Int):=by unfold wrap64;omega
 have HX:=sd hx;clear hx hL hs ha hG;go_enter Tryz.func30,Tryz.ntmps30
 go_wp2_with fail
 refine HF.out.mono ?_;rintro e w1 ⟨rfl,rfl⟩;have HB:=sd (below_alloc (Below.refl w.heap.size w) (Obj.cells (L.map Value.string).toArray 9));have b0:(w.alloc (Obj.cells (L.map Value.string).toArray 9)).heap[w.heap.size]?=some (.cells (L.map Value.string).toArray 9 (0,0)):=blk_new _ _;generalize w.alloc (Obj.cells (L.map Value.string).toArray 9)=w1 at *;obtain ⟨g,hg⟩:∃ g,g=w.heap.size:=⟨_,rfl⟩
 rw [← hg] at b0 ⊢
 have c0:w1.cell? ⟨g,m,none⟩=some (.string x):=by
  refine (blk_cell b0 m).trans ?_;simp [HX.out]
 clear b0 hg;go_wp2_with fail
 go_ret
 exact ⟨rfl,HB.out⟩
mutual
def words_Cut.l0:Nat→ByteArray→List (S73)→Int→Option ((List (S73))×Int×Int)
 | 0,_,_,_=>none
 | k+1,x0,x2,x3=>if x3 < (x0.size:Int) then (if 0≤x3 then (words_Cut.j1 k x0 x2 x3 ((bt x0 x3) != 35)) else (none)) else (words_Cut.j1 k x0 x2 x3 false)
def words_Cut.j1:Nat→ByteArray→List (S73)→Int→Bool→Option ((List (S73))×Int×Int)
 | 0,_,_,_,_=>none
 | k+1,x0,x2,x3,x20=>if x20=true then (if 0≤x3 then (if x3 < (x0.size:Int) then (if (bt x0 x3)=32 then (words_Cut.l0 k x0 x2 (wrap64 (x3+1))) else ((words_word.f k x0 x3).bind fun bt222=>(if bt222.2.2.2.2.2=0 then (if x2.length < 4398046511104 then (words_Cut.l0 k x0 (x2++[(⟨bt222.1,bt222.2.1,bt222.2.2.1⟩:S73)]) bt222.2.2.2.1) else (none)) else (some (([]:List (S73)),bt222.2.2.2.2.1,bt222.2.2.2.2.2))))) else (none)) else (none)) else (some (x2,(x0.size:Int),0))
end
def words_Cut.f (k:Nat) (a0:ByteArray):Option ((List (S73))×Int×Int):=if (a0.size:Int) > 400 then (some (([]:List (S73)),0,9)) else (words_Cut.l0 k a0 ([]:List (S73)) 0)
def num_Add.f (a0:Int) (a1:Int):Option (Int×Bool):=if ((decide ((wrap64 (a0+a1)) > a0)) != (decide (a1 > 0)))=true then (if a1=0 then (some (wrap64 (a0+a1),true)) else (some (0,false))) else (some (wrap64 (a0+a1),true))
theorem num_Add.calls (a0 a1 r1:Int) (r2:Bool) (w:World) (h:num_Add.f a0 a1=some (r1,r2)) :
  Calls Tryz.prog 117 #[.int .i64 a0,.int .i64 a1] w fun e w'=>e=.returned (.tuple #[.int .i64 r1,.bool r2])∧Drawn0 w w':=by
 have H:=h;clear h;unfold num_Add.f at H;replace H:=ifI H;rcases H with ⟨c3,H⟩ | ⟨c3,H⟩
 ·have c3b0:((decide ((wrap64 (a0+a1)) > a0)) != (decide (a1 > 0)))=true:=c3;(try (have c3b1:decide ((decide ((wrap64 (a0+a1)) > a0))=(decide (a1 > 0)))=false:=by simpa using c3))
  (try (have c3b2:((decide ((wrap64 (a0+a1)) > a0)) == (decide (a1 > 0)))=false:=by simpa using c3))
  (try (have c3b3:¬ ((decide ((wrap64 (a0+a1)) > a0))=(decide (a1 > 0))):=by simpa using c3))
  clear c3;replace H:=ifI H;rcases H with ⟨c4,H⟩ | ⟨c4,H⟩
  ·obtain ⟨c4b0,c4b1⟩:=eqI c4;clear c4;simp only [Option.some.injEq,Prod.mk.injEq] at H
   obtain ⟨rfl,rfl⟩:=H;go_enter Tryz.func117,Tryz.ntmps117
   go_wp2
   go_ret2
   exact ⟨zq7,zq16⟩
  obtain ⟨c4b0,c4b1⟩:=neI c4;simp only [Option.some.injEq,Prod.mk.injEq] at H
  obtain ⟨rfl,rfl⟩:=H;go_enter Tryz.func117,Tryz.ntmps117
  go_wp2
  go_ret2
  exact ⟨zq7,zq16⟩
 have c3b0:((decide ((wrap64 (a0+a1)) > a0)) != (decide (a1 > 0)))=false:=by simpa using c3
 (try (have c3b1:decide ((decide ((wrap64 (a0+a1)) > a0))=(decide (a1 > 0)))=true:=by simpa using c3))
 (try (have c3b2:((decide ((wrap64 (a0+a1)) > a0)) == (decide (a1 > 0)))=true:=by simpa using c3))
 clear c3;simp only [Option.some.injEq,Prod.mk.injEq] at H
 obtain ⟨rfl,rfl⟩:=H;go_enter Tryz.func117,Tryz.ntmps117
 go_wp2
 go_ret2
 exact ⟨zq7,zq16⟩
theorem num_Add_eq (a b:Int) (ha:I64 a) (hb:I64 b):num_Add.f a b=some (fit (a+b)):=by
 unfold num_Add.f;unfold I64 at ha hb;have hw:I64 (a+b)→wrap64 (a+b)=a+b:=by unfold I64;unfold wrap64;omega
 have hlo:a+b < -9223372036854775808→wrap64 (a+b)=a+b+18446744073709551616:=by unfold wrap64;omega
 have hhi:9223372036854775807 < a+b→wrap64 (a+b)=a+b - 18446744073709551616:=by unfold wrap64;omega
 by_cases h:I64 (a+b)
 ·rw [hw h,fit_yes h];by_cases hb0:b=0
  ·subst hb0;simp
  by_cases hb1:b > 0
  ·rw [if_neg (by rw [decide_eq_true (show a+b > a by omega),decide_eq_true hb1];decide)]
  rw [if_neg (by rw [decide_eq_false (show ¬ a+b > a by omega),decide_eq_false hb1];decide)]
 rw [fit_no h];unfold I64 at h;by_cases h1:a+b < -9223372036854775808
 ·rw [hlo h1,if_pos (by rw [decide_eq_true (show a+b+18446744073709551616 > a by omega),decide_eq_false (show ¬ b > 0 by omega)];decide),if_neg (by omega)]
 rw [hhi (by omega),if_pos (by rw [decide_eq_false (show ¬ a+b - 18446744073709551616 > a by omega),decide_eq_true (show b > 0 by omega)];decide),if_neg (by omega)]
def num_Sub.f (a0:Int) (a1:Int):Option (Int×Bool):=if ((decide ((wrap64 (a0 - a1)) < a0)) != (decide (a1 > 0)))=true then (if a1=0 then (some (wrap64 (a0 - a1),true)) else (some (0,false))) else (some (wrap64 (a0 - a1),true))
theorem num_Sub.calls (a0 a1 r1:Int) (r2:Bool) (w:World) (h:num_Sub.f a0 a1=some (r1,r2)) :
  Calls Tryz.prog 118 #[.int .i64 a0,.int .i64 a1] w fun e w'=>e=.returned (.tuple #[.int .i64 r1,.bool r2])∧Drawn0 w w':=by
 have H:=h;clear h;unfold num_Sub.f at H;replace H:=ifI H;rcases H with ⟨c3,H⟩ | ⟨c3,H⟩
 ·have c3b0:((decide ((wrap64 (a0 - a1)) < a0)) != (decide (a1 > 0)))=true:=c3;(try (have c3b1:decide ((decide ((wrap64 (a0 - a1)) < a0))=(decide (a1 > 0)))=false:=by simpa using c3))
  (try (have c3b2:((decide ((wrap64 (a0 - a1)) < a0)) == (decide (a1 > 0)))=false:=by simpa using c3))
  (try (have c3b3:¬ ((decide ((wrap64 (a0 - a1)) < a0))=(decide (a1 > 0))):=by simpa using c3))
  clear c3;replace H:=ifI H;rcases H with ⟨c4,H⟩ | ⟨c4,H⟩
  ·obtain ⟨c4b0,c4b1⟩:=eqI c4;clear c4;simp only [Option.some.injEq,Prod.mk.injEq] at H
   obtain ⟨rfl,rfl⟩:=H;go_enter Tryz.func118,Tryz.ntmps118
   go_wp2
   go_ret2
   exact ⟨zq7,zq16⟩
  obtain ⟨c4b0,c4b1⟩:=neI c4;simp only [Option.some.injEq,Prod.mk.injEq] at H
  obtain ⟨rfl,rfl⟩:=H;go_enter Tryz.func118,Tryz.ntmps118
  go_wp2
  go_ret2
  exact ⟨zq7,zq16⟩
 have c3b0:((decide ((wrap64 (a0 - a1)) < a0)) != (decide (a1 > 0)))=false:=by simpa using c3
 (try (have c3b1:decide ((decide ((wrap64 (a0 - a1)) < a0))=(decide (a1 > 0)))=true:=by simpa using c3))
 (try (have c3b2:((decide ((wrap64 (a0 - a1)) < a0)) == (decide (a1 > 0)))=true:=by simpa using c3))
 clear c3;simp only [Option.some.injEq,Prod.mk.injEq] at H
 obtain ⟨rfl,rfl⟩:=H;go_enter Tryz.func118,Tryz.ntmps118
 go_wp2
 go_ret2
 exact ⟨zq7,zq16⟩
theorem num_Sub_eq (a b:Int) (ha:I64 a) (hb:I64 b):num_Sub.f a b=some (fit (a - b)):=by
 unfold num_Sub.f;unfold I64 at ha hb;have hw:I64 (a - b)→wrap64 (a - b)=a - b:=by unfold I64;unfold wrap64;omega
 have hlo:a - b < -9223372036854775808→wrap64 (a - b)=a - b+18446744073709551616:=by unfold wrap64;omega
 have hhi:9223372036854775807 < a - b→wrap64 (a - b)=a - b - 18446744073709551616:=by unfold wrap64;omega
 by_cases h:I64 (a - b)
 ·rw [hw h,fit_yes h];by_cases hb0:b=0
  ·subst hb0;simp
  by_cases hb1:b > 0
  ·rw [if_neg (by rw [decide_eq_true (show a - b < a by omega),decide_eq_true hb1];decide)]
  rw [if_neg (by rw [decide_eq_false (show ¬ a - b < a by omega),decide_eq_false hb1];decide)]
 rw [fit_no h];unfold I64 at h;by_cases h1:a - b < -9223372036854775808
 ·rw [hlo h1,if_pos (by rw [decide_eq_false (show ¬ a - b+18446744073709551616 < a by omega),decide_eq_true (show b > 0 by omega)];decide),if_neg (by omega)]
 rw [hhi (by omega),if_pos (by rw [decide_eq_true (show a - b - 18446744073709551616 < a by omega),decide_eq_false (show ¬ b > 0 by omega)];decide),if_neg (by omega)]
def days_Parse.rem (k:Nat) (s:ByteArray):Nat→Int→Int→Int→Option (Int×Int)
 | 0,x,y,z=>days_Of.f k x y z
 | 1,x,y,z=>(days_number.f k (s.extract 8 10)).bind fun c=>if c.2=true then days_Of.f k x y c.1 else some (0,5)
 | 2,x,y,z=>(days_number.f k (s.extract 5 7)).bind fun c=>if c.2=true then days_Parse.rem k s 1 x c.1 z else some (0,5)
 | _+3,x,y,z=>(days_number.f k (s.extract 0 4)).bind fun c=>if c.2=true then days_Parse.rem k s 2 c.1 y z else some (0,5)
def days_Parse.f (k:Nat) (s:ByteArray):Option (Int×Int):=if s.size≤140737488351232 then (if s.size=10 then (if bt s 4=45 then (if bt s 7=45 then days_Parse.rem k s 3 0 0 0 else some (0,5)) else some (0,5)) else some (0,5)) else none
structure Arr3 (W:World) (g:Nat) (x y z:Int):Prop where
 k0:W.cell? ⟨g,0,none⟩=some (.int .i64 x)
 k1:W.cell? ⟨g,1,none⟩=some (.int .i64 y)
 k2:W.cell? ⟨g,2,none⟩=some (.int .i64 z)
 f0:W.frozen? ⟨g,0,none⟩=false
 f1:W.frozen? ⟨g,1,none⟩=false
 f2:W.frozen? ⟨g,2,none⟩=false
theorem parts_at0 (W:World) (a b c:ByteArray):(Instr.index 151 (.agg #[.string a,.string b,.string c]) (.int .i64 0)).run Tryz.prog W=.ok (.string a) W:=by simp [Instr.index,go_sem]
theorem parts_at1 (W:World) (a b c:ByteArray):(Instr.index 151 (.agg #[.string a,.string b,.string c]) (.int .i64 1)).run Tryz.prog W=.ok (.string b) W:=by simp [Instr.index,go_sem]
theorem parts_at2 (W:World) (a b c:ByteArray):(Instr.index 151 (.agg #[.string a,.string b,.string c]) (.int .i64 2)).run Tryz.prog W=.ok (.string c) W:=by simp [Instr.index,go_sem]
theorem Arr3.s0 {W:World} {g:Nat} {x y z:Int} (h:Arr3 W g x y z) (v:Int):Arr3 (W.setCell ⟨g,0,none⟩ (.int .i64 v)) g v y z :=
 ⟨has_same ⟨_,h.k0⟩,has_other (by simp) h.k1,has_other (by simp) h.k2,zq24,zq25,zq26⟩
theorem Arr3.s1 {W:World} {g:Nat} {x y z:Int} (h:Arr3 W g x y z) (v:Int):Arr3 (W.setCell ⟨g,1,none⟩ (.int .i64 v)) g x v z :=
 ⟨has_other (by simp) h.k0,has_same ⟨_,h.k1⟩,has_other (by simp) h.k2,zq24,zq25,zq26⟩
theorem Arr3.s2 {W:World} {g:Nat} {x y z:Int} (h:Arr3 W g x y z) (v:Int):Arr3 (W.setCell ⟨g,2,none⟩ (.int .i64 v)) g x y v :=
 ⟨has_other (by simp) h.k0,has_other (by simp) h.k1,has_same ⟨_,h.k2⟩,zq24,zq25,zq26⟩
theorem Arr3.drawn {W:World} {g:Nat} {x y z:Int} (h:Arr3 W g x y z) (n:Nat):Arr3 (W.drewN n) g x y z:=⟨h.k0,h.k1,h.k2,h.f0,h.f1,h.f2⟩
theorem days_Parse.calls (k:Nat) (a0:ByteArray) (r1 r2:Int) (w:World) (h:days_Parse.f k a0=some (r1,r2)) (hG:Gl w) :
  Calls Tryz.prog 83 #[.string a0] w fun e w'=>e=.returned (.tuple #[.int .i64 r1,.int .i64 r2])∧Below w.heap.size w w':=by
 have HG:=sd hG;clear hG;generalize hP:(fun (e:Ending) (w':World)=>e=.returned (.tuple #[.int .i64 r1,.int .i64 r2])∧Below w.heap.size w w')=Post;have HP:=sd hP;clear hP;unfold days_Parse.f at h;split at h
 case isFalse=>cases h
 rename_i hs
 split at h
 case isFalse =>
  rename_i h10
  obtain ⟨rfl,rfl⟩:=Prod.mk.inj (Option.some.inj h);have h10':¬ (a0.size:Int)=10:=by omega
  go_enter Tryz.func83,Tryz.ntmps83
  go_wp2_with fail
  rw [← HP.out];exact ⟨by (try rfl),Below.refl _ _⟩
 rename_i h10
 have b4:bt a0 4=((a0[4]'(by omega)).toNat:Int):=(bt_at a0 4 (by rw [h10];decide)).symm;have b7:bt a0 7=((a0[7]'(by omega)).toNat:Int):=(bt_at a0 7 (by rw [h10];decide)).symm;rw [b4,b7] at h;clear b4 b7;have h10':(a0.size:Int)=10:=by omega
 have i4:4 < a0.size:=by omega
 have i7:7 < a0.size:=by omega
 generalize hc4:a0[4]=c4 at h;generalize hc7:a0[7]=c7 at h;split at h
 case isFalse =>
  rename_i h4
  obtain ⟨rfl,rfl⟩:=Prod.mk.inj (Option.some.inj h);have s45:((c4.toNat:Int) == 45)=false:=beq_eq_false_iff_ne.mpr h4;go_enter Tryz.func83,Tryz.ntmps83
  go_wp2_with fail
  rw [← HP.out];exact ⟨by (try rfl),Below.refl _ _⟩
 rename_i h4
 split at h
 case isFalse =>
  rename_i h7
  obtain ⟨rfl,rfl⟩:=Prod.mk.inj (Option.some.inj h);go_enter Tryz.func83,Tryz.ntmps83
  go_wp2_with fail
  rw [← HP.out];exact ⟨by (try rfl),Below.refl _ _⟩
 rename_i h7
 have H:=sd h;clear h;go_enter Tryz.func83,Tryz.ntmps83
 go_wp2_with fail
 go_region
 go_wp2_with fail
 go_loopw [29] (fun n_ wr=>∃ (i:Nat) (x y z:Int),i≤3∧n_=.int .i64 (i:Int)∧Aside0 (days_Parse.rem k a0 (3 - i) x y z=some (r1,r2))∧Aside0 (Arr3 wr w.heap.size x y z)∧Aside0 (Below w.heap.size w wr)) (fun n_ _=>(3 - (RowKit.intOf n_).toNat))
 case atStart =>
  exact ⟨0,0,0,0,by omega,rfl,H,⟨by constructor <;> go_simp⟩,⟨below_drew1 ((Below.refl _ _).alloc (Nat.le_refl _) _)⟩⟩
 case round =>
  obtain ⟨i,x,y,z,hi,rfl,HR,HA,HB⟩:=hrel;rename World=>wr
  clear H;have hA:=HA.out;obtain ⟨k0,k1,k2,f0,f1,f2⟩:=hA;have hi':i=0∨i=1∨i=2∨i=3:=by omega
  rcases hi' with rfl | rfl | rfl | rfl
  ·have h:=HR.out;rw [show 3 - 0=3 from rfl,days_Parse.rem] at h;obtain ⟨c,hc,h⟩:=Option.bind_eq_some_iff.mp h;have CN:=sd (fun W=>days_number.calls k _ c.1 c.2 W hc);have hix:=fun W=>parts_at0 W (a0.extract 0 4) (a0.extract 5 7) (a0.extract 8 10)
   clear hc;obtain ⟨c1,c2⟩:=c
   cases c2
   ·obtain ⟨rfl,rfl⟩:=Prod.mk.inj (Option.some.inj h);go_wp2_with fail
    refine (CN.out _).mono ?_;rintro e w1 ⟨rfl,hd⟩;obtain ⟨⟨n1,rfl⟩⟩:=hd;go_wp2_with fail
    rw [← HP.out];exact ⟨by (try rfl),zq27⟩
   ·have HR2:=sd (show days_Parse.rem k a0 2 c1 y z=some (r1,r2) from (if_pos rfl).symm.trans h);clear h HR;go_wp2_with fail
    refine (CN.out _).mono ?_;rintro e w1 ⟨rfl,hd⟩;obtain ⟨⟨n1,rfl⟩⟩:=hd;go_wp2_with fail
    go_roundw
    case rel=>exact ⟨1,c1,y,z,by omega,by go_num,HR2,⟨(HA.out.drawn _).s0 _⟩,⟨below_setN zq27 (Nat.le_refl _) _⟩⟩
    case measure=>simp [RowKit.intOf]
  ·have h:=HR.out;rw [show 3 - 1=2 from rfl,days_Parse.rem] at h;obtain ⟨c,hc,h⟩:=Option.bind_eq_some_iff.mp h;have CN:=sd (fun W=>days_number.calls k _ c.1 c.2 W hc);have hix:=fun W=>parts_at1 W (a0.extract 0 4) (a0.extract 5 7) (a0.extract 8 10)
   clear hc;obtain ⟨c1,c2⟩:=c
   cases c2
   ·obtain ⟨rfl,rfl⟩:=Prod.mk.inj (Option.some.inj h);go_wp2_with fail
    refine (CN.out _).mono ?_;rintro e w1 ⟨rfl,hd⟩;obtain ⟨⟨n1,rfl⟩⟩:=hd;go_wp2_with fail
    rw [← HP.out];exact ⟨by (try rfl),zq27⟩
   ·have HR2:=sd (show days_Parse.rem k a0 1 x c1 z=some (r1,r2) from (if_pos rfl).symm.trans h);clear h HR;go_wp2_with fail
    refine (CN.out _).mono ?_;rintro e w1 ⟨rfl,hd⟩;obtain ⟨⟨n1,rfl⟩⟩:=hd;go_wp2_with fail
    go_roundw
    case rel=>exact ⟨2,x,c1,z,by omega,by go_num,HR2,⟨(HA.out.drawn _).s1 _⟩,⟨below_setN zq27 (Nat.le_refl _) _⟩⟩
    case measure=>simp [RowKit.intOf]
  ·have h:=HR.out;rw [show 3 - 2=1 from rfl,days_Parse.rem] at h;obtain ⟨c,hc,h⟩:=Option.bind_eq_some_iff.mp h;have CN:=sd (fun W=>days_number.calls k _ c.1 c.2 W hc);have hix:=fun W=>parts_at2 W (a0.extract 0 4) (a0.extract 5 7) (a0.extract 8 10)
   clear hc;obtain ⟨c1,c2⟩:=c
   cases c2
   ·obtain ⟨rfl,rfl⟩:=Prod.mk.inj (Option.some.inj h);go_wp2_with fail
    refine (CN.out _).mono ?_;rintro e w1 ⟨rfl,hd⟩;obtain ⟨⟨n1,rfl⟩⟩:=hd;go_wp2_with fail
    rw [← HP.out];exact ⟨by (try rfl),zq27⟩
   ·have HR2:=sd (show days_Parse.rem k a0 0 x y c1=some (r1,r2) by rw [days_Parse.rem];rw [if_pos rfl] at h;exact h);clear h HR;go_wp2_with fail
    refine (CN.out _).mono ?_;rintro e w1 ⟨rfl,hd⟩;obtain ⟨⟨n1,rfl⟩⟩:=hd;go_wp2_with fail
    go_roundw
    case rel=>exact ⟨3,x,y,c1,by omega,by go_num,HR2,⟨(HA.out.drawn _).s2 _⟩,⟨below_setN zq27 (Nat.le_refl _) _⟩⟩
    case measure=>simp [RowKit.intOf]
  ·have h:=HR.out;rw [show 3 - 3=0 from rfl,days_Parse.rem] at h;have CO:=sd (fun W hW=>days_Of.calls k _ _ _ _ _ W h hW);clear h HR;go_wp2_with fail
   refine (CO.out _ (gl_below HG.out HB.out)).mono ?_;rintro e w1 ⟨rfl,hb⟩;have HB2:=sd (below_step HB.out hb);clear hb;go_wp2_with fail
   rw [← HP.out];exact ⟨by (try rfl),HB2.out⟩
structure RP (w:World) (bd g:Nat) (p:PR) (vC vT vW:Value):Prop where
  blk:w.heap[g]?=some (.cells (p.cells vC vT vW) 71 (0,0))
  rC:Kd.R k48 48 w bd (fun _=>True) vC p.cs
  rT:Kd.R k50 50 w bd (fun _=>True) vT p.tg
  rW:Kd.R k73 73 w bd (fun _=>True) vW p.ws
  hbd:bd≤g
theorem RP.facts {w:World} {bd g:Nat} {p:PR} {vC vT vW:Value} (h:RP w bd g p vC vT vW) :
    (w.cell? ⟨g,0,none⟩=some (.string p.nm)∧w.cell? ⟨g,1,none⟩=some vC∧w.cell? ⟨g,2,none⟩=some (.string p.acc)∧w.cell? ⟨g,3,none⟩=some (.string p.par)∧w.cell? ⟨g,4,none⟩=some vT∧w.cell? ⟨g,5,none⟩=some (.int .i64 p.st)∧w.cell? ⟨g,6,none⟩=some vW) ∧
    w.frozen? ⟨g,0,none⟩=false∧w.frozen? ⟨g,1,none⟩=false∧w.frozen? ⟨g,2,none⟩=false∧w.frozen? ⟨g,3,none⟩=false∧w.frozen? ⟨g,4,none⟩=false∧w.frozen? ⟨g,5,none⟩=false∧w.frozen? ⟨g,6,none⟩=false :=
  ⟨⟨(blk_cell h.blk 0).trans rfl,(blk_cell h.blk 1).trans rfl,(blk_cell h.blk 2).trans rfl,(blk_cell h.blk 3).trans rfl,(blk_cell h.blk 4).trans rfl,(blk_cell h.blk 5).trans rfl,(blk_cell h.blk 6).trans rfl⟩,
   blk_frozen h.blk 0,blk_frozen h.blk 1,blk_frozen h.blk 2,blk_frozen h.blk 3,blk_frozen h.blk 4,blk_frozen h.blk 5,blk_frozen h.blk 6⟩
theorem last_calls (bd g gc cap:Nat) (p:PR) (vT vW:Value) (w:World) (h:RP w bd g p (.slice (some ⟨gc,0,none⟩) p.cs.length cap) vT vW) (hn:0 < p.cs.length) :
    Calls Tryz.prog 114 #[.pointer (some ⟨g,0,none⟩)] w fun e w'=>e=.returned (.pointer (some ⟨gc,(p.cs.length - 1) * 4,none⟩))∧Drawn0 w w':=by
  obtain ⟨⟨_,k1,_,_,_,_,_⟩,_⟩:=h.facts
  have hl:p.cs.length≤9223372036854775807:=by
    obtain ⟨A,c,_,_,hC⟩:=Kd.R_reads h.rC;exact hC.2.1
  obtain ⟨m,hm⟩:∃ m,p.cs.length=m+1:=⟨p.cs.length - 1,by omega⟩
  rw [hm] at k1 hl ⊢;clear h hn hm;have hw:wrap64 (((m+1:Nat):Int) - 1)=(m:Int):=by unfold wrap64;omega
  have h0:(0:Int)≤(m:Int):=by omega
  have h1:(m:Int) < ((m+1:Nat):Int):=by omega
  go_enter Tryz.func114,Tryz.ntmps114
  go_wp2_with fail
  repeat (go_quiet (fail);try go_wp2)
  go_ret
  exact ⟨rfl,⟨⟨nq,rfl⟩⟩⟩
def StepPost (bd g:Nat) (vC vT vW:Value) (p':PR) (r:Int) (w:World) (e:Ending) (w':World):Prop :=
  e=.returned (.int .i64 r)∧(∃ vC' vT' vW',RP w' bd g p' vC' vT' vW')∧FP bd g vC vT vW w w'
def ReadPost (bd g:Nat) (vC vT vW:Value) (p':PR) (r:Int) (w:World) (e:Ending) (w':World):Prop :=
  e=.returned (.bool (r != 14))∧(∃ vC' vT' vW',RP w' bd g { p' with st:=r } vC' vT' vW')∧FP bd g vC vT vW w w'
def ValPost (bd g:Nat) (vC vT vW:Value) (p':PR) (at_ er:Int) (w:World) (e:Ending) (w':World):Prop :=
  e=.returned (.tuple #[.int .i64 at_,.int .i64 er])∧(∃ vC' vT' vW',RP w' bd g p' vC' vT' vW')∧FP bd g vC vT vW w w'
end Go.Proofs.YtkbgkekegjfkfaaGreatDoor.A
namespace Go.Proofs.YtkbgkekegjfkfaaGreatDoor.A
open Go.RowKit B WW WL WM
theorem zq9 {P:Prop} (h:P:=by (with_reducible repeat (first | apply Kd.R_alloc | apply Kd.R_drewN | apply Kd.R_drew));exact HO_2.out):P:=h
theorem zq13 {P:Prop} (h:P:=by (with_reducible repeat (first | refine blk_drewN ?_ _ | refine blk_drew ?_ | refine blk_alloc ?_ _));refine blk_far ?_ NB228_229.out _;(with_reducible repeat (first | refine blk_drewN ?_ _ | refine blk_drew ?_ | refine blk_alloc ?_ _));refine blk_far ?_ NB228_229.out _;(with_reducible repeat (first | refine blk_drewN ?_ _ | refine blk_drew ?_ | refine blk_alloc ?_ _));refine blk_put (cs:=#[.int .i64 t222,.string t223,.int .i64 0]) ?_ 2 _ rfl;(with_reducible repeat (first | refine blk_drewN ?_ _ | refine blk_drew ?_ | refine blk_alloc ?_ _));refine blk_put (cs:=#[.int .i64 t222,.string (⟨#[]⟩:ByteArray),.int .i64 0]) ?_ 1 _ rfl;(with_reducible repeat (first | refine blk_drewN ?_ _ | refine blk_drew ?_ | refine blk_alloc ?_ _));refine blk_put (cs:=#[.int .i64 0,.string (⟨#[]⟩:ByteArray),.int .i64 0]) ?_ 0 _ rfl;(with_reducible repeat (first | refine blk_drewN ?_ _ | refine blk_drew ?_ | refine blk_alloc ?_ _));exact BK228.out):P:=h
theorem zq15 {P:Prop} (h:P:=by (with_reducible repeat (first | refine blk_drewN ?_ _ | refine blk_drew ?_ | refine blk_alloc ?_ _));refine blk_put (cs:=#[.int .i64 t226,.int .i64 0]) ?_ 1 _ rfl;(with_reducible repeat (first | refine blk_drewN ?_ _ | refine blk_drew ?_ | refine blk_alloc ?_ _));refine blk_put (cs:=#[.int .i64 0,.int .i64 0]) ?_ 0 _ rfl;(with_reducible repeat (first | refine blk_drewN ?_ _ | refine blk_drew ?_ | refine blk_alloc ?_ _));refine blk_far ?_ NB229_228.out _;(with_reducible repeat (first | refine blk_drewN ?_ _ | refine blk_drew ?_ | refine blk_alloc ?_ _));refine blk_far ?_ NB229_228.out _;(with_reducible repeat (first | refine blk_drewN ?_ _ | refine blk_drew ?_ | refine blk_alloc ?_ _));refine blk_far ?_ NB229_228.out _;(with_reducible repeat (first | refine blk_drewN ?_ _ | refine blk_drew ?_ | refine blk_alloc ?_ _));exact BK229.out):P:=h
end Go.Proofs.YtkbgkekegjfkfaaGreatDoor.A
namespace Go.Proofs.YtkbgkekegjfkfaaGreatDoor.A
open Go.RowKit B WW WL WM
attribute [local go_sem] max2_int min2_int max_two min_two max_three min_three max_four min_four
theorem info73:(Tryz.prog.info? 73).map (fun i=>(i.zero,i.size,i.bytes))=some (some (.agg #[(.int .i64 0),(.string ⟨#[]⟩),(.int .i64 0)]),3,32):=by kernel_rfl
theorem k73_mkM (w:World) (base:Nat) (ok:Nat→Prop) (x:S73):k73.M w base ok x [.int .i64 x.f0,.string x.f1,.int .i64 x.f2]:=⟨[.int .i64 x.f0],[.string x.f1,.int .i64 x.f2],rfl,rfl,⟨[.string x.f1],[.int .i64 x.f2],rfl,rfl,rfl⟩⟩
end Go.Proofs.YtkbgkekegjfkfaaGreatDoor.A
namespace Go.Proofs.YtkbgkekegjfkfaaGreatDoor.WW
open Go.RowKit
namespace Kd
section
variable {α:Type} {d:Kd α} {e:Nat} {w w1:World} {base:Nat} {ok ok':Nat→Prop} {v:Value} {xs:List α}
theorem R_far (h:d.R e w base ok v xs) {p:Addr} (hok:∀ k,ok k→k≠p.block) (u:Value):d.R e (w.setCell p u) base ok v xs:=R_step h (fun k ho _=>Below.heap_setCell w p u k (hok k ho))
theorem R_set (h:d.R e w base ok v xs) {g t:Nat} {cells:Array Value} (hb:w.heap[g]?=some (.cells cells t (0,0))) (ht:∀ q,q∈e :: d.E→q≠t) (j:Nat) (u:Value):d.R e (w.setCell ⟨g,j,none⟩ u) base ok v xs :=
  R_mono (R_far (p:=⟨g,j,none⟩) (R_types h hb ht) (fun _ hk=>hk.2) u) (fun _ hk=>hk.1)
end
end Kd
end Go.Proofs.YtkbgkekegjfkfaaGreatDoor.WW
namespace Go.Proofs.YtkbgkekegjfkfaaGreatDoor.WW
open Go.RowKit
namespace Kd
section
variable {P:Program} {ops:Array Oper} {o:Oper} {a:Act} {Q:Exit→Act→World→Prop} {Kc:Act→World→Prop} {α:Type}
theorem R_append_step (d:Kd α) {w0 W:World} (base:Nat) (hw:Region.wanted o (yielded ops a.tmps)=true) (s x:Operand) (t e:TypeId) (z:Value) (bytes:Nat)
    (ho:o.op=.call { callee:=.builtin .append,args:=#[s,x],argTypes:=#[t,t] })
    (ht:P.underlying t=some (.slice e)) (hinfo:(P.info? e).map (fun i=>(i.zero,i.size,i.bytes))=some (some z,d.sz,bytes)) (hz:z.cells.size=d.sz) (hs0:0 < d.sz) (hb0:0 < bytes)
    (v:Value) (xs:List α) (p:α) (cs:List Value) (ok okp:Nat→Prop) (hs:a.eval s=v) (hx:a.eval x=.slice (some ⟨W.heap.size,0,none⟩) 1 1) (hp:d.M W base okp p cs) (hokp:∀ k,okp k→ok k∧some k≠v.ownBlock) (hfresh:∀ k,W.heap.size≤k→ok k)
    (HO:d.R e W base ok v xs) (HB:Below base w0 W) (hbase:base≤W.heap.size) (hl:(xs.length+1) * bytes≤140737488355328)
    (h:∀ v1 w1,d.R e w1 base ok v1 (xs++[p])→Below base w0 w1→W.grownBy w1 v.ownBlock→(v1.ownBlock=v.ownBlock∨∃ b,v1.ownBlock=some b∧W.heap.size≤b)→Kc (a.put o.dst v1) w1) :
    if Region.wanted o (yielded ops a.tmps)=true then Oper.wp P o a (W.alloc (.cells cs.toArray e)) Kc Q else Kc (a.put o.dst undef) (W.alloc (.cells cs.toArray e)):=by
  obtain ⟨h0,inner,hown,hr⟩:=HO;refine step_append_cells base hw s x t e z d.sz bytes ho ht hinfo hz hs0 hb0 v xs.length inner cs hs hx (d.K_len (d.K_of_M hp)) (d.K_one (d.K_of_M hp)) hown HB hbase hl ?_;intro v1 w1 hown1 hb1 hg1 hat1;exact h v1 w1 (R_appended h0 hr hp hokp hfresh hown1 hg1 hat1) hb1 hg1 hat1
end
end Kd
end Go.Proofs.YtkbgkekegjfkfaaGreatDoor.WW
namespace Go.Proofs.YtkbgkekegjfkfaaGreatDoor.B
open Go.RowKit WW WL WM
section
variable {P:Program} {ops:Array Oper} {rest:List Oper} {o:Oper} {Q:Exit→Act→World→Prop} {a:Act} {w V W w1:World} {g g':Nat}
theorem rbm {α:Type} {d:Kd α} {e base:Nat} {ok:Nat→Prop} {v:Value} {xs:List α} (H:Aside0 (d.R e V base ok v xs)) (hb:Below W.heap.size W w1) (hs:d.R e V base ok v xs→d.R e W base ok v xs:=by (intro h;(with_reducible repeat (first | apply Kd.R_alloc | apply Kd.R_drewN | apply Kd.R_drew));exact h)):Aside0 (d.R e w1 base ok v xs):=⟨Kd.R_below (hs H.out) hb⟩
end
end Go.Proofs.YtkbgkekegjfkfaaGreatDoor.B
namespace Go.Proofs.YtkbgkekegjfkfaaGreatDoor.B
open Go.Lib Go.RowKit WW
theorem sgn_big_append (b:Bool) (l m:List UInt8) (hn:¬ I64 (sgn b (dval l))):¬ I64 (sgn b (dval (l++m))):=sgn_big b (dval_append_le l m) hn
theorem PInv.stop {neg:Bool} {m:List UInt8} {j:Nat} {n:Int} (h:PInv neg m j n false):¬ I64 (sgn neg (dval m)):=by
  rcases h with ⟨h,_⟩ | ⟨_,_,h⟩
  · cases h
  · have:=sgn_big_append neg (m.take j) (m.drop j) h
    rwa [List.take_append_drop] at this
theorem parse_stop {l:List UInt8} (hf:formedL l=true) {j:Nat} {n:Int} (h:PInv (negOf l) (magOf l) j n false) (lo hi:Int):parseL l lo hi=(0,3):=by
  unfold parseL;rw [if_pos hf,if_neg];intro hh;exact h.stop hh.1
end Go.Proofs.YtkbgkekegjfkfaaGreatDoor.B
namespace Go.Proofs.YtkbgkekegjfkfaaGreatDoor.A
open Go.RowKit B WW WL WM
theorem zq14 {P:Prop} (h:P:=by (with_reducible repeat (first | apply Kd.R_alloc | apply Kd.R_drewN | apply Kd.R_drew));exact Kd.R_mono (Kd.R_far (p:=⟨gb229,1,none⟩) (Kd.R_far (p:=⟨gb229,0,none⟩) (Kd.R_far (p:=⟨gb228,2,none⟩) (Kd.R_far (p:=⟨gb228,1,none⟩) (Kd.R_far (p:=⟨gb228,0,none⟩) (Kd.R_types (Kd.R_mono HO_2.out (fun k_ hk=>(⟨hk,hk.2⟩:_∧k_≠gb228))) BK229.out (by decide)) (fun _ hk=>hk.1.2) (.int .i64 t222)) (fun _ hk=>hk.1.2) (.string t223)) (fun _ hk=>hk.1.2) (.int .i64 t224)) (fun _ hk=>hk.2) (.int .i64 t226)) (fun _ hk=>hk.2) (.int .i64 t227)) (fun _ hk=>hk.1.1.2)):P:=h
end Go.Proofs.YtkbgkekegjfkfaaGreatDoor.A
namespace Go.Proofs.YtkbgkekegjfkfaaGreatDoor.A
open Go.RowKit B WW WL WM
attribute [local go_sem] max2_int min2_int max_two min_two max_three min_three max_four min_four
set_option maxHeartbeats 8000000
set_option maxRecDepth 100000
theorem words_Cut.calls (k:Nat) (a0:ByteArray) (r1:List (S73)) (r2 r3:Int) (w:World) (h:words_Cut.f k a0=some (r1,r2,r3)) :
  Calls Tryz.prog 39 #[.string a0] w fun e w'=>∃ v0_:Value,e=.returned (.tuple #[v0_,.int .i64 r2,.int .i64 r3])∧Kd.R k73 73 w' w.heap.size (fun _=>True) v0_ r1∧Below w.heap.size w w':=by
 have hu73:=Tryz.underlying73;have hu116:=Tryz.underlying116;have HB:=sd (Below.refl w.heap.size w);have H:=h;clear h;unfold words_Cut.f at H;replace H:=ifI H;rcases H with ⟨c2,H⟩ | ⟨c2,H⟩
 ·have c2b0:decide (400 < (a0.size:Int))=true:=decide_eq_true c2;have c2b1:decide (400 < a0.size)=true:=decide_eq_true (by omega);clear c2;simp only [Option.some.injEq,Prod.mk.injEq] at H
  obtain ⟨rfl,rfl,rfl⟩:=H;go_enter Tryz.func39,Tryz.ntmps39
  go_wp2
  repeat (go_quiet (fail);try go_wp2)
  go_ret3
  exact ⟨_,zq4,zq5,zq6⟩
 have c2b0:decide (400 < (a0.size:Int))=false:=decide_eq_false c2;have c2b1:decide (400 < a0.size)=false:=decide_eq_false (by omega);clear c2;have H':=sd H;clear H;go_enter Tryz.func39,Tryz.ntmps39
 go_wp2
 repeat (go_quiet (fail);try go_wp2)
 go_loopg [2,3] k (fun kq v2 v3 w'=>∃ (x2_1:List (S73)) (x3_1:Int),v3=.int .i64 x3_1∧Aside0 (words_Cut.l0 kq a0 x2_1 x3_1=some (r1,r2,r3))∧Aside0 (kq≤k)∧Aside0 (Kd.R k73 73 w' w.heap.size (fun _=>True) v2 x2_1)∧Aside0 (Below w.heap.size w w'))
 case atStart=>exact ⟨(([]:List (S73))),(0),zq7,H',⟨Nat.le_refl _⟩,⟨zq5⟩,⟨zq6⟩⟩
 case round =>
  clear H';try clear c2
  try clear c2b0
  try clear c2b1
  try clear p2
  obtain ⟨x2_1,x3_1,rfl,HA,HK1,HO_2,HB⟩:=hrel
  cases gk with
  | zero=>exact absurd HA.out (by simp [words_Cut.l0])
  | succ k1 =>
   have H:=HA.out;clear HA;simp only [words_Cut.l0] at H
   have HC3:=sd H;clear H;go_upto_region 3 with (fail)
   repeat (go_quiet (fail);go_upto_region 3 with (fail))
   go_cut [20] (fun v20 wc=>∃ (kq:Nat) (x20_2:Bool),v20=.bool x20_2∧Aside0 (words_Cut.j1 kq a0 x2_1 x3_1 x20_2=some (r1,r2,r3))∧Aside0 (kq≤k1)∧Aside0 (Kd.R k73 73 wc w.heap.size (fun _=>True) u2 x2_1)∧Aside0 (Below w.heap.size w wc))
   case first =>
    have H:=HC3.out;clear HC3;replace H:=ifI H;rcases H with ⟨c4,H⟩ | ⟨c4,H⟩
    ·have c4b0:decide (x3_1 < (a0.size:Int))=true:=decide_eq_true c4;clear c4;(first | rw [c4b0] | (simp only [i64_w,i32_w];rw [c4b0]) | skip)
     replace H:=ifI H;rcases H with ⟨c5,H⟩ | ⟨c5,H⟩
     ·have c5b0:decide (0≤x3_1)=true:=decide_eq_true c5;clear c5;have H':=sd H;clear H;have p6:0≤(x3_1:Int):=od;have q6:x3_1 < (a0.size:Int):=od;have hx6:=bt_at a0 x3_1;replace p6:=eq_true p6;replace q6:=eq_true q6;go_wp2
      repeat (go_quiet (fail);try go_wp2)
      go_meet
      case rel=>exact ⟨_,(((bt a0 x3_1) != 35)),zq7,H',⟨zq8⟩,⟨zq9⟩,⟨zq6⟩⟩
     exact absurd H (by simp)
    have c4b0:decide (x3_1 < (a0.size:Int))=false:=decide_eq_false c4;clear c4;(first | rw [c4b0] | (simp only [i64_w,i32_w];rw [c4b0]) | skip)
    have H':=sd H;clear H;go_wp2
    repeat (go_quiet (fail);try go_wp2)
    go_meet
    case rel=>exact ⟨_,(false),zq7,H',⟨zq8⟩,⟨zq9⟩,⟨zq6⟩⟩
   case rest =>
    clear HC3;try clear c2
    try clear c2b0
    try clear c2b1
    try clear p2
    try clear c3
    try clear c4
    try clear c4b0
    try clear c5
    try clear c5b0
    try clear p6
    try clear q6
    try clear hx6
    try clear p2
    try clear p6
    try clear q6
    obtain ⟨kq,x20_2,rfl,HA,HJ2,HO_2,HB⟩:=hcut
    cases kq with
    | zero=>exact absurd HA.out (by simp [words_Cut.j1])
    | succ kj2 =>
     have H:=HA.out;clear HA;simp only [words_Cut.j1] at H
     by_cases c7:x20_2=true
     ·subst c7;rw [if_pos rfl] at H;replace H:=ifI H;rcases H with ⟨c8,H⟩ | ⟨c8,H⟩
      ·have c8b0:decide (0≤x3_1)=true:=decide_eq_true c8;clear c8;replace H:=ifI H;rcases H with ⟨c9,H⟩ | ⟨c9,H⟩
       ·have c9b0:decide (x3_1 < (a0.size:Int))=true:=decide_eq_true c9;clear c9;replace H:=ifI H;rcases H with ⟨c11,H⟩ | ⟨c11,H⟩
        ·obtain ⟨c11b0,c11b1⟩:=eqI c11;clear c11;have H':=sd H;clear H;have p10:0≤(x3_1:Int):=od;have q10:x3_1 < (a0.size:Int):=od;have hx10:=bt_at a0 x3_1;replace p10:=eq_true p10;replace q10:=eq_true q10;go_wp2
         repeat (go_quiet (fail);try go_wp2)
         go_roundg kj2
         case measure=>have:=HK1.out;have:=HJ2.out;omega
         case rel=>exact ⟨(x2_1),(wrap64 (x3_1+1)),zq7,H',⟨zq10⟩,⟨zq9⟩,⟨zq6⟩⟩
        obtain ⟨c11b0,c11b1⟩:=neI c11;replace H:=bdI H;obtain ⟨⟨t222,t223,t224,t225,t226,t227⟩,A12,H⟩:=H;(try dsimp only at H)
        replace H:=ifI H;rcases H with ⟨c13,H⟩ | ⟨c13,H⟩
        ·obtain ⟨c13b0,c13b1⟩:=eqI c13;clear c13;replace H:=ifI H;rcases H with ⟨c14,H⟩ | ⟨c14,H⟩
         ·have LMc14:=sd c14;clear c14;obtain ⟨y230,hy230⟩:∃ y_:List (S73),y_=(x2_1++[(⟨t222,t223,t224⟩:S73)]):=⟨_,rfl⟩
          replace H:(words_Cut.l0 kj2 a0 y230 t225)=some (r1,r2,r3):=by first | (rw [hy230];with_reducible exact H) | (have H2_:=(Option.bind_some _ _).symm.trans H;rw [hy230];with_reducible exact H2_) | (have H2_:=(Option.bind_some _ _).symm.trans H;with_reducible exact H2_) | with_reducible exact H | (rw [hy230];exact H) | exact H
          have Ny230:=sd hy230;clear hy230;have H':=sd H;clear H;have p10:0≤(x3_1:Int):=od;have q10:x3_1 < (a0.size:Int):=od;have hx10:=bt_at a0 x3_1;replace p10:=eq_true p10;replace q10:=eq_true q10;go_wp2_with (first | (go_at_call 80;(with_reducible refine (words_word.calls kj2 a0 x3_1 t222 t223 t224 t225 t226 t227 _ A12.out).mono ?_);rintro e w15 ⟨rfl,hb⟩;replace HO_2:=rbm HO_2 hb;replace HB:=hbm HB hb;clear hb) | ((with_reducible refine gate_dst (N:=5) rfl ?_);refine bxA 5 #[.int .i64 0,.string (⟨#[]⟩:ByteArray),.int .i64 0] 73 ?_;intro gb228 hg w16 hbox hb;have BK228:=sd (hbox);have GW228:=gem hg HB;have GE228:=GW228;replace HO_2:=sd (Kd.R_below (Kd.R_elderB zq9 gb228 (Nat.le_of_eq hg.symm)) hb);replace HB:=hbm HB hb;clear hb hbox hg) | ((with_reducible refine gate_dst (N:=7) rfl ?_);refine bxA 7 #[.int .i64 0,.int .i64 0] 116 ?_;intro gb229 hg w17 hbox hb;have BK229:=sd (hbox);have GW229:=gem hg HB;have GE229:=GW229;have NB228_229:=nlm hg BK228;have NB229_228:=ngm hg BK228;replace HO_2:=rbm HO_2 hb;replace BK228:=bkm BK228 hb;replace HB:=hbm HB hb;clear hb hbox hg;have hnb18:=NB228_229.out;have hnc18:=NB229_228.out;obtain ⟨_,_,_,_,_,_⟩:=bk3 BK228;obtain ⟨_,_,_,_⟩:=bk2 BK229) | ((with_reducible refine gate_builtin (b:=.append) (xs:=#[.tmp 41,.tmp 43]) rfl ?_);at_builtin;refine Kd.R_append k73 (w0:=w) w.heap.size rfl (.tmp 41) (.tmp 43) 66 73 (.agg #[(.int .i64 0),(.string ⟨#[]⟩),(.int .i64 0)]) 32 rfl Tryz.underlying66 info73 rfl (by decide) (by omega) u2 x2_1 (⟨t222,t223,t224⟩:S73) [.int .i64 t222,.string t223,.int .i64 t224] (fun k_=>k_≠gb228) (fun _=>False) rfl zq11 ?aP (fun _ hk=>hk.elim) ?aF ?aO ?aB ?aS ?aL ?_;(case aP=>exact k73_mkM _ _ _ (⟨t222,t223,t224⟩:S73));(case aB=>exact zq12);(case aF=>exact (fun k_ hk=>Kd.freshB (g:=gb228) (o:=.cells #[.int .i64 t222,.string t223,.int .i64 t224] 73 (0,0)) zq13 k_ hk));(case aO=>exact zq14);(case aS=>exact (below_size zq12));(case aL=>have:=LMc14.out;omega);intro v231 w21 ho hb hg hat;rw [← Ny230.out] at ho;have HO232:=sd (ho);replace BK228:=sd (blk_grown (g:=gb228) (o:=.cells #[.int .i64 t222,.string t223,.int .i64 t224] 73 (0,0)) zq13 hg (Kd.R_away HO_2.out (fun _ hk=>hk.2)));replace BK229:=sd (blk_grown (g:=gb229) (o:=.cells #[.int .i64 t226,.int .i64 t227] 116 (0,0)) zq15 hg (Kd.R_ne HO_2.out BK229.out (by decide)));replace HB:=sd (hb);clear HO_2;clear ho hb hg hat))
          repeat (go_quiet (first | (go_at_call 80;(with_reducible refine (words_word.calls kj2 a0 x3_1 t222 t223 t224 t225 t226 t227 _ A12.out).mono ?_);rintro e w15 ⟨rfl,hb⟩;replace HO_2:=rbm HO_2 hb;replace HB:=hbm HB hb;clear hb) | ((with_reducible refine gate_dst (N:=5) rfl ?_);refine bxA 5 #[.int .i64 0,.string (⟨#[]⟩:ByteArray),.int .i64 0] 73 ?_;intro gb228 hg w16 hbox hb;have BK228:=sd (hbox);have GW228:=gem hg HB;have GE228:=GW228;replace HO_2:=sd (Kd.R_below (Kd.R_elderB zq9 gb228 (Nat.le_of_eq hg.symm)) hb);replace HB:=hbm HB hb;clear hb hbox hg) | ((with_reducible refine gate_dst (N:=7) rfl ?_);refine bxA 7 #[.int .i64 0,.int .i64 0] 116 ?_;intro gb229 hg w17 hbox hb;have BK229:=sd (hbox);have GW229:=gem hg HB;have GE229:=GW229;have NB228_229:=nlm hg BK228;have NB229_228:=ngm hg BK228;replace HO_2:=rbm HO_2 hb;replace BK228:=bkm BK228 hb;replace HB:=hbm HB hb;clear hb hbox hg;have hnb18:=NB228_229.out;have hnc18:=NB229_228.out;obtain ⟨_,_,_,_,_,_⟩:=bk3 BK228;obtain ⟨_,_,_,_⟩:=bk2 BK229) | ((with_reducible refine gate_builtin (b:=.append) (xs:=#[.tmp 41,.tmp 43]) rfl ?_);at_builtin;refine Kd.R_append k73 (w0:=w) w.heap.size rfl (.tmp 41) (.tmp 43) 66 73 (.agg #[(.int .i64 0),(.string ⟨#[]⟩),(.int .i64 0)]) 32 rfl Tryz.underlying66 info73 rfl (by decide) (by omega) u2 x2_1 (⟨t222,t223,t224⟩:S73) [.int .i64 t222,.string t223,.int .i64 t224] (fun k_=>k_≠gb228) (fun _=>False) rfl zq11 ?aP (fun _ hk=>hk.elim) ?aF ?aO ?aB ?aS ?aL ?_;(case aP=>exact k73_mkM _ _ _ (⟨t222,t223,t224⟩:S73));(case aB=>exact zq12);(case aF=>exact (fun k_ hk=>Kd.freshB (g:=gb228) (o:=.cells #[.int .i64 t222,.string t223,.int .i64 t224] 73 (0,0)) zq13 k_ hk));(case aO=>exact zq14);(case aS=>exact (below_size zq12));(case aL=>have:=LMc14.out;omega);intro v231 w21 ho hb hg hat;rw [← Ny230.out] at ho;have HO232:=sd (ho);replace BK228:=sd (blk_grown (g:=gb228) (o:=.cells #[.int .i64 t222,.string t223,.int .i64 t224] 73 (0,0)) zq13 hg (Kd.R_away HO_2.out (fun _ hk=>hk.2)));replace BK229:=sd (blk_grown (g:=gb229) (o:=.cells #[.int .i64 t226,.int .i64 t227] 116 (0,0)) zq15 hg (Kd.R_ne HO_2.out BK229.out (by decide)));replace HB:=sd (hb);clear HO_2;clear ho hb hg hat));try go_wp2_with (first | (go_at_call 80;(with_reducible refine (words_word.calls kj2 a0 x3_1 t222 t223 t224 t225 t226 t227 _ A12.out).mono ?_);rintro e w15 ⟨rfl,hb⟩;replace HO_2:=rbm HO_2 hb;replace HB:=hbm HB hb;clear hb) | ((with_reducible refine gate_dst (N:=5) rfl ?_);refine bxA 5 #[.int .i64 0,.string (⟨#[]⟩:ByteArray),.int .i64 0] 73 ?_;intro gb228 hg w16 hbox hb;have BK228:=sd (hbox);have GW228:=gem hg HB;have GE228:=GW228;replace HO_2:=sd (Kd.R_below (Kd.R_elderB zq9 gb228 (Nat.le_of_eq hg.symm)) hb);replace HB:=hbm HB hb;clear hb hbox hg) | ((with_reducible refine gate_dst (N:=7) rfl ?_);refine bxA 7 #[.int .i64 0,.int .i64 0] 116 ?_;intro gb229 hg w17 hbox hb;have BK229:=sd (hbox);have GW229:=gem hg HB;have GE229:=GW229;have NB228_229:=nlm hg BK228;have NB229_228:=ngm hg BK228;replace HO_2:=rbm HO_2 hb;replace BK228:=bkm BK228 hb;replace HB:=hbm HB hb;clear hb hbox hg;have hnb18:=NB228_229.out;have hnc18:=NB229_228.out;obtain ⟨_,_,_,_,_,_⟩:=bk3 BK228;obtain ⟨_,_,_,_⟩:=bk2 BK229) | ((with_reducible refine gate_builtin (b:=.append) (xs:=#[.tmp 41,.tmp 43]) rfl ?_);at_builtin;refine Kd.R_append k73 (w0:=w) w.heap.size rfl (.tmp 41) (.tmp 43) 66 73 (.agg #[(.int .i64 0),(.string ⟨#[]⟩),(.int .i64 0)]) 32 rfl Tryz.underlying66 info73 rfl (by decide) (by omega) u2 x2_1 (⟨t222,t223,t224⟩:S73) [.int .i64 t222,.string t223,.int .i64 t224] (fun k_=>k_≠gb228) (fun _=>False) rfl zq11 ?aP (fun _ hk=>hk.elim) ?aF ?aO ?aB ?aS ?aL ?_;(case aP=>exact k73_mkM _ _ _ (⟨t222,t223,t224⟩:S73));(case aB=>exact zq12);(case aF=>exact (fun k_ hk=>Kd.freshB (g:=gb228) (o:=.cells #[.int .i64 t222,.string t223,.int .i64 t224] 73 (0,0)) zq13 k_ hk));(case aO=>exact zq14);(case aS=>exact (below_size zq12));(case aL=>have:=LMc14.out;omega);intro v231 w21 ho hb hg hat;rw [← Ny230.out] at ho;have HO232:=sd (ho);replace BK228:=sd (blk_grown (g:=gb228) (o:=.cells #[.int .i64 t222,.string t223,.int .i64 t224] 73 (0,0)) zq13 hg (Kd.R_away HO_2.out (fun _ hk=>hk.2)));replace BK229:=sd (blk_grown (g:=gb229) (o:=.cells #[.int .i64 t226,.int .i64 t227] 116 (0,0)) zq15 hg (Kd.R_ne HO_2.out BK229.out (by decide)));replace HB:=sd (hb);clear HO_2;clear ho hb hg hat)))
          go_roundg kj2
          case measure=>have:=HK1.out;have:=HJ2.out;omega
          case rel=>exact ⟨(y230),(t225),zq7,H',⟨zq10⟩,⟨by (with_reducible repeat (first | apply Kd.R_alloc | apply Kd.R_drewN | apply Kd.R_drew));exact Kd.R_mono HO232.out (fun _ hk=>trivial)⟩,⟨zq12⟩⟩
         exact absurd H (by simp)
        obtain ⟨c13b0,c13b1⟩:=neI c13;simp only [Option.some.injEq,Prod.mk.injEq] at H
        obtain ⟨rfl,rfl,rfl⟩:=H;have p10:0≤(x3_1:Int):=od;have q10:x3_1 < (a0.size:Int):=od;have hx10:=bt_at a0 x3_1;replace p10:=eq_true p10;replace q10:=eq_true q10;go_wp2_with (first | (go_at_call 80;(with_reducible refine (words_word.calls kj2 a0 x3_1 t222 t223 t224 t225 t226 t227 _ A12.out).mono ?_);rintro e w22 ⟨rfl,hb⟩;replace HO_2:=rbm HO_2 hb;replace HB:=hbm HB hb;clear hb) | ((with_reducible refine gate_dst (N:=5) rfl ?_);refine bxA 5 #[.int .i64 0,.string (⟨#[]⟩:ByteArray),.int .i64 0] 73 ?_;intro gb228 hg w23 hbox hb;have BK228:=sd (hbox);have GW228:=gem hg HB;have GE228:=GW228;replace HO_2:=sd (Kd.R_below (Kd.R_elderB zq9 gb228 (Nat.le_of_eq hg.symm)) hb);replace HB:=hbm HB hb;clear hb hbox hg) | ((with_reducible refine gate_dst (N:=7) rfl ?_);refine bxA 7 #[.int .i64 0,.int .i64 0] 116 ?_;intro gb229 hg w24 hbox hb;have BK229:=sd (hbox);have GW229:=gem hg HB;have GE229:=GW229;have NB228_229:=nlm hg BK228;have NB229_228:=ngm hg BK228;replace HO_2:=rbm HO_2 hb;replace BK228:=bkm BK228 hb;replace HB:=hbm HB hb;clear hb hbox hg;have hnb25:=NB228_229.out;have hnc25:=NB229_228.out;obtain ⟨_,_,_,_,_,_⟩:=bk3 BK228;obtain ⟨_,_,_,_⟩:=bk2 BK229))
        repeat (go_quiet (first | (go_at_call 80;(with_reducible refine (words_word.calls kj2 a0 x3_1 t222 t223 t224 t225 t226 t227 _ A12.out).mono ?_);rintro e w22 ⟨rfl,hb⟩;replace HO_2:=rbm HO_2 hb;replace HB:=hbm HB hb;clear hb) | ((with_reducible refine gate_dst (N:=5) rfl ?_);refine bxA 5 #[.int .i64 0,.string (⟨#[]⟩:ByteArray),.int .i64 0] 73 ?_;intro gb228 hg w23 hbox hb;have BK228:=sd (hbox);have GW228:=gem hg HB;have GE228:=GW228;replace HO_2:=sd (Kd.R_below (Kd.R_elderB zq9 gb228 (Nat.le_of_eq hg.symm)) hb);replace HB:=hbm HB hb;clear hb hbox hg) | ((with_reducible refine gate_dst (N:=7) rfl ?_);refine bxA 7 #[.int .i64 0,.int .i64 0] 116 ?_;intro gb229 hg w24 hbox hb;have BK229:=sd (hbox);have GW229:=gem hg HB;have GE229:=GW229;have NB228_229:=nlm hg BK228;have NB229_228:=ngm hg BK228;replace HO_2:=rbm HO_2 hb;replace BK228:=bkm BK228 hb;replace HB:=hbm HB hb;clear hb hbox hg;have hnb25:=NB228_229.out;have hnc25:=NB229_228.out;obtain ⟨_,_,_,_,_,_⟩:=bk3 BK228;obtain ⟨_,_,_,_⟩:=bk2 BK229));try go_wp2_with (first | (go_at_call 80;(with_reducible refine (words_word.calls kj2 a0 x3_1 t222 t223 t224 t225 t226 t227 _ A12.out).mono ?_);rintro e w22 ⟨rfl,hb⟩;replace HO_2:=rbm HO_2 hb;replace HB:=hbm HB hb;clear hb) | ((with_reducible refine gate_dst (N:=5) rfl ?_);refine bxA 5 #[.int .i64 0,.string (⟨#[]⟩:ByteArray),.int .i64 0] 73 ?_;intro gb228 hg w23 hbox hb;have BK228:=sd (hbox);have GW228:=gem hg HB;have GE228:=GW228;replace HO_2:=sd (Kd.R_below (Kd.R_elderB zq9 gb228 (Nat.le_of_eq hg.symm)) hb);replace HB:=hbm HB hb;clear hb hbox hg) | ((with_reducible refine gate_dst (N:=7) rfl ?_);refine bxA 7 #[.int .i64 0,.int .i64 0] 116 ?_;intro gb229 hg w24 hbox hb;have BK229:=sd (hbox);have GW229:=gem hg HB;have GE229:=GW229;have NB228_229:=nlm hg BK228;have NB229_228:=ngm hg BK228;replace HO_2:=rbm HO_2 hb;replace BK228:=bkm BK228 hb;replace HB:=hbm HB hb;clear hb hbox hg;have hnb25:=NB228_229.out;have hnc25:=NB229_228.out;obtain ⟨_,_,_,_,_,_⟩:=bk3 BK228;obtain ⟨_,_,_,_⟩:=bk2 BK229)))
        go_ret3
        exact ⟨_,zq4,zq5,zq12⟩
       exact absurd H (by simp)
      exact absurd H (by simp)
     replace c7:=Bool.eq_false_iff.mpr c7;subst c7;rw [if_neg Bool.false_ne_true] at H;simp only [Option.some.injEq,Prod.mk.injEq] at H
     obtain ⟨rfl,rfl,rfl⟩:=H;go_wp2
     repeat (go_quiet (fail);try go_wp2)
     go_ret3
     exact ⟨_,zq4,zq9,zq6⟩
end Go.Proofs.YtkbgkekegjfkfaaGreatDoor.A
