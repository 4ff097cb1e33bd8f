-- By pack.py, a program of this session's.
import Derived.Test.YtkbgkekegjfkfaaGreatDoorY16
set_option linter.unusedVariables false
set_option linter.unusedSimpArgs false
namespace Go.Proofs.YtkbgkekegjfkfaaGreatDoor.A
open Go.RowKit B WW WL WM
attribute [local go_sem] max2_int min2_int max_two min_two max_three min_three max_four min_four
set_option maxHeartbeats 8000000
set_option maxRecDepth 100000
mutual
def lw48_large.j0:Nat→Bool→ByteArray→List (S48)→ByteArray→ByteArray→List (S50)→Option (Bool)
 | 0,_,_,_,_,_,_=>none
 | k+1,x28,x102000,x102001,x102002,x102003,x102004=>if x28=true then (some true) else (lw48_large.l0 k 0 x102000 x102001 x102002 x102003 x102004)
def lw48_large.l0:Nat→Int→ByteArray→List (S48)→ByteArray→ByteArray→List (S50)→Option (Bool)
 | 0,_,_,_,_,_,_=>none
 | k+1,x3,x102000,x102001,x102002,x102003,x102004=>if x3 < (x102001.length:Int) then (if 0≤x3 then (if (((rd_T48 x102001 x3).f2).size:Int) > 400 then (some true) else (lw48_large.l0 k (wrap64 (x3+1)) x102000 x102001 x102002 x102003 x102004)) else (none)) else (lw48_large.l1 k 0 x102000 x102001 x102002 x102003 x102004)
def lw48_large.l1:Nat→Int→ByteArray→List (S48)→ByteArray→ByteArray→List (S50)→Option (Bool)
 | 0,_,_,_,_,_,_=>none
 | k+1,x4,x102000,x102001,x102002,x102003,x102004=>if x4 < (x102004.length:Int) then (if 0≤x4 then (if (wrap64 ((((rd_T50 x102004 x4).f0).size:Int)+(((rd_T50 x102004 x4).f1).size:Int))) > 400 then (some true) else (lw48_large.l1 k (wrap64 (x4+1)) x102000 x102001 x102002 x102003 x102004)) else (none)) else (some false)
end
def lw48_large.f (k:Nat) (a0_0:ByteArray) (l0_1:List (S48)) (a0_2:ByteArray) (a0_3:ByteArray) (l0_4:List (S50)):Option (Bool):=if (l0_1.length:Int) > 20 then (lw48_large.j0 k true a0_0 l0_1 a0_2 a0_3 l0_4) else (if (l0_4.length:Int) > 20 then (lw48_large.j0 k true a0_0 l0_1 a0_2 a0_3 l0_4) else (lw48_large.j0 k (decide ((wrap64 ((wrap64 ((a0_0.size:Int)+(a0_2.size:Int)))+(a0_3.size:Int))) > 400)) a0_0 l0_1 a0_2 a0_3 l0_4))
def codeX (x:S73):Bool:=decide (x.f0=1∨x.f0=2)
def pr0:PR:=⟨⟨#[]⟩,[],⟨#[]⟩,⟨#[]⟩,[],0,[]⟩
abbrev RRes:=ByteArray×List S48×ByteArray×ByteArray×List S50×Int×Int
def noR (a e:Int):RRes:=(⟨#[]⟩,[],⟨#[]⟩,⟨#[]⟩,[],a,e)
theorem sretP (Post:Ending→World→Prop) (T:Array Value) (W:World) (g:Nat) (cs:Array Value) (i e:Int) (t2:T.getD 2 undef=.pointer (some ⟨g,0,none⟩)) (t3:T.getD 3 undef=.int .i64 i) (t4:T.getD 4 undef=.int .i64 e)
    (hg:W.heap[g]?=some (.cells cs 25 (0,0))) (hs:cs.size=5) (hp:Post (.returned (.tuple #[.agg cs,.int .i64 i,.int .i64 e])) W):bodyPost Tryz.prog Tryz.f18 Post .ret { tmps:=T,defers:=[] } W:=by
  refine bodyPost_ret (v:=.tuple #[.agg cs,.int .i64 i,.int .i64 e]) ?_ rfl hp;have:=results_list (P:=Tryz.prog) (fn:=Tryz.f18) (tmps:=T) (w:=W) (rs:=[.cell 2 25,.tmp 3,.tmp 4]) rfl (by simp) (.cell g 25 cs (0,0) _ t2 hg Tryz.underlying25 rfl (by rw [hs];kernel_rfl) (.tmp (.tmp .nil)));rw [t3,t4] at this;exact this
theorem noretP (Post:Ending→World→Prop) (T:Array Value) (W w0:World) (gr:Nat) (i e:Int) (t2:T.getD 2 undef=.pointer (some ⟨gr,0,none⟩)) (t3:T.getD 3 undef=.int .i64 i) (t4:T.getD 4 undef=.int .i64 e)
    (hg:W.heap[gr]?=some (.cells #[Value.string ⟨#[]⟩,.slice none 0 0,.string ⟨#[]⟩,.string ⟨#[]⟩,.slice none 0 0] 25 (0,0))) (hB:Below w0.heap.size w0 W) (hge:w0.heap.size≤gr) (hp:∀ W',Below w0.heap.size w0 W'→Post (.returned (.tuple #[.agg #[Value.string ⟨#[]⟩,.slice none 0 0,.string ⟨#[]⟩,.string ⟨#[]⟩,.slice none 0 0],.int .i64 i,.int .i64 e])) W') :
    bodyPost Tryz.prog Tryz.f18 Post .ret { tmps:=T,defers:=[] } (((((W.setCell ⟨gr,0,none⟩ (.string ⟨#[]⟩)).setCell ⟨gr,1,none⟩ (.slice none 0 0)).setCell ⟨gr,2,none⟩ (.string ⟨#[]⟩)).setCell ⟨gr,3,none⟩ (.string ⟨#[]⟩)).setCell ⟨gr,4,none⟩ (.slice none 0 0)) :=
  sretP Post T _ gr #[Value.string ⟨#[]⟩,.slice none 0 0,.string ⟨#[]⟩,.string ⟨#[]⟩,.slice none 0 0] i e t2 t3 t4 (blk_put (cs:=#[Value.string ⟨#[]⟩,.slice none 0 0,.string ⟨#[]⟩,.string ⟨#[]⟩,.slice none 0 0]) (blk_put (cs:=#[Value.string ⟨#[]⟩,.slice none 0 0,.string ⟨#[]⟩,.string ⟨#[]⟩,.slice none 0 0]) (blk_put (cs:=#[Value.string ⟨#[]⟩,.slice none 0 0,.string ⟨#[]⟩,.string ⟨#[]⟩,.slice none 0 0]) (blk_put (cs:=#[Value.string ⟨#[]⟩,.slice none 0 0,.string ⟨#[]⟩,.string ⟨#[]⟩,.slice none 0 0]) (blk_put (cs:=#[Value.string ⟨#[]⟩,.slice none 0 0,.string ⟨#[]⟩,.string ⟨#[]⟩,.slice none 0 0]) hg 0 _ rfl) 1 _ rfl) 2 _ rfl) 3 _ rfl) 4 _ rfl) rfl (hp _ (below_setN (below_setN (below_setN (below_setN (below_setN hB hge _) hge _) hge _) hge _) hge _))
theorem n48r:∀ q,q∈(48:Nat) :: k48.E→q≠25:=by decide
theorem n50r:∀ q,q∈(50:Nat) :: k50.E→q≠25:=by decide
theorem yesretP (Post:Ending→World→Prop) (T:Array Value) (W w0:World) (gr bd:Nat) (nm acc par:ByteArray) (cs:List S48) (tg:List S50) (vC vT:Value) (t2:T.getD 2 undef=.pointer (some ⟨gr,0,none⟩)) (t3:T.getD 3 undef=.int .i64 0) (t4:T.getD 4 undef=.int .i64 0)
    (hg:W.heap[gr]?=some (.cells #[Value.string ⟨#[]⟩,.slice none 0 0,.string ⟨#[]⟩,.string ⟨#[]⟩,.slice none 0 0] 25 (0,0))) (hB:Below w0.heap.size w0 W) (hge:w0.heap.size≤gr) (hC:Kd.R k48 48 W bd (fun _=>True) vC cs) (hT:Kd.R k50 50 W bd (fun _=>True) vT tg)
    (hp:∀ W',Kd.R k48 48 W' bd (fun _=>True) vC cs→Kd.R k50 50 W' bd (fun _=>True) vT tg→Below w0.heap.size w0 W'→Post (.returned (.tuple #[.agg #[.string nm,vC,.string acc,.string par,vT],.int .i64 0,.int .i64 0])) W') :
    bodyPost Tryz.prog Tryz.f18 Post .ret { tmps:=T,defers:=[] } (((((W.setCell ⟨gr,0,none⟩ (.string nm)).setCell ⟨gr,1,none⟩ (vC)).setCell ⟨gr,2,none⟩ (.string acc)).setCell ⟨gr,3,none⟩ (.string par)).setCell ⟨gr,4,none⟩ (vT)):=by
  have b0:=blk_put (cs':=#[.string nm,.slice none 0 0,.string ⟨#[]⟩,.string ⟨#[]⟩,.slice none 0 0]) hg 0 (.string nm) rfl;have c0:=Kd.R_set hC hg n48r 0 (.string nm);have d0:=Kd.R_set hT hg n50r 0 (.string nm);have b1:=blk_put (cs':=#[.string nm,vC,.string ⟨#[]⟩,.string ⟨#[]⟩,.slice none 0 0]) b0 1 (vC) rfl;have c1:=Kd.R_set c0 b0 n48r 1 (vC);have d1:=Kd.R_set d0 b0 n50r 1 (vC);have b2:=blk_put (cs':=#[.string nm,vC,.string acc,.string ⟨#[]⟩,.slice none 0 0]) b1 2 (.string acc) rfl;have c2:=Kd.R_set c1 b1 n48r 2 (.string acc);have d2:=Kd.R_set d1 b1 n50r 2 (.string acc);have b3:=blk_put (cs':=#[.string nm,vC,.string acc,.string par,.slice none 0 0]) b2 3 (.string par) rfl;have c3:=Kd.R_set c2 b2 n48r 3 (.string par);have d3:=Kd.R_set d2 b2 n50r 3 (.string par);have b4:=blk_put (cs':=#[.string nm,vC,.string acc,.string par,vT]) b3 4 (vT) rfl;have c4:=Kd.R_set c3 b3 n48r 4 (vT);have d4:=Kd.R_set d3 b3 n50r 4 (vT);exact sretP Post T _ gr _ 0 0 t2 t3 t4 b4 rfl (hp _ c4 d4 (below_setN (below_setN (below_setN (below_setN (below_setN hB hge _) hge _) hge _) hge _) hge _))
def lw48_example.f :Option (ByteArray×(List (S48))×ByteArray×ByteArray×(List (S50))):=some ((⟨#[114,101,110,116]⟩:ByteArray),(([(⟨1,3,(⟨#[]⟩:ByteArray),(-100)⟩:S48),(⟨3,4,(⟨#[114,101,110,116]⟩:ByteArray),0⟩:S48)]:List (S48))),(⟨#[53,49]⟩:ByteArray),(⟨#[112]⟩:ByteArray),(([(⟨(⟨#[100,101,112,116]⟩:ByteArray),(⟨#[120]⟩:ByteArray)⟩:S50)]:List (S50))))
theorem add_at (g n:Nat):(⟨g,0,none⟩:Addr).add n=⟨g,n,none⟩:=by unfold Addr.add;split <;> simp_all
def livesX:ByteArray:=⟨([114,117,108,101,32,114,101,110,116,32,105,102,32,97,109,111,117,110,116,32,109,111,115,116,32,45,49,48,48,32,97,110,100,32,116,101,120,116,32].append [104,97,115,32,34,114,101,110,116,34,32,116,104,101,110,32,53,49,32,112,97,114,116,121,32,112,32,116,97,103,32,100,101,112,116,32,61,32,120]).toArray⟩
theorem livesX_L:livesX.toList=[114,117,108,101,32,114,101,110,116,32,105,102,32,97,109,111,117,110,116,32,109,111,115,116,32,45,49,48,48,32,97,110,100,32,116,101,120,116,32,104,97,115,32,34,114,101,110,116,34,32,116,104,101,110,32,53,49,32,112,97,114,116,121,32,112,32,116,97,103,32,100,101,112,116,32,61,32,120]:=by decide +kernel
def livesY:ByteArray:=⟨#[114,117,108,101,32,114,101,110,116,32,105,102,32,97,109,111,117,110,116,32,104,97,115,32,53,32,116,104,101,110,32,53,49]⟩
def livesC:List S48:=[⟨1,3,⟨#[]⟩,-100⟩,⟨3,4,⟨#[114,101,110,116]⟩,0⟩]
def livesG:List S50:=[⟨⟨#[100,101,112,116]⟩,⟨#[120]⟩⟩]
def lw48_lives.f:Option Bool:=some true
end Go.Proofs.YtkbgkekegjfkfaaGreatDoor.A
namespace Go.Proofs.YtkbgkekegjfkfaaGreatDoor.A
open Go.RowKit B WW WL WM
theorem zq93 {P:Prop} (h:P:=by (with_reducible repeat (first | refine blk_drewN ?_ _ | refine blk_drew ?_ | refine blk_alloc ?_ _));exact BK101.out):P:=h
theorem zq111 {P:Prop} (h:P:=by (with_reducible repeat (first | refine blk_drewN ?_ _ | refine blk_drew ?_ | refine blk_alloc ?_ _));exact BK357.out):P:=h
theorem zq114 {P:Prop} (h:P:=by (with_reducible repeat (first | refine blk_drewN ?_ _ | refine blk_drew ?_ | refine blk_alloc ?_ _));refine blk_far ?_ NB357_375.out _;(with_reducible repeat (first | refine blk_drewN ?_ _ | refine blk_drew ?_ | refine blk_alloc ?_ _));refine blk_far ?_ NB357_375.out _;(with_reducible repeat (first | refine blk_drewN ?_ _ | refine blk_drew ?_ | refine blk_alloc ?_ _));refine blk_far ?_ NB357_375.out _;(with_reducible repeat (first | refine blk_drewN ?_ _ | refine blk_drew ?_ | refine blk_alloc ?_ _));refine blk_far ?_ NB357_375.out _;(with_reducible repeat (first | refine blk_drewN ?_ _ | refine blk_drew ?_ | refine blk_alloc ?_ _));refine blk_far ?_ NB357_375.out _;(with_reducible repeat (first | refine blk_drewN ?_ _ | refine blk_drew ?_ | refine blk_alloc ?_ _));exact BK357.out):P:=h
theorem ba_ext {s t:ByteArray} (h:s.data.toList=t.data.toList):s=t:=by
  cases s;cases t;simp only [ByteArray.mk.injEq];exact Array.toList_inj.mp h
theorem ba_of {s:ByteArray} {l:List UInt8} (h:s.data.toList=l):s=⟨l.toArray⟩:=ba_ext (by rw [h])
theorem ba_append (s t:ByteArray):(s++t).data.toList=s.data.toList++t.data.toList:=by simp
theorem ref01_Text_end (n m:Int) (s:ByteArray) (hs:s.size≤100):Ev (fun k=>rf01_Text.j1 k n s m false) ⟨(tail01 n s.data.toList).toArray⟩:=by
  refine Ev.step (fun k=>by rw [rf01_Text.j1]) ?_;refine Ev.no (by decide) (Ev.both (fun h=>Ev.yes (by omega) (Ev.is ?_)) (fun h=>Ev.is ?_))
  · exact ba_of (by rw [ba_append,tail01,if_pos h];rfl)
  · exact ba_of (by rw [tail01,if_neg h])
theorem ref01_Text_next (n m:Int) (s:ByteArray) (hs:s.size≤100) (hm:I64 m) {r:ByteArray} {s':ByteArray} (hs':s'.data.toList=UInt8.ofNat (48+m.natAbs % 10) :: s.data.toList)
    (h:Ev (fun k=>rf01_Text.l0 k n s' (Int.tdiv m 10)) r):Ev (fun k=>rf01_Text.j1 k n s m true) r:=by
  have hd:=digit_piece (m.natAbs % 10) (by omega);have hI:I64 (Int.tdiv m 10):=tdiv_i64 hm;have hw:wrap64 (Int.tdiv m 10)=Int.tdiv m 10:=wrap64_in hI
  have hmod:Int.tmod m 10=if m < 0 then -((m.natAbs % 10:Nat):Int) else ((m.natAbs % 10:Nat):Int):=by
    split
    · rename_i h0
      rw [← Int.neg_neg m,Int.neg_tmod,Int.tmod_eq_emod_of_nonneg (by omega)];omega
    · rw [Int.tmod_eq_emod_of_nonneg (by omega)];omega
  refine Ev.step (fun k=>by rw [rf01_Text.j1]) ?_;refine Ev.yes rfl ?_;rw [hmod,hw];obtain ⟨d,hdd⟩:∃ d,d=m.natAbs % 10:=⟨_,rfl⟩
  have hd10:d < 10:=by omega
  rw [← hdd] at hd hs' ⊢;have w2:wrap64 ((d:Int)+1)=((d+1:Nat):Int):=by rw [wrap64_in (by unfold I64;omega)];omega
  have hz:((⟨#[48,49,50,51,52,53,54,55,56,57]⟩:ByteArray).extract d (d+1)).size=1:=by rw [size_eq',hd];rfl
  have es:(⟨#[48,49,50,51,52,53,54,55,56,57]⟩:ByteArray).extract d (d+1)++s=s':=ba_ext (by rw [ba_append,hd,hs'];rfl);by_cases hneg:(if m < 0 then -(d:Int) else (d:Int)) < 0
  · have hval:(if m < 0 then -(d:Int) else (d:Int))=-(d:Int):=by split at hneg <;> rename_i h0 <;> simp only [h0,if_true,if_false] <;> omega
    rw [hval] at hneg ⊢;have w1:wrap64 (-(-(d:Int)))=(d:Int):=by rw [wrap64_in (by unfold I64;omega)];omega
    rw [w1,w2];refine Ev.yes hneg (Ev.yes (by omega) (Ev.yes (by omega) (Ev.yes (by omega) ?_)));rw [Int.toNat_natCast,Int.toNat_natCast,es,hz];exact Ev.yes (by omega) h
  · have hval:(if m < 0 then -(d:Int) else (d:Int))=(d:Int):=by split at hneg <;> rename_i h0 <;> simp only [h0,if_true,if_false] <;> omega
    rw [hval] at hneg ⊢;rw [w2];refine Ev.no hneg (Ev.yes (by omega) (Ev.yes (by omega) (Ev.yes (by omega) ?_)));rw [Int.toNat_natCast,Int.toNat_natCast,es,hz];exact Ev.yes (by omega) h
theorem ref01_Text_loop (n:Int):∀ (u:Nat) (m:Int) (s:ByteArray),m.natAbs=u→I64 m→s.size+Lib.nDigits u≤99→(u≠0∨s.data.toList=[]) →
    Ev (fun k=>rf01_Text.l0 k n s m) ⟨(tail01 n (Lib.decDigits u++s.data.toList)).toArray⟩:=by
  intro u;induction u using Nat.strongRecOn with
  | _ u ih =>
  intro m s hu hm hsz hne;have hpos:=Lib.nDigits_pos u
  have hgo:Ev (fun k=>rf01_Text.j1 k n s m true) ⟨(tail01 n (Lib.decDigits u++s.data.toList)).toArray⟩:=by
    obtain ⟨s',hs'⟩:∃ s':ByteArray,s'.data.toList=UInt8.ofNat (48+m.natAbs % 10) :: s.data.toList:=⟨⟨(UInt8.ofNat (48+m.natAbs % 10) :: s.data.toList).toArray⟩,by simp⟩
    have hsz':s'.size=s.size+1:=by rw [size_eq',hs',List.length_cons,← size_eq']
    refine ref01_Text_next n m s (by omega) hm hs' ?_;by_cases hsmall:u < 10
    ·
      have hz:Int.tdiv m 10=0:=by have:=tdiv_natAbs m;omega
      rw [hz];refine Ev.step (fun k=>by rw [rf01_Text.l0]) ?_;refine Ev.yes rfl ?_;rw [ByteArray.toList_eq,hs',show ((UInt8.ofNat (48+m.natAbs % 10) :: s.data.toList) == ([]:List UInt8))=false from rfl];have:=ref01_Text_end n 0 s' (by omega);rw [hs'] at this;rw [Lib.decDigits_one hsmall,hu,Nat.mod_eq_of_lt hsmall] at *;exact this
    · have hb:=Lib.nDigits_big hsmall
      have:=ih (u / 10) (by omega) (Int.tdiv m 10) s' (by rw [tdiv_natAbs,hu]) (tdiv_i64 hm) (by omega) (.inl (by omega));rw [hs',hu] at this;rw [Lib.decDigits,dif_neg hsmall,List.append_assoc];exact this
  refine Ev.step (fun k=>by rw [rf01_Text.l0]) ?_;refine Ev.both (fun h=>?_) (fun h=>hgo)
  have:s.data.toList=[]:=by
    rcases hne with h1 | h1
    · omega
    · exact h1
  have e:(s.toList == ([]:List UInt8))=true:=by rw [ByteArray.toList_eq,this];rfl
  rw [e];exact hgo
theorem ref01_Text (n:Int) (h:I64 n):Ev (fun k=>rf01_Text.f k n) ⟨(Lib.itoa n).toArray⟩:=by
  have hn:Lib.nDigits n.natAbs≤19:=nDigits_le 18 n.natAbs (by unfold I64 at h;omega);have:=ref01_Text_loop n n.natAbs n (⟨#[]⟩:ByteArray) rfl h (by show 0+_≤99;omega) (.inr rfl);unfold rf01_Text.f
  have e:tail01 n (Lib.decDigits n.natAbs++(⟨#[]⟩:ByteArray).data.toList)=Lib.itoa n:=by
    unfold tail01;by_cases h0:n < 0
    · rw [if_pos h0,itoa_neg' h0];simp
    · rw [if_neg h0,itoa_pos h0];simp
  rw [e] at this;exact this
theorem first_year (j:Nat):first (12 * (j+1))=first (12 * j)+365+(if leapN (1900+j)=true then 1 else 0):=by
  have e (m:Nat) (h:m < 12):first (12 * j+(m+1))=first (12 * j+m)+lenYM j m:=by
    rw [← lenK_at j m h];rfl
  have l0:lenYM j 0=31:=rfl;have l1:lenYM j 1=28+(if leapN (1900+j)=true then 1 else 0):=by unfold lenYM;rw [if_pos rfl];split <;> rfl
  have l2:lenYM j 2=31:=rfl;have l3:lenYM j 3=30:=rfl;have l4:lenYM j 4=31:=rfl;have l5:lenYM j 5=30:=rfl;have l6:lenYM j 6=31:=rfl;have l7:lenYM j 7=31:=rfl;have l8:lenYM j 8=30:=rfl;have l9:lenYM j 9=31:=rfl;have l10:lenYM j 10=30:=rfl;have l11:lenYM j 11=31:=rfl;have z:first (12 * j+0)=first (12 * j):=rfl
  have e0:first (12 * j+1)=first (12 * j+0)+lenYM j 0:=e 0 (by omega)
  have e1:first (12 * j+2)=first (12 * j+1)+lenYM j 1:=e 1 (by omega)
  have e2:first (12 * j+3)=first (12 * j+2)+lenYM j 2:=e 2 (by omega)
  have e3:first (12 * j+4)=first (12 * j+3)+lenYM j 3:=e 3 (by omega)
  have e4:first (12 * j+5)=first (12 * j+4)+lenYM j 4:=e 4 (by omega)
  have e5:first (12 * j+6)=first (12 * j+5)+lenYM j 5:=e 5 (by omega)
  have e6:first (12 * j+7)=first (12 * j+6)+lenYM j 6:=e 6 (by omega)
  have e7:first (12 * j+8)=first (12 * j+7)+lenYM j 7:=e 7 (by omega)
  have e8:first (12 * j+9)=first (12 * j+8)+lenYM j 8:=e 8 (by omega)
  have e9:first (12 * j+10)=first (12 * j+9)+lenYM j 9:=e 9 (by omega)
  have e10:first (12 * j+11)=first (12 * j+10)+lenYM j 10:=e 10 (by omega)
  have e11:first (12 * j+12)=first (12 * j+11)+lenYM j 11:=e 11 (by omega)
  rw [show 12 * (j+1)=12 * j+12 by omega];omega
theorem befN_succ (j:Nat):befN (j+1)=befN j+365+(if leapN (1900+j)=true then 1 else 0):=by
  unfold befN leapN;by_cases a:(1900+j) % 4=0
  · by_cases b:(1900+j) % 100=0
    · by_cases c:(1900+j) % 400=0
      · rw [if_pos (by simp [a,b,c])];omega
      · rw [if_neg (by simp [a,b,c])];omega
    · have c:¬ (1900+j) % 400=0:=by omega
      rw [if_pos (by simp [a,b,c])];omega
  · have b:¬ (1900+j) % 100=0:=by omega
    have c:¬ (1900+j) % 400=0:=by omega
    rw [if_neg (by simp [a,b,c])];omega
theorem befN_first (j:Nat):befN j=first (12 * j):=by
  induction j with
  | zero=>rfl
  | succ j ih=>rw [befN_succ,first_year,ih]
theorem first_lt {K L:Nat} (h:K < L):first K+28≤first L:=by
  induction L with
  | zero=>omega
  | succ L ih =>
    have:=(lenK_in L).1;show first K+28≤first L+lenK L
    by_cases e:K=L
    · subst e;omega
    · have:=ih (by omega);omega
theorem first_le {K L:Nat} (h:K≤L):first K≤first L:=by
  by_cases e:K=L
  · rw [e];exact Int.le_refl _
  · have:=first_lt (show K < L by omega);omega
theorem first_end:first 3600=109573:=by
  have:=befN_first 300;rw [show 12 * 300=3600 from rfl] at this;rw [← this];rfl
theorem first_nonneg (K:Nat):0≤first K:=first_le (Nat.zero_le K)
theorem first_at {K:Nat} (h:K≤3600):first K≤109573:=by rw [← first_end];exact first_le h
theorem days_Leap_eq (y:Nat):days_Leap.f (y:Int)=some (leapN y):=by
  unfold days_Leap.f leapN;rw [show Int.tmod (y:Int) 4=((y % 4:Nat):Int) from rfl,show Int.tmod (y:Int) 100=((y % 100:Nat):Int) from rfl,show Int.tmod (y:Int) 400=((y % 400:Nat):Int) from rfl]
  have e:(((y % 400:Nat):Int) == 0)=decide (y % 400=0):=by
    by_cases c:y % 400=0
    · rw [c];rfl
    · rw [decide_eq_false c,beq_eq_false_iff_ne];omega
  rw [e];by_cases a:y % 4=0
  · rw [if_pos (by omega),decide_eq_true a,Bool.true_and]
    by_cases b:y % 100=0
    · have c:=e
      rw [if_pos (by omega),decide_eq_false (show ¬ y % 100≠0 by omega),Bool.false_or]
    · have c:¬ y % 400=0:=by omega
      rw [if_neg (by omega),decide_eq_true (show y % 100≠0 by omega),Bool.true_or]
  · rw [if_neg (by omega),decide_eq_false a,Bool.false_and,Bool.false_or]
theorem ref04_Leap_eq (y:Nat):rf04_Leap.f (y:Int)=some (leapN y):=days_Leap_eq y
theorem days_Length_eq (j m:Nat) (h:m < 12):days_Length.f ((1900+j:Nat):Int) (((m+1:Nat)):Int)=some (lenYM j m):=by
  unfold days_Length.f lenYM;rw [if_neg (by omega)];by_cases c:m=1
  · subst c
    rw [if_pos (by rfl),if_pos rfl,days_Leap_eq];rfl
  · rw [if_neg (by omega),if_neg c,show ((((m+1:Nat):Int) - 1).toNat)=m by omega,monLen_eq m h]
theorem ref04_Length_ev (j m:Nat) (h:m < 12):Ev (fun k=>rf04_Length.f k ((1900+j:Nat):Int) (((m+1:Nat)):Int)) (lenYM j m):=by
  unfold rf04_Length.f;refine Ev.no (by omega) ?_;rw [decide_eq_false (by omega)];refine Ev.step (fun k=>by rw [rf04_Length.j0]) (Ev.no (by decide) ?_);have e:wrap64 (((m+1:Nat):Int) - 1)=(m:Int):=by unfold wrap64;omega
  refine Ev.both (fun c=>?_) (fun c=>?_)
  · have c':m=1:=by omega
    subst c';unfold lenYM;rw [if_pos rfl];rw [ref04_Leap_eq];show Ev (fun k=>if leapN (1900+j)=true then some 29 else _) _
    refine Ev.both (fun b=>?_) (fun b=>?_)
    · rw [if_pos b];exact Ev.is rfl
    · rw [if_neg b,e]
      show Ev (fun _=>if (0:Int)≤((1:Nat):Int) then (if ((1:Nat):Int) < 12 then some (rd [31,28,31,30,31,30,31,31,30,31,30,31] ((1:Nat):Int)) else none) else none) _
      exact Ev.yes (by omega) (Ev.yes (by omega) (Ev.is rfl))
  · have hv:lenYM j m=monN m:=by unfold lenYM;rw [if_neg (by omega)]
    rw [e,hv];show Ev (fun _=>if (0:Int)≤(m:Int) then (if (m:Int) < 12 then some (rd [31,28,31,30,31,30,31,31,30,31,30,31] (m:Int)) else none) else none) _
    refine Ev.yes (by omega) (Ev.yes (by omega) (Ev.is ?_));unfold rd monN;rw [Int.toNat_natCast]
theorem days_before_eq (j:Nat) (h:j≤300):days_before.f ((1900+j:Nat):Int)=some (befN j):=by
  unfold days_before.f befN;have w (n:Int) (a:-1000000 < n) (b:n < 1000000):wrap64 n=n:=by unfold wrap64;omega
  rw [show wrap64 (((1900+j:Nat):Int) - 1900)=(j:Int) by rw [w _ (by omega) (by omega)];omega,show wrap64 (((1900+j:Nat):Int) - 1)=((1899+j:Nat):Int) by rw [w _ (by omega) (by omega)];omega];rw [show Int.tdiv ((1899+j:Nat):Int) 4=(((1899+j) / 4:Nat):Int) from rfl,show Int.tdiv ((1899+j:Nat):Int) 100=(((1899+j) / 100:Nat):Int) from rfl,show Int.tdiv ((1899+j:Nat):Int) 400=(((1899+j) / 400:Nat):Int) from rfl];have x4:(1899+j) / 4≤600:=by omega
  have x1:(1899+j) / 100≤600:=by omega
  have x2:(1899+j) / 400≤600:=by omega
  generalize (1899+j) / 4=a at *;generalize (1899+j) / 100=b at *;generalize (1899+j) / 400=c at *;rw [w (a:Int) (by omega) (by omega),w (b:Int) (by omega) (by omega),w (c:Int) (by omega) (by omega),w (365 * (j:Int)) (by omega) (by omega)];rw [w ((a:Int) - b) (by omega) (by omega),w ((a:Int) - b+c) (by omega) (by omega),w ((a:Int) - b+c - 474) (by omega) (by omega),w ((a:Int) - b+c - 474+18) (by omega) (by omega),w ((a:Int) - b+c - 474+18 - 4) (by omega) (by omega),w _ (by omega) (by omega)];congr 1
  omega
theorem first_small (j:Nat):first (12 * j)≤366 * (j:Int):=by
  induction j with
  | zero=>exact Int.le_refl _
  | succ j ih=>rw [first_year];split <;> omega
theorem ref04_Date_loop (K:Nat) (n:Int) (hK:K < 3600) (hn:n≤109572) (ha:first K≤n) (hb:n < first (K+1)):∀ d L:Nat,L+d=K→Ev (fun k=>rf04_Date.l0 k (L:Int) (n - first L)) (((1900+K / 12:Nat):Int),((K % 12+1:Nat):Int),n - first K+1,0)
  | d,L,e=>by
    have hL:=first_le (show L≤K by omega);have h0:=first_nonneg L;have ev:=ref04_Length_ev (L / 12) (L % 12) (Nat.mod_lt _ (by omega))
    have e1:wrap64 (1900+wrap64 (Int.tdiv (L:Int) 12))=((1900+L / 12:Nat):Int):=by
      rw [show Int.tdiv (L:Int) 12=((L / 12:Nat):Int) from rfl];unfold wrap64;omega
    have e2:wrap64 (Int.tmod (L:Int) 12+1)=((L % 12+1:Nat):Int):=by
      rw [show Int.tmod (L:Int) 12=((L % 12:Nat):Int) from rfl];unfold wrap64;omega
    have hl:28≤lenYM (L / 12) (L % 12)∧lenYM (L / 12) (L % 12)≤31:=lenK_in L;refine Ev.step (fun k=>by rw [rf04_Date.l0,e1,e2]) ?_;refine Ev.bind ev ?_
    cases d with
    | zero =>
      have e':L=K:=by omega
      subst e';refine Ev.no ?_ (Ev.is ?_)
      · have:first (L+1)=first L+lenYM (L / 12) (L % 12):=rfl
        omega
      · rw [show wrap64 (n - first L+1)=n - first L+1 by unfold wrap64;omega]
    | succ d =>
      have hs:first (L+1)=first L+lenYM (L / 12) (L % 12):=rfl
      have:=first_le (show L+1≤K by omega);refine Ev.yes (by omega) (Ev.bind ev ?_);rw [show wrap64 ((L:Int)+1)=((L+1:Nat):Int) by unfold wrap64;omega,show wrap64 (n - first L - lenYM (L / 12) (L % 12))=n - first (L+1) by rw [hs];unfold wrap64;omega];exact ref04_Date_loop K n hK hn ha hb d (L+1) (by omega)
theorem days_Date_months (K:Nat) (n:Int) (z:Int) (hK:K < 3600) (hn:n≤109572) (ha:first K≤n) (hb:n < first (K+1)):∀ d m:Nat,m+d=K % 12→Ev (fun k=>days_Date.l1 k (n - first (12 * (K / 12)+m)) ((1900+K / 12:Nat):Int) ((m+1:Nat):Int) z) (dateR K n)
  | d,m,e=>by
    have hm:m < 12:=by omega
    have hL:=first_le (show 12 * (K / 12)+m≤K by omega);have h0:=first_nonneg (12 * (K / 12)+m);have hl:=lenYM_in (K / 12) m hm;have hs:first (12 * (K / 12)+m+1)=first (12 * (K / 12)+m)+lenYM (K / 12) m:=by rw [← lenK_at (K / 12) m hm];rfl
    refine Ev.step (fun k=>by rw [days_Date.l1,days_Length_eq _ _ hm,Option.bind_some,Option.bind_some]) ?_
    cases d with
    | zero =>
      have e':12 * (K / 12)+m=K:=by omega
      rw [e'] at hs ⊢;refine Ev.no (by omega) (Ev.is ?_);unfold dateR;rw [show wrap64 (n - first K+1)=n - first K+1 by unfold wrap64;omega,show m=K % 12 by omega]
    | succ d =>
      have:=first_le (show 12 * (K / 12)+m+1≤K by omega);refine Ev.yes (by omega) ?_;rw [show wrap64 (((m+1:Nat):Int)+1)=((m+1+1:Nat):Int) by unfold wrap64;omega,show wrap64 (n - first (12 * (K / 12)+m) - lenYM (K / 12) m)=n - first (12 * (K / 12)+(m+1)) by rw [show 12 * (K / 12)+(m+1)=12 * (K / 12)+m+1 by omega,hs];unfold wrap64;omega];exact days_Date_months K n z hK hn ha hb d (m+1) (by omega)
theorem days_Of_loop (j M:Nat) (x z:Int) (hj:j < 300) (hM:M < 12) (hx:0≤x) (hx':x≤31):∀ d m:Nat,m+d=M→Ev (fun k=>days_Of.l0 k (first (12 * j+m)+x) ((m+1:Nat):Int) ((1900+j:Nat):Int) ((M+1:Nat):Int) z) (first (12 * j+M)+x,0)
  | d,m,e=>by
    have hm:m < 12:=by omega
    have h0:=first_nonneg (12 * j+m);have hl:=lenYM_in j m hm;have hs:first (12 * j+m+1)=first (12 * j+m)+lenYM j m:=by rw [← lenK_at j m hm];rfl
    have h1:=first_at (show 12 * j+m≤3600 by omega)
    cases d with
    | zero =>
      have e':m=M:=by omega
      subst e';exact Ev.step (fun k=>by rw [days_Of.l0]) (Ev.no (by omega) (Ev.is rfl))
    | succ d =>
      refine Ev.step (fun k=>by rw [days_Of.l0,days_Length_eq _ _ hm,Option.bind_some]) (Ev.yes (by omega) ?_);rw [show wrap64 (((m+1:Nat):Int)+1)=((m+1+1:Nat):Int) by unfold wrap64;omega,show wrap64 (first (12 * j+m)+x+lenYM j m)=first (12 * j+(m+1))+x by rw [show 12 * j+(m+1)=12 * j+m+1 by omega,hs];unfold wrap64;omega];exact days_Of_loop j M x z hj hM hx hx' d (m+1) (by omega)
theorem days_Of_ev (K:Nat) (q:Int) (hK:K < 3600) (h1:1≤q) (h2:q≤lenK K):Ev (fun k=>days_Of.f k ((1900+K / 12:Nat):Int) ((K % 12+1:Nat):Int) q) (first K+(q - 1),0):=by
  have hm:K % 12 < 12:=Nat.mod_lt _ (by omega);have hl:=lenK_in K;unfold days_Of.f;refine Ev.no (by omega) (Ev.no (by omega) (Ev.no (by omega) ?_));rw [days_Length_eq _ _ hm];have hd:decide (q > lenYM (K / 12) (K % 12))=false:=decide_eq_false (by have:lenK K=lenYM (K / 12) (K % 12):=rfl;omega);show Ev (fun k=>days_Of.j0 k (decide (q > lenYM (K / 12) (K % 12))) _ _ _) _
  rw [hd];refine Ev.step (fun k=>by rw [days_Of.j0]) (Ev.no (by decide) ?_);rw [days_before_eq _ (by omega),befN_first];have h0:=first_nonneg (12 * (K / 12));have h3:=first_at (show 12 * (K / 12)≤3600 by omega);show Ev (fun k=>days_Of.l0 k (wrap64 (wrap64 (first (12 * (K / 12))+q) - 1)) 1 _ _ _) _
  rw [show wrap64 (wrap64 (first (12 * (K / 12))+q) - 1)=first (12 * (K / 12)+0)+(q - 1) by show _=first (12 * (K / 12))+(q - 1);unfold wrap64;omega];have h:=days_Of_loop (K / 12) (K % 12) (q - 1) q (by omega) hm (by omega) (by omega) (K % 12) 0 (by omega);rw [show 12 * (K / 12)+K % 12=K by omega] at h;exact h
end Go.Proofs.YtkbgkekegjfkfaaGreatDoor.A
namespace Go.Proofs.YtkbgkekegjfkfaaGreatDoor.A
open Go.RowKit B WW WL WM
theorem oL_extract (l:List UInt8) (a b:Nat):(oL l).extract a b=oL ((l.take b).drop a):=by
  apply ba_ext;simp [oL,ByteArray.data_extract,List.drop_take]
theorem oL_append (l m:List UInt8):oL l++oL m=oL (l++m):=by
  apply ba_ext;rw [ByteArray.data_append,Array.toList_append];rfl
def quoS (a:Nat):List UInt8→Nat→List UInt8→List UInt8×Nat×Nat×Nat
  | [],_,_=>([],0,a,6)
  | c :: r,i,acc=>if c.toNat=34 then (acc,i+1,0,0) else if c.toNat=92 then (match r with
      | []=>([],0,i,5)
      | d :: r'=>if d.toNat=34∨d.toNat=92 then quoS a r' (i+2) (acc++[d]) else ([],0,i,5))
    else if isPrint c=true then quoS a r (i+1) (acc++[c]) else ([],0,i,5)
def wordS:List UInt8→Nat→Nat×List UInt8×Nat×Nat×Nat
  | [],i=>(0,[],i,i,5)
  | c :: r,i=>if isLet c=true then gS 1 (c :: r) i (nameN (c :: r)) 12 else
    if isDig c=true∨(c.toNat=45∧headDig r=true) then gS 2 (c :: r) i (numN r+1) 60 else
    if c.toNat=34 then qS i (quoS i r (i+1) []) else wordH (c :: r) i
theorem wordS_cons (c:UInt8) (r:List UInt8) (i:Nat):wordS (c :: r) i=if isLet c=true then gS 1 (c :: r) i (nameN (c :: r)) 12 else
    if isDig c=true∨(c.toNat=45∧headDig r=true) then gS 2 (c :: r) i (numN r+1) 60 else
    if c.toNat=34 then qS i (quoS i r (i+1) []) else wordH (c :: r) i:=rfl
theorem printable_eq (c:UInt8):words_printable.f (c.toNat:Int)=some (isPrint c):=by
  have h:∀ n:Nat,n < 256→words_printable.f (n:Int)=some (decide (32≤n) && decide (n≤126)):=by decide +kernel
  exact h c.toNat c.toNat_lt
theorem strOf_toI (l:List UInt8):strOfNums (toI l)=oL l:=by
  unfold toI oL;simp only [strOfNums,List.map_map]
  congr 2
  conv=>rhs;rw [← List.map_id l]
  refine List.map_congr_left fun b _=>?_
  simp
theorem quoted_l0 (L:List UInt8) (hL:L.length≤1000000) (a:Nat) (n:Nat):∀ (R:List UInt8) (i:Nat) (acc:List UInt8),R.length≤n→L.drop i=R→i≤L.length→acc.length≤i →
    Ev (fun k=>words_quoted.l0 k (oL L) (a:Int) (toI acc) (i:Int) 0 0) (quoR (quoS a R i acc)):=by
  induction n with
  | zero =>
    intro R i acc hn h hi hacc;have hR:R=[]:=List.eq_nil_of_length_eq_zero (by omega);subst hR;have:=drop_end h;refine Ev.step (fun k=>by rw [words_quoted.l0]) ?_;exact Ev.no (by rw [oL_size];omega) (Ev.is rfl)
  | succ n ih =>
    intro R i acc hn h hi hacc
    cases R with
    | nil =>
      have:=drop_end h;refine Ev.step (fun k=>by rw [words_quoted.l0]) ?_;exact Ev.no (by rw [oL_size];omega) (Ev.is rfl)
    | cons c r =>
      obtain ⟨h1,h2,h3⟩:=drop_at h;rw [List.length_cons] at hn;refine Ev.step (fun k=>by rw [words_quoted.l0]) (Ev.yes (by rw [oL_size];omega) (Ev.yes (by omega) ?_));rw [w_next i (by omega),bt_oL L i,h2,printable_eq];simp only [Option.bind_some]
      refine Ev.both (fun q=>Ev.is ?_) (fun q=>Ev.both (fun b=>?_) (fun b=>Ev.both (fun p=>?_) (fun p=>Ev.is ?_)))
      · rw [quoS.eq_def];dsimp only;rw [if_pos (by omega),strOf_toI];rfl
      · rw [show wrap64 (((i+1:Nat):Int) - 1)=(i:Int) by unfold wrap64;omega]
        cases r with
        | nil =>
          have:=drop_end h3;refine Ev.yes (by rw [oL_size];omega) (Ev.is ?_);rw [quoS.eq_def];dsimp only;rw [if_neg (by omega),if_pos (by omega)];rfl
        | cons d r =>
          obtain ⟨g1,g2,g3⟩:=drop_at h3;rw [List.length_cons] at hn;refine Ev.no (by rw [oL_size];omega) (Ev.yes (by omega) (Ev.yes (by rw [oL_size];omega) ?_));rw [bt_oL L (i+1),g2,w_next (i+1) (by omega),toI_snoc,toI_len];have key:=ih r (i+1+1) (acc++[d]) (by omega) g3 (by omega) (by rw [List.length_append,List.length_singleton];omega)
          have e:d.toNat=34∨d.toNat=92→quoS a (c :: d :: r) i acc=quoS a r (i+1+1) (acc++[d]):=fun a=>by
            rw [quoS.eq_def];dsimp only;rw [if_neg (by omega),if_pos (by omega),if_pos a]
          refine Ev.both (fun x=>Ev.yes (by omega) ?_) (fun x=>Ev.both (fun y=>Ev.yes (by omega) ?_) (fun y=>Ev.is ?_))
          · rw [e (by omega)];exact key
          · rw [e (by omega)];exact key
          · rw [quoS.eq_def];dsimp only;rw [if_neg (by omega),if_pos (by omega),if_neg (by omega)];rfl
      · rw [toI_snoc,toI_len]
        refine Ev.yes (by omega) ?_;have key:=ih r (i+1) (acc++[c]) (by omega) h3 (by omega) (by rw [List.length_append,List.length_singleton];omega);rw [show quoS a (c :: r) i acc=quoS a r (i+1) (acc++[c]) by rw [quoS.eq_def];dsimp only;rw [if_neg (by omega),if_neg (by omega),if_pos p]];exact key
      · rw [quoS.eq_def];dsimp only;rw [if_neg (by omega),if_neg (by omega),if_neg p];rfl
theorem quoS_end (a n:Nat):∀ (R:List UInt8) (i:Nat) (acc:List UInt8),R.length≤n→(quoS a R i acc).2.2.2=0→i < (quoS a R i acc).2.1∧(quoS a R i acc).2.1≤i+R.length:=by
  induction n with
  | zero =>
    intro R i acc hn h;have hR:R=[]:=List.eq_nil_of_length_eq_zero (by omega);subst hR;exact absurd h (by show ¬ (6=0);omega)
  | succ n ih =>
    intro R i acc hn
    cases R with
    | nil=>intro h;exact absurd h (by show ¬ (6=0);omega)
    | cons c r =>
      rw [List.length_cons] at hn ⊢;rw [quoS.eq_def];dsimp only;split
      · intro _;dsimp only;omega
      split
      · cases r with
        | nil=>intro h;exact absurd h (by show ¬ (5=0);omega)
        | cons d r =>
          rw [List.length_cons] at hn ⊢;dsimp only
          split
          · intro h;have:=ih r (i+2) (acc++[d]) (by omega) h;omega
          · intro h;exact absurd h (by show ¬ (5=0);omega)
      split
      · intro h;have:=ih r (i+1) (acc++[c]) (by omega) h;omega
      · intro h;exact absurd h (by show ¬ (5=0);omega)
theorem signEnd_j0 (L:List UInt8) (hL:L.length≤1000000) (i:Nat) (c:UInt8) (r:List UInt8) (h:L.drop i=c :: r):Ev (fun k=>words_signEnd.j0 k (oL L) (i:Int)) ((i+oneSg c:Nat):Int):=by
  obtain ⟨h1,h2,h3⟩:=drop_at h;refine Ev.step (fun k=>by rw [words_signEnd.j0]) (Ev.yes (by omega) (Ev.yes (by rw [oL_size];omega) ?_));rw [bt_oL,h2,w_next i (by omega)]
  have y:∀ m:Nat,(c.toNat:Int)=m→m∈[40,41,123,125,91,93,44,59,58,61,43,45,42,47,60,62,124,38,33,64,37]→((i+1:Nat):Int)=((i+oneSg c:Nat):Int):=fun m e hm=>by
    rw [oneSg,show c.toNat=m by omega,if_pos hm]
  refine Ev.both (fun e=>Ev.is (y 40 e (by decide))) fun n1=>Ev.both (fun e=>Ev.is (y 41 e (by decide))) fun n2=>Ev.both (fun e=>Ev.is (y 123 e (by decide))) fun n3 =>
    Ev.both (fun e=>Ev.is (y 125 e (by decide))) fun n4=>Ev.both (fun e=>Ev.is (y 91 e (by decide))) fun n5=>Ev.both (fun e=>Ev.is (y 93 e (by decide))) fun n6 =>
    Ev.both (fun e=>Ev.is (y 44 e (by decide))) fun n7=>Ev.both (fun e=>Ev.is (y 59 e (by decide))) fun n8=>Ev.both (fun e=>Ev.is (y 58 e (by decide))) fun n9 =>
    Ev.both (fun e=>Ev.is (y 61 e (by decide))) fun n10=>Ev.both (fun e=>Ev.is (y 43 e (by decide))) fun n11=>Ev.both (fun e=>Ev.is (y 45 e (by decide))) fun n12 =>
    Ev.both (fun e=>Ev.is (y 42 e (by decide))) fun n13=>Ev.both (fun e=>Ev.is (y 47 e (by decide))) fun n14=>Ev.both (fun e=>Ev.is (y 60 e (by decide))) fun n15 =>
    Ev.both (fun e=>Ev.is (y 62 e (by decide))) fun n16=>Ev.both (fun e=>Ev.is (y 124 e (by decide))) fun n17=>Ev.both (fun e=>Ev.is (y 38 e (by decide))) fun n18 =>
    Ev.both (fun e=>Ev.is (y 33 e (by decide))) fun n19=>Ev.both (fun e=>Ev.is (y 64 e (by decide))) fun n20=>Ev.both (fun e=>Ev.is (y 37 e (by decide))) fun n21=>Ev.is ?_
  rw [oneSg,if_neg];rfl;simp only [List.mem_cons,List.not_mem_nil,or_false]
  omega
theorem take_two {L:List UInt8} {i:Nat} {c d:UInt8} {r:List UInt8} (h:L.drop i=c :: d :: r):((oL L).extract i (i+2)).toList=[c,d]:=by
  rw [oL_extract,oL_toList,List.drop_take,h,show i+2 - i=2 by omega];rfl
theorem signEnd_ev (L:List UInt8) (hL:L.length≤1000000) (i:Nat) (c:UInt8) (r:List UInt8) (h:L.drop i=c :: r):Ev (fun k=>words_signEnd.f k (oL L) (i:Int)) ((i+signN (c :: r):Nat):Int):=by
  obtain ⟨h1,h2,h3⟩:=drop_at h;have hl:=drop_len h;have key:=signEnd_j0 L hL i c r h;unfold words_signEnd.f;rw [show wrap64 ((i:Int)+2)=((i+2:Nat):Int) by unfold wrap64;omega,oL_size]
  cases r with
  | nil=>rw [List.length_singleton] at hl;exact Ev.no (by omega) key
  | cons d r =>
    rw [List.length_cons,List.length_cons] at hl;refine Ev.yes (by omega) (Ev.yes (by omega) (Ev.yes (by omega) ?_));rw [Int.toNat_natCast,Int.toNat_natCast,take_two h];have y:twoSg c d=true→((i+2:Nat):Int)=((i+signN (c :: d :: r):Nat):Int):=fun e=>by rw [signN,if_pos e]
    refine Ev.both (fun e=>Ev.is (y (by unfold twoSg;rw [decide_eq_true e];rfl))) fun n1=>Ev.both (fun e=>Ev.is (y (by unfold twoSg;rw [decide_eq_true e];simp))) fun n2 =>
      Ev.both (fun e=>Ev.is (y (by unfold twoSg;rw [decide_eq_true e];simp))) fun n3=>Ev.both (fun e=>Ev.is (y (by unfold twoSg;rw [decide_eq_true e];simp))) fun n4=>?_
    rw [signN,if_neg (by unfold twoSg;rw [decide_eq_false n1,decide_eq_false n2,decide_eq_false n3,decide_eq_false n4];decide)];exact key
theorem word_g (L:List UInt8) (i n kind most:Nat) (h:i+n≤L.length):words_word.g (oL L) (i:Int) (kind:Int) ((i+n:Nat):Int) (most:Int)=some (wordR (gS kind (L.drop i) i n most) i):=by
  unfold words_word.g wordR gS;rw [if_pos ⟨by omega,by rw [oL_size];omega⟩,Int.toNat_natCast,Int.toNat_natCast,oL_extract,List.drop_take,show i+n - i=n by omega,show ((i+n:Nat):Int) - (i:Int)=(n:Int) by omega];by_cases hm:most < n
  · rw [if_pos (by omega),if_pos (by omega),if_pos hm,if_pos hm];rfl
  · rw [if_neg (by omega),if_neg (by omega),if_neg hm,if_neg hm];rfl
theorem days_Length_any (y m:Nat) (h:1900≤y):days_Length.f (y:Int) (m:Int)=some (ymS y m):=by
  unfold ymS;by_cases c:1≤m∧m≤12
  · rw [if_pos c]
    have:=days_Length_eq (y - 1900) (m - 1) (by omega);rw [show 1900+(y - 1900)=y by omega,show m - 1+1=m by omega] at this;exact this
  · rw [if_neg c];unfold days_Length.f;rw [if_pos (by omega)]
theorem days_Of_any (y m q:Nat):Ev (fun k=>days_Of.f k (y:Int) (m:Int) (q:Int)) (ofS y m q):=by
  have bad:∀ b,b=true→Ev (fun k=>days_Of.j0 k b (y:Int) (m:Int) (q:Int)) ((0:Int),(11:Int)):=fun b hb=>Ev.step (fun k=>by rw [days_Of.j0]) (Ev.yes hb (Ev.is rfl))
  unfold ofS;by_cases c:1900≤y∧y≤2199∧1≤q∧(q:Int)≤ymS y m
  · rw [if_pos c]
    have hm:1≤m∧m≤12:=by
      obtain ⟨_,_,c3,c4⟩:=c;unfold ymS at c4;by_cases h:1≤m∧m≤12
      · exact h
      · rw [if_neg h] at c4;omega
    have e:(12 * (y - 1900)+(m - 1)) / 12=y - 1900∧(12 * (y - 1900)+(m - 1)) % 12=m - 1:=⟨by omega,by omega⟩
    have:=days_Of_ev (12 * (y - 1900)+(m - 1)) (q:Int) (by omega) (by omega) (by
      unfold lenK;rw [e.1,e.2];have:=c.2.2.2;unfold ymS at this;rw [if_pos hm] at this;exact this)
    rw [e.1,e.2,show 1900+(y - 1900)=y by omega,show m - 1+1=m by omega] at this;exact this
  · rw [if_neg c]
    unfold days_Of.f;refine Ev.both (fun _=>bad _ rfl) (fun h1=>Ev.both (fun _=>bad _ rfl) (fun h2=>Ev.both (fun _=>bad _ rfl) (fun h3=>?_)));rw [days_Length_any y m (by omega)];simp only [Option.bind_some]
    exact bad _ (decide_eq_true (by omega))
theorem dtext_oL (K:Nat) (n:Int):((((oL (digs 4 (1900+K / 12))++(⟨#[45]⟩:ByteArray))++oL (digs 2 (K % 12+1)))++(⟨#[45]⟩:ByteArray))++oL (digs 2 (n - first K+1).toNat))=oL (dtext K n):=by
  show ((((oL (digs 4 (1900+K / 12))++oL [45])++oL (digs 2 (K % 12+1)))++oL [45])++oL (digs 2 (n - first K+1).toNat))=_
  rw [oL_append,oL_append,oL_append,oL_append];unfold dtext;rw [List.append_assoc,List.append_assoc,List.append_assoc];rfl
theorem r6Quote_l0 (L:List UInt8) (hL:L.length≤1000000) (R:List UInt8):∀ (i:Nat) (acc:List UInt8),L.drop i=R→i≤L.length→acc.length≤2 * i+1 →
    Ev (fun k=>rf06_Quote.l0 k (oL L) (toI acc) (i:Int)) (oL (acc++(escL R++[34])),0):=by
  induction R with
  | nil =>
    intro i acc h hi ha;have:=drop_end h;refine Ev.step (fun k=>by rw [rf06_Quote.l0]) (Ev.no (by rw [oL_size];omega) ?_);rw [toI_len];refine Ev.yes (by omega) (Ev.is ?_);rw [show toI acc++[34]=toI (acc++[34]) from toI_snoc acc 34,strOf_toI];rfl
  | cons c r ih =>
    intro i acc h hi ha;obtain ⟨h1,h2,h3⟩:=drop_at h;refine Ev.step (fun k=>by rw [rf06_Quote.l0]) (Ev.yes (by rw [oL_size];omega) (Ev.yes (by omega) ?_));rw [bt_oL,h2,w_next i (by omega),toI_len]
    have two:(c.toNat=34∨c.toNat=92)→Ev (fun k=>if acc.length < 140737488355328 then ((some (toI acc++[92]:List Int)).bind fun y=>(if y.length < 140737488355328 then (rf06_Quote.l0 k (oL L) (y++[(c.toNat:Int)]) ((i+1:Nat):Int)) else none)) else none) (oL (acc++(escL (c :: r)++[34])),0):=fun hc=>by
      refine Ev.yes (by omega) ?_;rw [show toI acc++[92]=toI (acc++[92]) from toI_snoc acc 92];simp only [Option.bind_some]
      rw [toI_len,toI_snoc];refine Ev.yes (by rw [List.length_append,List.length_singleton];omega) ?_;have:=ih (i+1) (acc++[92]++[c]) h3 (by omega) (by rw [List.length_append,List.length_append,List.length_singleton,List.length_singleton];omega);have e:acc++[92]++[c]++(escL r++[34])=acc++(escL (c :: r)++[34]):=by rw [escL,if_pos hc];simp
      rw [e] at this;exact this
    refine Ev.both (fun q=>two (by omega)) (fun q=>Ev.both (fun q2=>two (by omega)) (fun q2=>Ev.yes (by omega) ?_));rw [toI_snoc];have:=ih (i+1) (acc++[c]) h3 (by omega) (by rw [List.length_append,List.length_singleton];omega);have e:acc++[c]++(escL r++[34])=acc++(escL (c :: r)++[34]):=by rw [escL,if_neg (by omega)];simp
    rw [e] at this;exact this
theorem ap_sp (P:List UInt8):oL P++(⟨#[32]⟩:ByteArray)=oL (P++[32]):=oL_append P [32]
theorem ap_and (P:List UInt8):oL P++(⟨#[32,97,110,100]⟩:ByteArray)=oL (P++[32,97,110,100]):=oL_append P [32,97,110,100]
theorem ap_then (P:List UInt8):oL P++(⟨#[32,116,104,101,110,32]⟩:ByteArray)=oL (P++[32,116,104,101,110,32]):=oL_append P _
theorem ap_party (P:List UInt8):oL P++(⟨#[32,112,97,114,116,121,32]⟩:ByteArray)=oL (P++[32,112,97,114,116,121,32]):=oL_append P _
theorem ap_tag (P:List UInt8):oL P++(⟨#[32,116,97,103,32]⟩:ByteArray)=oL (P++[32,116,97,103,32]):=oL_append P _
theorem ap_eq (P:List UInt8):oL P++(⟨#[32,61,32]⟩:ByteArray)=oL (P++[32,61,32]):=oL_append P _
theorem ap_ba (P:List UInt8) (x:ByteArray):oL P++x=oL (P++x.data.toList):=oL_append P x.data.toList
def IsW (w:List UInt8) (k:Nat) (t:List UInt8):Prop:=w≠[]∧(∀ c r,w=c :: r→c.toNat≠35∧c.toNat≠32)∧∀ r i,Brk r→∃ z,wordS (w++r) i=(k,t,i+w.length,z,0)
theorem IsW.eq1:IsW [61] 4 [61]:=by
  refine ⟨by simp,fun c r h=>?_,fun r i hb=>⟨0,?_⟩⟩
  · cases h;decide
  · show wordS (61 :: r) i=_
    have hs:signN (61 :: r)=1:=by
      rcases hb with rfl | ⟨q,rfl⟩
      · decide
      · show (if twoSg 61 32=true then 2 else oneSg 61)=1;decide
    rw [wordS_cons,if_neg (by decide),if_neg (by rintro (h | ⟨h,_⟩) <;> exact absurd h (by decide)),if_neg (by decide)];unfold wordH;rw [hs,if_neg (by decide)];rfl
end Go.Proofs.YtkbgkekegjfkfaaGreatDoor.A
namespace Go.Proofs.YtkbgkekegjfkfaaGreatDoor.B
open Go.RowKit
theorem gl_lt {w:World} (h:Gl w):GlLt w.heap.size:=⟨h.1.1,h.2.1.1,h.2.2.1⟩
end Go.Proofs.YtkbgkekegjfkfaaGreatDoor.B
