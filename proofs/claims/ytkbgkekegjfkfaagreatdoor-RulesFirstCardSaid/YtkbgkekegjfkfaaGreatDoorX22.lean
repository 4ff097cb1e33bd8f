-- By pack.py, a program of this session's.
import Derived.Test.YtkbgkekegjfkfaaGreatDoorX18
import Derived.Test.YtkbgkekegjfkfaaGreatDoorX19
import Derived.Test.YtkbgkekegjfkfaaGreatDoorX20
set_option linter.unusedVariables false
set_option linter.unusedSimpArgs false
namespace Go.Proofs.YtkbgkekegjfkfaaGreatDoor.A
open Go.RowKit B WW WL WM
def pre (x:S73) (q:List S73×Nat×Nat):List S73×Nat×Nat:=if q.2.2=0 then (x :: q.1,q.2.1,0) else ([],q.2.1,q.2.2)
theorem rules_Check_ev (nm:ByteArray) (cs:List S48) (acc par:ByteArray) (tg:List S50) (h1:nm.size≤1000000) (h2:acc.size≤1000000) (h3:par.size≤1000000) (hc:ShortC cs) (ht:ShortT tg) :
    Ev (fun k=>rules_Check.f k nm cs acc par tg) (checkS nm cs acc par tg):=by
  have j:∀ b:Bool,b=!(nameB nm acc par)→Ev (fun k=>rules_Check.j0 k b nm cs acc par tg) (checkS nm cs acc par tg):=fun b hb=>by
    refine Ev.step (fun k=>by rw [rules_Check.j0]) ?_;unfold checkS
    cases n:nameB nm acc par with
    | false=>rw [hb,n,if_neg (by decide)];exact Ev.yes rfl (Ev.is rfl)
    | true =>
      rw [hb,n,if_pos rfl];refine Ev.no (by decide) (Ev.bind (dims_Right_ev tg ht) (Ev.both (fun e=>?_) (fun e=>Ev.is (by rw [if_neg e]))));rw [if_pos e];refine Ev.both (fun a=>Ev.is (by rw [if_pos (by omega)])) (fun a=>Ev.both (fun b=>Ev.is (by rw [if_neg (by omega),if_pos (by omega)])) (fun b=>?_));rw [if_neg (by omega),if_neg (by omega)];exact rules_Check_l0 cs hc (by omega) cs 0 rfl
  unfold rules_Check.f;rw [words_Code_at _ h1,words_Code_at _ h2,words_Code_at _ h3];simp only [Option.bind_some]
  unfold nameB at j;refine Ev.both (fun a=>Ev.both (fun b=>Ev.both (fun c=>j _ ?_) (fun c=>j _ ?_)) (fun b=>j _ ?_)) (fun a=>j _ ?_)
  · rw [a,b,decide_eq_true c];rfl
  · rw [a,b,decide_eq_false c];simp
  · rw [a,Bool.eq_false_iff.mpr b];rfl
  · rw [Bool.eq_false_iff.mpr a];rfl
theorem r48_Check_ev (nm:ByteArray) (cs:List S48) (acc par:ByteArray) (tg:List S50) (h1:nm.size≤1000000) (h2:acc.size≤1000000) (h3:par.size≤1000000) (hc:ShortC cs) (ht:ShortT tg) (hl:tg.length≤1000) :
    Ev (fun k=>rf48_Check.f k nm cs acc par tg) (checkS nm cs acc par tg):=by
  have j:∀ b:Bool,b=!(nameB nm acc par)→Ev (fun k=>rf48_Check.j0 k b nm cs acc par tg) (checkS nm cs acc par tg):=fun b hb=>by
    refine Ev.step (fun k=>by rw [rf48_Check.j0]) ?_;unfold checkS
    cases n:nameB nm acc par with
    | false=>rw [hb,n,if_neg (by decide)];exact Ev.yes rfl (Ev.is rfl)
    | true =>
      rw [hb,n,if_pos rfl];refine Ev.no (by decide) (Ev.bind (r09_Right_ev tg ht hl) (Ev.both (fun e=>?_) (fun e=>Ev.is (by rw [if_neg e]))));rw [if_pos e];refine Ev.both (fun a=>Ev.is (by rw [if_pos (by omega)])) (fun a=>Ev.both (fun b=>Ev.is (by rw [if_neg (by omega),if_pos (by omega)])) (fun b=>?_));rw [if_neg (by omega),if_neg (by omega)];exact r48_Check_l0 nm acc par tg cs hc (by omega) cs 0 rfl
  unfold rf48_Check.f;unfold nameB at j;refine Ev.bind (ref06_Code_at _ h1) (Ev.both (fun a=>Ev.bind (ref06_Code_at _ h2) (Ev.both (fun b=>Ev.both (fun c=>j _ ?_) (fun c=>Ev.bind (ref06_Code_at _ h3) (j _ ?_))) (fun b=>j _ ?_))) (fun a=>j _ ?_))
  · rw [a,b,decide_eq_true c];rfl
  · rw [a,b,decide_eq_false c];simp
  · rw [a,Bool.eq_false_iff.mpr b];rfl
  · rw [Bool.eq_false_iff.mpr a];rfl
def FitR (nm:ByteArray) (cs:List S48) (acc par:ByteArray) (tg:List S50):Prop :=
  (nm.size≤140737488351232∧acc.size≤140737488351232∧par.size≤140737488351232)∧(∀ x∈cs,x.f2.size≤140737488351232)∧∀ x∈tg,x.f0.size≤140737488351232∧x.f1.size≤140737488351232
def bigC:List S48→Bool
  | []=>false
  | c :: r=>if (c.f2.size:Int) > 400 then true else bigC r
def largeS (nm:ByteArray) (cs:List S48) (acc par:ByteArray) (tg:List S50):Bool :=
  if (20 < cs.length∨20 < tg.length∨400 < nm.size+acc.size+par.size) then true else if bigC cs=true then true else bigT tg
theorem bigC_all {cs:List S48} (h:¬ bigC cs=true):∀ x∈cs,x.f2.size≤400:=by
  induction cs with
  | nil=>intro x hx;cases hx
  | cons y r ih =>
    rw [bigC] at h;split at h
    · exact absurd rfl h
    intro x hx;rcases List.mem_cons.mp hx with rfl | hx
    · omega
    · exact ih h x hx
theorem largeS_small {nm:ByteArray} {cs:List S48} {acc par:ByteArray} {tg:List S50} (h:¬ largeS nm cs acc par tg=true):SmallR nm cs acc par tg:=by
  unfold largeS at h;split at h
  · exact absurd rfl h
  split at h
  · exact absurd rfl h
  rename_i a b
  exact ⟨by omega,by omega,by omega,bigC_all b,bigT_all h⟩
theorem large_l1 (nm:ByteArray) (cs:List S48) (acc par:ByteArray) (tg:List S50) (hs:∀ x∈tg,x.f0.size≤140737488351232∧x.f1.size≤140737488351232) (hl:tg.length≤1000) (R:List S50):∀ i:Nat,tg.drop i=R→Ev (fun k=>lw48_large.l1 k (i:Int) nm cs acc par tg) (bigT R):=by
  induction R with
  | nil =>
    intro i h;have:=List.drop_eq_nil_iff.mp h;refine Ev.step (fun k=>by rw [lw48_large.l1]) ?_;exact Ev.no (by omega) (Ev.is rfl)
  | cons x r ih =>
    intro i h;obtain ⟨hi,hx,hr⟩:=rd50_at h;have hm:=hs x (List.mem_of_mem_drop (i:=i) (by rw [h];exact List.mem_cons_self));refine Ev.step (fun k=>by rw [lw48_large.l1]) (Ev.yes (by omega) (Ev.yes (by omega) ?_));rw [hx,w_next i (by omega),w_in (by omega),bigT];exact Ev.both (fun e=>Ev.is (by rw [if_pos e])) (fun e=>by rw [if_neg e];exact ih (i+1) hr)
theorem large_l0 (nm:ByteArray) (cs:List S48) (acc par:ByteArray) (tg:List S50) (hs:∀ x∈tg,x.f0.size≤140737488351232∧x.f1.size≤140737488351232) (hl:tg.length≤1000) (hc:cs.length≤1000) (R:List S48):∀ i:Nat,cs.drop i=R→Ev (fun k=>lw48_large.l0 k (i:Int) nm cs acc par tg) (if bigC R=true then true else bigT tg):=by
  induction R with
  | nil =>
    intro i h;have:=List.drop_eq_nil_iff.mp h;refine Ev.step (fun k=>by rw [lw48_large.l0]) (Ev.no (by omega) ?_);rw [bigC,if_neg (by decide)];exact large_l1 nm cs acc par tg hs hl tg 0 rfl
  | cons x r ih =>
    intro i h;obtain ⟨hi,hx,hr⟩:=rd48_at h;refine Ev.step (fun k=>by rw [lw48_large.l0]) (Ev.yes (by omega) (Ev.yes (by omega) ?_));rw [hx,w_next i (by omega),bigC];exact Ev.both (fun e=>Ev.is (by rw [if_pos e,if_pos rfl])) (fun e=>by rw [if_neg e];exact ih (i+1) hr)
theorem large_ev (nm:ByteArray) (cs:List S48) (acc par:ByteArray) (tg:List S50) (h:FitR nm cs acc par tg):Ev (fun k=>lw48_large.f k nm cs acc par tg) (largeS nm cs acc par tg):=by
  obtain ⟨⟨h1,h2,h3⟩,h4,h5⟩:=h
  have j:∀ b:Bool,(b=true ↔ (20 < cs.length∨20 < tg.length∨400 < nm.size+acc.size+par.size))→Ev (fun k=>lw48_large.j0 k b nm cs acc par tg) (largeS nm cs acc par tg):=fun b hb=>by
    refine Ev.step (fun k=>by rw [lw48_large.j0]) ?_;unfold largeS;refine Ev.both (fun e=>Ev.is (by rw [if_pos (hb.mp e)])) (fun e=>?_);have e':¬ (20 < cs.length∨20 < tg.length∨400 < nm.size+acc.size+par.size):=fun x=>e (hb.mpr x)
    rw [if_neg e'];exact large_l0 nm cs acc par tg h5 (by omega) (by omega) cs 0 rfl
  unfold lw48_large.f;refine Ev.both (fun a=>j _ ⟨fun _=>by omega,fun _=>rfl⟩) (fun a=>Ev.both (fun b=>j _ ⟨fun _=>by omega,fun _=>rfl⟩) (fun b=>j _ ?_));rw [decide_eq_true_iff,w_in (x:=(nm.size:Int)+(acc.size:Int)) (by omega),w_in (by omega)];omega
end Go.Proofs.YtkbgkekegjfkfaaGreatDoor.A
namespace Go.Proofs.YtkbgkekegjfkfaaGreatDoor.A
open Go.RowKit B WW WL WM
attribute [local go_sem] max2_int min2_int max_two min_two max_three min_three max_four min_four
theorem k25_open {w:World} {x:S25} {cs:List Value} (h:k25.K w x cs):∃ A1 c1 A4 c4,cs=[.string x.f0,.slice A1 x.f1.length c1,.string x.f2,.string x.f3,.slice A4 x.f4.length c4]∧x.f1.length≤c1∧k48.C w A1 x.f1.length x.f1∧x.f4.length≤c4∧k50.C w A4 x.f4.length x.f4:=by
  obtain ⟨_,_,rfl,rfl,⟨_,_,rfl,⟨A1,c1,rfl,l1,g1⟩,⟨_,_,rfl,rfl,⟨_,_,rfl,rfl,⟨A4,c4,rfl,l4,g4⟩⟩⟩⟩⟩:=h;exact ⟨A1,c1,A4,c4,rfl,l1,g1,l4,g4⟩
def rd_T25 (xs:List S25) (i:Int):S25:=xs.getD i.toNat z25
theorem at_T25 {w:World} {A:Option Addr} {n:Nat} {xs:List S25} (h:Kd.C k25 w A n xs) (i:Int) (h0:0≤i) (h1:i < n):∃ ad A1 c1 A4 c4,A=some ad∧w.cell? (ad.add (i.toNat * 5))=some (.string (rd_T25 xs i).f0)∧w.cell? ⟨(ad.add (i.toNat * 5)).block,(ad.add (i.toNat * 5)).off+1,none⟩=some (.slice A1 (rd_T25 xs i).f1.length c1)∧w.cell? ⟨(ad.add (i.toNat * 5)).block,(ad.add (i.toNat * 5)).off+2,none⟩=some (.string (rd_T25 xs i).f2)∧w.cell? ⟨(ad.add (i.toNat * 5)).block,(ad.add (i.toNat * 5)).off+3,none⟩=some (.string (rd_T25 xs i).f3)∧w.cell? ⟨(ad.add (i.toNat * 5)).block,(ad.add (i.toNat * 5)).off+4,none⟩=some (.slice A4 (rd_T25 xs i).f4.length c4)∧(rd_T25 xs i).f1.length≤c1∧k48.C w A1 (rd_T25 xs i).f1.length (rd_T25 xs i).f1∧(rd_T25 xs i).f4.length≤c4∧k50.C w A4 (rd_T25 xs i).f4.length (rd_T25 xs i).f4:=by
  obtain ⟨ad,c,e,_,hK,hc0⟩:=Kd.C_get h z25 i h0 h1;have hc:∀ j u,c[j]?=some u→w.cell? (ad.add (i.toNat * 5+j))=some u:=hc0;obtain ⟨A1,c1,A4,c4,rfl,l1,g1,l4,g4⟩:=k25_open hK;exact ⟨ad,A1,c1,A4,c4,e,hc 0 _ rfl,by rw [← add_field _ _ 1 (by omega)];exact hc 1 _ rfl,by rw [← add_field _ _ 2 (by omega)];exact hc 2 _ rfl,by rw [← add_field _ _ 3 (by omega)];exact hc 3 _ rfl,by rw [← add_field _ _ 4 (by omega)];exact hc 4 _ rfl,l1,g1,l4,g4⟩
end Go.Proofs.YtkbgkekegjfkfaaGreatDoor.A
namespace Go.Proofs.YtkbgkekegjfkfaaGreatDoor.B
open Go.ChangeShapes
theorem handed_open {H:Type} {enc:TypeId×Value→H} {a:Assume} {C:Checked} {os:Os} {f:FuncId} {fn:Func} {s:ChangeSpec} {conds:List PathCond} {apart fresh handsOn again:Bool} {X:World→Array Value→Prop}
    (hX:∀ (w w':World) (args:Array Value),w.heap=w'.heap→X w args→X w' args)
    (own:ownKnob C.prog.godebug=none) (started:os.Started) (noInit:C.prog.inits.idxOf? f=none) (hfn:C.prog.funcs[f]?=some fn)
    (wit:∃ (w:World) (tape:Tape) (i:Input),w.os=os∧(w.forCall tape i).Shaped C.prog∧i.vars=[]∧Input.okWide C.prog (w.forCall tape i) .any w.heap.size f i ∧
      ((s.pre enc C.prog fn conds apart (w.forCall tape i).memory i.args∧X (w.forCall tape i).memory i.args)∧sizedMet enc C.prog fn (OpenSpec.ofChange s) apart (w.forCall tape i).memory i.args)∧a.holds C.prog (lone (Frame.enter C.prog f i.args .normal) [] (w.forCall tape i)))
    (walk:∀ (W:World) (base:Nat) (args:Array Value) (ds gs:List (DataW H)) (before:List MemPlace),W.ShapedOpen C.prog→X W args →
      (∀ (j:Nat) t v,fn.params[j]?=some t→args[j]?=some v→Value.okWide C.prog W .any base t v)→DataW.Whole enc C.prog fn.params.toList s.vars apart W args.toList ds gs before →
      (DataW.weightsEach C.prog (fn.params.toList++s.plain.varTypes C.prog) (ds++gs)).all (·≤reachBytes)=true →
      Calls C.prog f args W fun e W'=>∃ v,e=.returned v∧s.post enc C.prog fn apart fresh handsOn again W args v W') :
    ReturnsInHanded a C os f .any (fun w args=>(s.pre enc C.prog fn conds apart w args∧X w args)∧sizedMet enc C.prog fn (OpenSpec.ofChange s) apart w args) (s.post enc C.prog fn apart fresh handsOn again):=by
  refine returnsInHanded_of_calls own started noInit wit ?_;rintro w tape i _ hO _ ⟨_,_,_,fn',hf',_,_,_,_,hv⟩ ⟨⟨⟨ds,gs,before,hw,_⟩,hx⟩,hz⟩ _;obtain rfl:fn'=fn:=Option.some.inj (hf'.symm.trans hfn);refine (walk (w.forCall tape i) w.heap.size i.args ds gs before hO (hX _ _ _ (by rfl) hx) hv (DataW.Whole.of_heap (w':=w.forCall tape i) (by rfl) hw) (hz.weights hw)).mono ?_;rintro e W' ⟨v,rfl,hp⟩;exact ChangeSpec.post_blind hp
end Go.Proofs.YtkbgkekegjfkfaaGreatDoor.B
namespace Go.Proofs.YtkbgkekegjfkfaaGreatDoor.A
open Go.RowKit B WW WL WM
section
variable {nm:ByteArray} {cs:List S48} {acc par:ByteArray} {tg:List S50}
theorem SmallR.sc (h:SmallR nm cs acc par tg):ShortC cs:=fun x hx=>by have:=h.c x hx;omega
theorem SmallR.check (h:SmallR nm cs acc par tg):Ev (fun k=>rules_Check.f k nm cs acc par tg) (checkS nm cs acc par tg) :=
  rules_Check_ev nm cs acc par tg (by have:=h.ln;omega) (by have:=h.ln;omega) (by have:=h.ln;omega) h.sc h.st
theorem SmallR.rcheck (h:SmallR nm cs acc par tg):Ev (fun k=>rf48_Check.f k nm cs acc par tg) (checkS nm cs acc par tg) :=
  r48_Check_ev nm cs acc par tg (by have:=h.ln;omega) (by have:=h.ln;omega) (by have:=h.ln;omega) h.sc h.st (by have:=h.lt;omega)
end
end Go.Proofs.YtkbgkekegjfkfaaGreatDoor.A
namespace Go.Proofs.YtkbgkekegjfkfaaGreatDoor.A
open Go.RowKit B WW WL WM
attribute [local go_sem] max2_int min2_int max_two min_two max_three min_three max_four min_four
set_option maxHeartbeats 8000000
set_option maxRecDepth 100000
def rules_First.l0:Nat→List (S25)→Int→Int→Int→Int→ByteArray→ByteArray→Option (Int)
 | 0,_,_,_,_,_,_,_=>none
 | k+1,x7,x8,x9,x157000,x157001,x157002,x157003=>if x9 < x8 then (if 0≤x9 then (if x9 < (x7.length:Int) then ((rules_Holds.f k ((rd_T25 x7 x9).f0) ((rd_T25 x7 x9).f1) ((rd_T25 x7 x9).f2) ((rd_T25 x7 x9).f3) ((rd_T25 x7 x9).f4) x157000 x157001 x157002 x157003).bind fun t159=>(if t159=true then (some x9) else (rules_First.l0 k x7 x8 (wrap64 (x9+1)) x157000 x157001 x157002 x157003))) else (none)) else (none)) else (some (-1))
def rules_First.f (k:Nat) (l0:List (S25)) (a1_0:Int) (a1_1:Int) (a1_2:ByteArray) (a1_3:ByteArray):Option (Int):=rules_First.l0 k l0 (l0.length:Int) 0 a1_0 a1_1 a1_2 a1_3
theorem rules_First.calls (k:Nat) (A0:Option Addr) (c0:Nat) (l0:List (S25)) (a1_0 a1_1:Int) (a1_2 a1_3:ByteArray) (r:Int) (w:World) (hr0:Kd.C k25 w A0 l0.length l0) (hc0:l0.length≤c0) (h:rules_First.f k l0 a1_0 a1_1 a1_2 a1_3=some r) (hG:Gl w) :
  Calls Tryz.prog 14 #[.slice A0 l0.length c0,.agg #[.int .i64 a1_0,.int .i64 a1_1,.string a1_2,.string a1_3]] w fun e w'=>e=.returned (.int .i64 r)∧Below w.heap.size w w':=by
 have HG:=sd hG;clear hG;have hu32:=Tryz.underlying32;have hu25:=Tryz.underlying25;have HR0:=sd hr0;have HC0:=sd hc0;clear hr0 hc0;have HB:=sd (Below.refl w.heap.size w);have H:=h;clear h;unfold rules_First.f at H;have H':=sd H;clear H;go_enter Tryz.func14,Tryz.ntmps14
 go_wp2_with (first | ((with_reducible refine gate_dst (N:=3) rfl ?_);refine bxA 3 #[.int .i64 a1_0,.int .i64 a1_1,.string a1_2,.string a1_3] 32 ?_;intro gb156 hg w3 hbox hb;have BK156:=sd (hbox);have GW156:=gem hg HB;have GE156:=GW156;replace HB:=hbm HB hb;clear hb hbox hg))
 go_loopg [9] k (fun kq v9 w'=>∃ (x9_1:Int),v9=.int .i64 x9_1∧Aside0 (rules_First.l0 kq l0 (l0.length:Int) x9_1 a1_0 a1_1 a1_2 a1_3=some r)∧Aside0 (kq≤k)∧Aside0 (w'.heap[gb156]?=some (.cells #[.int .i64 a1_0,.int .i64 a1_1,.string a1_2,.string a1_3] 32 (0,0)))∧Aside0 (Below w.heap.size w w'))
 case atStart=>exact ⟨(0),zq7,H',⟨Nat.le_refl _⟩,⟨by (with_reducible repeat (first | refine blk_drewN ?_ _ | refine blk_drew ?_ | refine blk_alloc ?_ _));exact BK156.out⟩,⟨by repeat (first | (with_reducible first | exact HB.out | apply below_alloc | apply pw_below_drewN | apply below_drew1 | refine below_set ?_ GE156.out) | exact HB.out)⟩⟩
 case round =>
  clear H';try clear c1
  try clear p2
  obtain ⟨x9_1,rfl,HA,HK1,BK156,HB⟩:=hrel
  cases gk with
  | zero=>exact absurd HA.out (by simp [rules_First.l0])
  | succ k1 =>
   have H:=HA.out;clear HA;simp only [rules_First.l0] at H
   replace H:=ifI H;rcases H with ⟨c4,H⟩ | ⟨c4,H⟩
   ·have c4b0:decide (x9_1 < (l0.length:Int))=true:=decide_eq_true c4;clear c4;replace H:=ifI H;rcases H with ⟨c5,H⟩ | ⟨c5,H⟩
    ·have c5b0:decide (0≤x9_1)=true:=decide_eq_true c5;clear c5;replace H:=ifI H;rcases H with ⟨c6,H⟩ | ⟨c6,H⟩
     ·have c6b0:decide (x9_1 < (l0.length:Int))=true:=decide_eq_true c6;clear c6;replace H:=bdI H;obtain ⟨t159,A7,H⟩:=H;(try dsimp only at H)
      by_cases c8:t159=true
      ·subst c8;rw [if_pos rfl] at H;obtain rfl:=Option.some.inj H;have p157:0≤(x9_1:Int):=od;have q157:x9_1 < (l0.length:Int):=od;obtain ⟨ad157,A157_1,c157_1,A157_4,c157_4,e157,hx157_0,hx157_1,hx157_2,hx157_3,hx157_4,hl157_1,hi157_1,hl157_4,hi157_4⟩:=at_T25 HR0.out x9_1 p157 q157
       cases e157
       replace hx157_0:=(HB.out.cell (World.block_lt_of_cell? w _ hx157_0)).trans hx157_0;replace hx157_1:=(HB.out.cell (World.block_lt_of_cell? w _ hx157_1)).trans hx157_1;replace hx157_2:=(HB.out.cell (World.block_lt_of_cell? w _ hx157_2)).trans hx157_2;replace hx157_3:=(HB.out.cell (World.block_lt_of_cell? w _ hx157_3)).trans hx157_3;replace hx157_4:=(HB.out.cell (World.block_lt_of_cell? w _ hx157_4)).trans hx157_4;have HR157_1:=sd hi157_1;have HC157_1:=sd hl157_1;clear hi157_1 hl157_1;have HR157_4:=sd hi157_4;have HC157_4:=sd hl157_4;clear hi157_4 hl157_4;replace p157:=eq_true p157;replace q157:=eq_true q157;go_wp2_with (first | ((with_reducible refine gate_dst (N:=6) rfl ?_);refine bxA 6 #[.string (⟨#[]⟩:ByteArray),.slice none 0 0,.string (⟨#[]⟩:ByteArray),.string (⟨#[]⟩:ByteArray),.slice none 0 0] 25 ?_;intro gb158 hg w9 hbox hb;have BK158:=sd (hbox);have GW158:=gem hg HB;have GE158:=GW158;have NB156_158:=nlm hg BK156;have NB158_156:=ngm hg BK156;replace BK156:=bkm BK156 hb;replace HB:=hbm HB hb;clear hb hbox hg;have hnb10:=NB158_156.out;have hnc10:=NB156_158.out;obtain ⟨_,_,_,_,_,_,_,_,_,_⟩:=bk5 BK158;obtain ⟨_,_,_,_,_,_,_,_⟩:=bk4 BK156) | ((with_reducible refine gate_callee (f:=12) rfl ?_);refine gL 16 Tryz.func12 #[.agg #[.string ((rd_T25 l0 x9_1).f0),.slice A157_1 ((rd_T25 l0 x9_1).f1).length c157_1,.string ((rd_T25 l0 x9_1).f2),.string ((rd_T25 l0 x9_1).f3),.slice A157_4 ((rd_T25 l0 x9_1).f4).length c157_4],.agg #[.int .i64 a1_0,.int .i64 a1_1,.string a1_2,.string a1_3]] ?_;(with_reducible refine (rules_Holds.calls k1 ((rd_T25 l0 x9_1).f0) _ _ ((rd_T25 l0 x9_1).f1) ((rd_T25 l0 x9_1).f2) ((rd_T25 l0 x9_1).f3) _ _ ((rd_T25 l0 x9_1).f4) a1_0 a1_1 a1_2 a1_3 true _ ?side1 ?side2 ?side3 ?side4 A7.out (gl_below HG.out (by repeat (first | (with_reducible first | exact HB.out | exact Below.refl _ _ | apply below_alloc | apply pw_below_drewN | apply below_drew1 | refine below_set ?_ GE156.out | refine below_set ?_ GE158.out) | exact HB.out)))).mono ?_);(case side1=>exact (by exact Kd.C_below HR157_1.out zq123));(case side2=>exact HC157_1.out);(case side3=>exact (by exact Kd.C_below HR157_4.out zq123));(case side4=>exact HC157_4.out);rintro e w13 ⟨rfl,hb⟩;refine ⟨_,rfl,?_⟩;replace BK156:=sd (blk_below (g:=gb156) (o:=.cells #[.int .i64 a1_0,.int .i64 a1_1,.string a1_2,.string a1_3] 32 (0,0)) (by (with_reducible repeat (first | refine blk_drewN ?_ _ | refine blk_drew ?_ | refine blk_alloc ?_ _));refine blk_far ?_ NB156_158.out _;(with_reducible repeat (first | refine blk_drewN ?_ _ | refine blk_drew ?_ | refine blk_alloc ?_ _));refine blk_far ?_ NB156_158.out _;(with_reducible repeat (first | refine blk_drewN ?_ _ | refine blk_drew ?_ | refine blk_alloc ?_ _));refine blk_far ?_ NB156_158.out _;(with_reducible repeat (first | refine blk_drewN ?_ _ | refine blk_drew ?_ | refine blk_alloc ?_ _));refine blk_far ?_ NB156_158.out _;(with_reducible repeat (first | refine blk_drewN ?_ _ | refine blk_drew ?_ | refine blk_alloc ?_ _));refine blk_far ?_ NB156_158.out _;(with_reducible repeat (first | refine blk_drewN ?_ _ | refine blk_drew ?_ | refine blk_alloc ?_ _));exact BK156.out) hb);replace BK158:=sd (blk_below (g:=gb158) (o:=.cells #[.string ((rd_T25 l0 x9_1).f0),.slice A157_1 ((rd_T25 l0 x9_1).f1).length c157_1,.string ((rd_T25 l0 x9_1).f2),.string ((rd_T25 l0 x9_1).f3),.slice A157_4 ((rd_T25 l0 x9_1).f4).length c157_4] 25 (0,0)) (by (with_reducible repeat (first | refine blk_drewN ?_ _ | refine blk_drew ?_ | refine blk_alloc ?_ _));refine blk_put (cs:=#[.string ((rd_T25 l0 x9_1).f0),.slice A157_1 ((rd_T25 l0 x9_1).f1).length c157_1,.string ((rd_T25 l0 x9_1).f2),.string ((rd_T25 l0 x9_1).f3),.slice none 0 0]) ?_ 4 _ rfl;(with_reducible repeat (first | refine blk_drewN ?_ _ | refine blk_drew ?_ | refine blk_alloc ?_ _));refine blk_put (cs:=#[.string ((rd_T25 l0 x9_1).f0),.slice A157_1 ((rd_T25 l0 x9_1).f1).length c157_1,.string ((rd_T25 l0 x9_1).f2),.string (⟨#[]⟩:ByteArray),.slice none 0 0]) ?_ 3 _ rfl;(with_reducible repeat (first | refine blk_drewN ?_ _ | refine blk_drew ?_ | refine blk_alloc ?_ _));refine blk_put (cs:=#[.string ((rd_T25 l0 x9_1).f0),.slice A157_1 ((rd_T25 l0 x9_1).f1).length c157_1,.string (⟨#[]⟩:ByteArray),.string (⟨#[]⟩:ByteArray),.slice none 0 0]) ?_ 2 _ rfl;(with_reducible repeat (first | refine blk_drewN ?_ _ | refine blk_drew ?_ | refine blk_alloc ?_ _));refine blk_put (cs:=#[.string ((rd_T25 l0 x9_1).f0),.slice none 0 0,.string (⟨#[]⟩:ByteArray),.string (⟨#[]⟩:ByteArray),.slice none 0 0]) ?_ 1 _ rfl;(with_reducible repeat (first | refine blk_drewN ?_ _ | refine blk_drew ?_ | refine blk_alloc ?_ _));refine blk_put (cs:=#[.string (⟨#[]⟩:ByteArray),.slice none 0 0,.string (⟨#[]⟩:ByteArray),.string (⟨#[]⟩:ByteArray),.slice none 0 0]) ?_ 0 _ rfl;(with_reducible repeat (first | refine blk_drewN ?_ _ | refine blk_drew ?_ | refine blk_alloc ?_ _));exact BK158.out) hb);replace HB:=hbm HB hb;clear hb))
       go_ret
       exact ⟨zq4,zq123⟩
      replace c8:=Bool.eq_false_iff.mpr c8;subst c8;rw [if_neg Bool.false_ne_true] at H;have H':=sd H;clear H;have p157:0≤(x9_1:Int):=od;have q157:x9_1 < (l0.length:Int):=od;obtain ⟨ad157,A157_1,c157_1,A157_4,c157_4,e157,hx157_0,hx157_1,hx157_2,hx157_3,hx157_4,hl157_1,hi157_1,hl157_4,hi157_4⟩:=at_T25 HR0.out x9_1 p157 q157
      cases e157
      replace hx157_0:=(HB.out.cell (World.block_lt_of_cell? w _ hx157_0)).trans hx157_0;replace hx157_1:=(HB.out.cell (World.block_lt_of_cell? w _ hx157_1)).trans hx157_1;replace hx157_2:=(HB.out.cell (World.block_lt_of_cell? w _ hx157_2)).trans hx157_2;replace hx157_3:=(HB.out.cell (World.block_lt_of_cell? w _ hx157_3)).trans hx157_3;replace hx157_4:=(HB.out.cell (World.block_lt_of_cell? w _ hx157_4)).trans hx157_4;have HR157_1:=sd hi157_1;have HC157_1:=sd hl157_1;clear hi157_1 hl157_1;have HR157_4:=sd hi157_4;have HC157_4:=sd hl157_4;clear hi157_4 hl157_4;replace p157:=eq_true p157;replace q157:=eq_true q157;go_wp2_with (first | ((with_reducible refine gate_dst (N:=6) rfl ?_);refine bxA 6 #[.string (⟨#[]⟩:ByteArray),.slice none 0 0,.string (⟨#[]⟩:ByteArray),.string (⟨#[]⟩:ByteArray),.slice none 0 0] 25 ?_;intro gb158 hg w14 hbox hb;have BK158:=sd (hbox);have GW158:=gem hg HB;have GE158:=GW158;have NB156_158:=nlm hg BK156;have NB158_156:=ngm hg BK156;replace BK156:=bkm BK156 hb;replace HB:=hbm HB hb;clear hb hbox hg;have hnb15:=NB158_156.out;have hnc15:=NB156_158.out;obtain ⟨_,_,_,_,_,_,_,_,_,_⟩:=bk5 BK158;obtain ⟨_,_,_,_,_,_,_,_⟩:=bk4 BK156) | ((with_reducible refine gate_callee (f:=12) rfl ?_);refine gL 16 Tryz.func12 #[.agg #[.string ((rd_T25 l0 x9_1).f0),.slice A157_1 ((rd_T25 l0 x9_1).f1).length c157_1,.string ((rd_T25 l0 x9_1).f2),.string ((rd_T25 l0 x9_1).f3),.slice A157_4 ((rd_T25 l0 x9_1).f4).length c157_4],.agg #[.int .i64 a1_0,.int .i64 a1_1,.string a1_2,.string a1_3]] ?_;(with_reducible refine (rules_Holds.calls k1 ((rd_T25 l0 x9_1).f0) _ _ ((rd_T25 l0 x9_1).f1) ((rd_T25 l0 x9_1).f2) ((rd_T25 l0 x9_1).f3) _ _ ((rd_T25 l0 x9_1).f4) a1_0 a1_1 a1_2 a1_3 false _ ?side1 ?side2 ?side3 ?side4 A7.out (gl_below HG.out (by repeat (first | (with_reducible first | exact HB.out | exact Below.refl _ _ | apply below_alloc | apply pw_below_drewN | apply below_drew1 | refine below_set ?_ GE156.out | refine below_set ?_ GE158.out) | exact HB.out)))).mono ?_);(case side1=>exact (by exact Kd.C_below HR157_1.out zq123));(case side2=>exact HC157_1.out);(case side3=>exact (by exact Kd.C_below HR157_4.out zq123));(case side4=>exact HC157_4.out);rintro e w18 ⟨rfl,hb⟩;refine ⟨_,rfl,?_⟩;replace BK156:=sd (blk_below (g:=gb156) (o:=.cells #[.int .i64 a1_0,.int .i64 a1_1,.string a1_2,.string a1_3] 32 (0,0)) (by (with_reducible repeat (first | refine blk_drewN ?_ _ | refine blk_drew ?_ | refine blk_alloc ?_ _));refine blk_far ?_ NB156_158.out _;(with_reducible repeat (first | refine blk_drewN ?_ _ | refine blk_drew ?_ | refine blk_alloc ?_ _));refine blk_far ?_ NB156_158.out _;(with_reducible repeat (first | refine blk_drewN ?_ _ | refine blk_drew ?_ | refine blk_alloc ?_ _));refine blk_far ?_ NB156_158.out _;(with_reducible repeat (first | refine blk_drewN ?_ _ | refine blk_drew ?_ | refine blk_alloc ?_ _));refine blk_far ?_ NB156_158.out _;(with_reducible repeat (first | refine blk_drewN ?_ _ | refine blk_drew ?_ | refine blk_alloc ?_ _));refine blk_far ?_ NB156_158.out _;(with_reducible repeat (first | refine blk_drewN ?_ _ | refine blk_drew ?_ | refine blk_alloc ?_ _));exact BK156.out) hb);replace BK158:=sd (blk_below (g:=gb158) (o:=.cells #[.string ((rd_T25 l0 x9_1).f0),.slice A157_1 ((rd_T25 l0 x9_1).f1).length c157_1,.string ((rd_T25 l0 x9_1).f2),.string ((rd_T25 l0 x9_1).f3),.slice A157_4 ((rd_T25 l0 x9_1).f4).length c157_4] 25 (0,0)) (by (with_reducible repeat (first | refine blk_drewN ?_ _ | refine blk_drew ?_ | refine blk_alloc ?_ _));refine blk_put (cs:=#[.string ((rd_T25 l0 x9_1).f0),.slice A157_1 ((rd_T25 l0 x9_1).f1).length c157_1,.string ((rd_T25 l0 x9_1).f2),.string ((rd_T25 l0 x9_1).f3),.slice none 0 0]) ?_ 4 _ rfl;(with_reducible repeat (first | refine blk_drewN ?_ _ | refine blk_drew ?_ | refine blk_alloc ?_ _));refine blk_put (cs:=#[.string ((rd_T25 l0 x9_1).f0),.slice A157_1 ((rd_T25 l0 x9_1).f1).length c157_1,.string ((rd_T25 l0 x9_1).f2),.string (⟨#[]⟩:ByteArray),.slice none 0 0]) ?_ 3 _ rfl;(with_reducible repeat (first | refine blk_drewN ?_ _ | refine blk_drew ?_ | refine blk_alloc ?_ _));refine blk_put (cs:=#[.string ((rd_T25 l0 x9_1).f0),.slice A157_1 ((rd_T25 l0 x9_1).f1).length c157_1,.string (⟨#[]⟩:ByteArray),.string (⟨#[]⟩:ByteArray),.slice none 0 0]) ?_ 2 _ rfl;(with_reducible repeat (first | refine blk_drewN ?_ _ | refine blk_drew ?_ | refine blk_alloc ?_ _));refine blk_put (cs:=#[.string ((rd_T25 l0 x9_1).f0),.slice none 0 0,.string (⟨#[]⟩:ByteArray),.string (⟨#[]⟩:ByteArray),.slice none 0 0]) ?_ 1 _ rfl;(with_reducible repeat (first | refine blk_drewN ?_ _ | refine blk_drew ?_ | refine blk_alloc ?_ _));refine blk_put (cs:=#[.string (⟨#[]⟩:ByteArray),.slice none 0 0,.string (⟨#[]⟩:ByteArray),.string (⟨#[]⟩:ByteArray),.slice none 0 0]) ?_ 0 _ rfl;(with_reducible repeat (first | refine blk_drewN ?_ _ | refine blk_drew ?_ | refine blk_alloc ?_ _));exact BK158.out) hb);replace HB:=hbm HB hb;clear hb))
      go_roundg k1
      case measure=>have:=HK1.out;omega
      case rel=>exact ⟨(wrap64 (x9_1+1)),zq7,H',⟨by have:=HK1.out;omega⟩,⟨by (with_reducible repeat (first | refine blk_drewN ?_ _ | refine blk_drew ?_ | refine blk_alloc ?_ _));exact BK156.out⟩,⟨zq123⟩⟩
     exact absurd H (by simp)
    exact absurd H (by simp)
   have c4b0:decide (x9_1 < (l0.length:Int))=false:=decide_eq_false c4;clear c4;obtain rfl:=Option.some.inj H;go_wp2
   go_ret
   exact ⟨zq4,by repeat (first | (with_reducible first | exact HB.out | apply below_alloc | apply pw_below_drewN | apply below_drew1 | refine below_set ?_ GE156.out) | exact HB.out)⟩
end Go.Proofs.YtkbgkekegjfkfaaGreatDoor.A
