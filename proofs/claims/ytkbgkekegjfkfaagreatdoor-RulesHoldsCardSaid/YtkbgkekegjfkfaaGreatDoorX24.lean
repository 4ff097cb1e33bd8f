-- By pack.py, a program of this session's.
import Derived.Test.YtkbgkekegjfkfaaGreatDoorX22
set_option linter.unusedVariables false
set_option linter.unusedSimpArgs false
namespace Go.Proofs.YtkbgkekegjfkfaaGreatDoor.A
open Go.RowKit B WW WL WM
theorem oL_toList (l:List UInt8):(oL l).toList=l:=by rw [ByteArray.toList_eq];rfl
def holdsS (nm:ByteArray) (cs:List S48) (acc par:ByteArray) (tg:List S50) (d a:Int) (rf tx:ByteArray):Bool:=decide (checkS nm cs acc par tg=0) && cs.all fun c=>testF c d a rf tx
theorem checkC_all {cs:List S48} (h:checkC cs=0):∀ c∈cs,condS c=0:=by
  induction cs with
  | nil=>intro c hc;cases hc
  | cons x r ih =>
    rw [checkC] at h;split at h
    · intro c hc
      rcases List.mem_cons.mp hc with rfl | hc
      · assumption
      · exact ih h c hc
    · contradiction
theorem checkS_conds {nm:ByteArray} {cs:List S48} {acc par:ByteArray} {tg:List S50} (h:checkS nm cs acc par tg=0):nameB nm acc par=true∧tagsOk tg=true∧0 < cs.length∧cs.length≤8∧∀ c∈cs,condS c=0:=by
  unfold checkS at h;split at h
  · split at h
    · split at h
      · exact absurd h (by decide)
      split at h
      · exact absurd h (by decide)
      · exact ⟨by assumption,by assumption,by omega,by omega,checkC_all h⟩
    · exact absurd h (by decide)
  · exact absurd h (by decide)
theorem condS_ok {c:S48} (h:condS c=0):suitB c.f0 c.f1=true∧rangB c=true∧formB c=true:=by
  unfold condS condR at h;split at h
  · split at h
    · split at h
      · exact ⟨by assumption,by assumption,by assumption⟩
      · exact absurd h (by decide)
    · exact absurd h (by decide)
  · exact absurd h (by decide)
theorem rules_Holds_ev {nm:ByteArray} {cs:List S48} {acc par:ByteArray} {tg:List S50} (hs:SmallR nm cs acc par tg) (d a:Int) (rf tx:ByteArray) (h1:rf.size≤400) (h2:tx.size≤400) :
    Ev (fun k=>rules_Holds.f k nm cs acc par tg d a rf tx) (holdsS nm cs acc par tg d a rf tx):=by
  unfold rules_Holds.f holdsS;exact Ev.bind hs.check (Ev.both (fun e=>Ev.yes ⟨by omega,by omega⟩ (Ev.is (by rw [decide_eq_true e,Bool.true_and]))) (fun e=>Ev.is (by rw [decide_eq_false e,Bool.false_and])))
theorem occ_iff (S P:List UInt8) (i:Nat):(S.take (i+P.length)).drop i=P ↔ Lib.occAt S P i=true:=by
  unfold Lib.occAt;rw [List.isPrefixOf_iff_prefix,List.prefix_iff_eq_take,List.drop_take,Nat.add_sub_cancel_left];exact eq_comm
theorem contains_occ {S P:List UInt8} {i:Nat} (hi:i≤S.length) (h:Lib.occAt S P i=true) (hn:∀ j,j < i→Lib.occAt S P j=false):Lib.contains S P=true:=by
  unfold Lib.contains;rw [Lib.index_first hi h hn];exact decide_eq_true (by omega)
theorem contains_not {S P:List UInt8} (hn:∀ j,j≤S.length→Lib.occAt S P j=false):Lib.contains S P=false:=by
  unfold Lib.contains;rw [Lib.index_none hn];rfl
theorem occ_len {S P:List UInt8} {i:Nat} (hi:i≤S.length) (h:Lib.occAt S P i=true):i+P.length≤S.length:=by
  unfold Lib.occAt at h;rw [List.isPrefixOf_iff_prefix] at h;have:=h.length_le;rw [List.length_drop] at this;omega
end Go.Proofs.YtkbgkekegjfkfaaGreatDoor.A
namespace Go.Proofs.YtkbgkekegjfkfaaGreatDoor.A
open Go.RowKit B WW WL WM
theorem zq45 {P:Prop} (h:P:=by (with_reducible repeat (first | refine blk_drewN ?_ _ | refine blk_drew ?_ | refine blk_alloc ?_ _));exact BK262.out):P:=h
theorem zq46 {P:Prop} (h:P:=by (with_reducible repeat (first | refine blk_drewN ?_ _ | refine blk_drew ?_ | refine blk_alloc ?_ _));exact BK263.out):P:=h
theorem zq47 {P:Prop} (h:P:=by repeat (first | (with_reducible first | exact HB.out | apply below_alloc | apply pw_below_drewN | apply below_drew1 | refine below_set ?_ GE262.out | refine below_set ?_ GE263.out) | exact HB.out)):P:=h
theorem zq49 {P:Prop} (h:P:=by repeat (first | (with_reducible first | exact HB.out | apply below_alloc | apply pw_below_drewN | apply below_drew1 | refine below_set ?_ GE266.out | refine below_set ?_ GE267.out) | exact HB.out)):P:=h
theorem ba_ext {s t:ByteArray} (h:s.data.toList=t.data.toList):s=t:=by
  cases s;cases t;simp only [ByteArray.mk.injEq];exact Array.toList_inj.mp h
end Go.Proofs.YtkbgkekegjfkfaaGreatDoor.A
namespace Go.Proofs.YtkbgkekegjfkfaaGreatDoor.A
open Go.RowKit B WW WL WM
attribute [local go_sem] max2_int min2_int max_two min_two max_three min_three max_four min_four
set_option maxHeartbeats 8000000
set_option maxRecDepth 100000
def rf48_Holds.T6:Bool×List (List Nat×List Nat):=(true,[([],[]),([0],[0]),([],[]),([1,2],[1,2]),([3],[3]),([],[]),([4,5],[4,5]),([6],[6])])
def rf48_Holds.B6:List Nat:=[0,1,0,7,15,0,63,127]
theorem rf48_Holds.tab6:rtab .any (opsOf Tryz.f13 6)=rf48_Holds.T6:=by kernel_rfl
theorem rf48_Holds.bits6:waitsOk rf48_Holds.T6.2 rf48_Holds.B6=true:=by kernel_rfl
end Go.Proofs.YtkbgkekegjfkfaaGreatDoor.A
namespace Go.Proofs.YtkbgkekegjfkfaaGreatDoor.B
open Go.Deep Go.ChangeShapes Go.WideShapes Go.ChangeAt Go.Joins WW
theorem Opens.bool {P:Program} {t:TypeId} (ht:P.underlying t=some .bool) (hc:P.cellsOf t=1):Opens P t Kd.bool (fun _=>True) where
  size:=hc
  get h _:=by
    obtain ⟨x,rfl,_⟩:=DataW.trod_bool ht h;exact ⟨x,rfl,trivial⟩
end Go.Proofs.YtkbgkekegjfkfaaGreatDoor.B
namespace Go.Proofs.YtkbgkekegjfkfaaGreatDoor.A
open Go.RowKit B WW WL WM
theorem oL_extract (l:List UInt8) (a b:Nat):(oL l).extract a b=oL ((l.take b).drop a):=by
  apply ba_ext;simp [oL,ByteArray.data_extract,List.drop_take]
end Go.Proofs.YtkbgkekegjfkfaaGreatDoor.A
namespace Go.Proofs.YtkbgkekegjfkfaaGreatDoor.A
open Go.RowKit B WW WL WM
attribute [local go_sem] max2_int min2_int max_two min_two max_three min_three max_four min_four
set_option maxHeartbeats 8000000
set_option maxRecDepth 100000
attribute [local go_sem high] eqA48
def rf48_has.l0:Nat→ByteArray→ByteArray→Int→Option (Bool)
 | 0,_,_,_=>none
 | k+1,x0,x1,x5=>if (wrap64 (x5+(x1.size:Int)))≤(x0.size:Int) then (if 0≤x5 then (if x5≤(wrap64 (x5+(x1.size:Int))) then (if (x0.extract (x5:Int).toNat ((wrap64 (x5+(x1.size:Int))):Int).toNat).toList=x1.toList then (some true) else (rf48_has.l0 k x0 x1 (wrap64 (x5+1)))) else (none)) else (none)) else (some false)
def rf48_has.f (k:Nat) (a0:ByteArray) (a1:ByteArray):Option (Bool):=rf48_has.l0 k a0 a1 0
theorem rf48_has.calls (k:Nat) (a0 a1:ByteArray) (r:Bool) (w:World) (h:rf48_has.f k a0 a1=some r) :
  Calls Tryz.prog 70 #[.string a0,.string a1] w fun e w'=>e=.returned (.bool r)∧Drawn0 w w':=by
 have H:=h;clear h;unfold rf48_has.f at H;have H':=sd H;clear H;go_enter Tryz.func70,Tryz.ntmps70
 go_wp2
 go_loopg [5] k (fun kq v5 w'=>∃ (x5_1:Int),v5=.int .i64 x5_1∧Aside0 (rf48_has.l0 kq a0 a1 x5_1=some r)∧Aside0 (kq≤k)∧Drawn0 w w')
 case atStart=>exact ⟨(0),zq7,H',⟨Nat.le_refl _⟩,zq16⟩
 case round =>
  clear H';try clear p2
  obtain ⟨x5_1,rfl,HA,HK1,⟨m1,rfl⟩⟩:=hrel
  cases gk with
  | zero=>exact absurd HA.out (by simp [rf48_has.l0])
  | succ k1 =>
   have H:=HA.out;clear HA;simp only [rf48_has.l0] at H
   replace H:=ifI H;rcases H with ⟨c3,H⟩ | ⟨c3,H⟩
   ·have c3b0:decide ((wrap64 (x5_1+(a1.size:Int)))≤(a0.size:Int))=true:=decide_eq_true c3;clear c3;replace H:=ifI H;rcases H with ⟨c4,H⟩ | ⟨c4,H⟩
    ·have c4b0:=eq_true c4;have c4b1:decide (0≤x5_1)=true:=decide_eq_true c4;clear c4;replace H:=ifI H;rcases H with ⟨c5,H⟩ | ⟨c5,H⟩
     ·have c5b0:=eq_true c5;have c5b1:decide (x5_1≤(wrap64 (x5_1+(a1.size:Int))))=true:=decide_eq_true c5;have c6b0:=eq_true (od:(wrap64 (x5_1+(a1.size:Int)))≤(a0.size:Int));replace H:=ifI H;rcases H with ⟨c7,H⟩ | ⟨c7,H⟩
      ·obtain ⟨c7b0,c7b1⟩:=eqI c7;clear c7;obtain rfl:=Option.some.inj H;go_wp2
       go_ret
       exact ⟨zq7,zq16⟩
      obtain ⟨c7b0,c7b1⟩:=neI c7;have H':=sd H;clear H;go_wp2
      go_roundg k1
      case measure=>have:=HK1.out;omega
      case rel=>exact ⟨(wrap64 (x5_1+1)),zq7,H',⟨by have:=HK1.out;omega⟩,zq16⟩
     exact absurd H (by simp)
    exact absurd H (by simp)
   have c3b0:decide ((wrap64 (x5_1+(a1.size:Int)))≤(a0.size:Int))=false:=decide_eq_false c3;clear c3;obtain rfl:=Option.some.inj H;go_wp2
   go_ret
   exact ⟨zq7,zq16⟩
end Go.Proofs.YtkbgkekegjfkfaaGreatDoor.A
namespace Go.Proofs.YtkbgkekegjfkfaaGreatDoor.A
open Go.RowKit B WW WL WM
theorem r48_has_l0 (S P:List UInt8) (hS:S.length≤1000) (hP:P.length≤1000) (n:Nat):∀ i:Nat,i+n=S.length+1→(∀ j,j < i→Lib.occAt S P j=false)→Ev (fun k=>rf48_has.l0 k (oL S) (oL P) (i:Int)) (Lib.contains S P):=by
  induction n with
  | zero =>
    intro i h hn;refine Ev.step (fun k=>by rw [rf48_has.l0]) ?_;rw [oL_size,oL_size,w_in (by omega)];exact Ev.no (by omega) (Ev.is (contains_not (fun j hj=>hn j (by omega))).symm)
  | succ n ih =>
    intro i h hn;refine Ev.step (fun k=>by rw [rf48_has.l0]) ?_;rw [oL_size,oL_size,w_in (x:=(i:Int)+(P.length:Int)) (by omega),w_next i (by omega)];refine Ev.both (fun a=>Ev.yes (by omega) (Ev.yes (by omega) ?_)) (fun a=>Ev.is ?_)
    · rw [Int.toNat_natCast,show ((i:Int)+(P.length:Int)).toNat=i+P.length by omega,oL_extract,oL_toList,oL_toList]
      refine Ev.both (fun b=>Ev.is (contains_occ (by omega) ((occ_iff S P i).mp b) hn).symm) (fun b=>ih (i+1) (by omega) (fun j hj=>?_));rcases Nat.lt_or_ge j i with hji | hji
      · exact hn j hji
      · obtain rfl:j=i:=by omega
        exact Bool.eq_false_iff.mpr (fun x=>b ((occ_iff S P j).mpr x))
    · refine (contains_not (fun j hj=>?_)).symm
      rcases Nat.lt_or_ge j i with hji | hji
      · exact hn j hji
      · rw [Bool.eq_false_iff]
        intro hb;have:=occ_len hj hb;omega
theorem r48_has_ev (s p:ByteArray) (hs:s.size≤1000) (hp:p.size≤1000):Ev (fun k=>rf48_has.f k s p) (Lib.contains s.data.toList p.data.toList):=by
  unfold rf48_has.f;exact r48_has_l0 s.data.toList p.data.toList (by rw [← size_eq'];exact hs) (by rw [← size_eq'];exact hp) (s.data.toList.length+1) 0 (by omega) (fun j hj=>absurd hj (by omega))
end Go.Proofs.YtkbgkekegjfkfaaGreatDoor.A
namespace Go.Proofs.YtkbgkekegjfkfaaGreatDoor.A
open Go.RowKit B WW WL WM
attribute [local go_sem] max2_int min2_int max_two min_two max_three min_three max_four min_four
set_option maxHeartbeats 8000000
set_option maxRecDepth 100000
mutual
def rf48_holds.j0:Nat→Int→ByteArray→Int→Int→ByteArray→Int→Int→Int→ByteArray→ByteArray→Option (Bool)
 | 0,_,_,_,_,_,_,_,_,_,_=>none
 | k+1,x5,x6,x263000,x263001,x263002,x263003,x264000,x264001,x264002,x264003=>if x263000=3 then (rf48_holds.j1 k x5 x264003 x263000 x263001 x263002 x263003) else (rf48_holds.j1 k x5 x6 x263000 x263001 x263002 x263003)
def rf48_holds.j1:Nat→Int→ByteArray→Int→Int→ByteArray→Int→Option (Bool)
 | 0,_,_,_,_,_,_=>none
 | k+1,x5,x6,x263000,x263001,x263002,x263003=>(rf48_number.f x263000).bind fun t264=>(if t264=true then (if x263001=1 then (some (x5 == x263003)) else (if x263001=2 then (some (decide (x5 ≥ x263003))) else (some (decide (x5≤x263003))))) else (if x263001=1 then (some (x6.toList == x263002.toList)) else (if x263001=4 then ((rf48_has.f k x6 x263002).bind fun t265=>(some t265)) else (if (x6.size:Int) ≥ (x263002.size:Int) then (if 0≤(x263002.size:Int) then (if (x263002.size:Int)≤(x6.size:Int) then (some ((x6.extract 0 ((x263002.size:Int):Int).toNat).toList == x263002.toList)) else (none)) else (none)) else (some false)))))
end
def rf48_holds.f (k:Nat) (a0_0:Int) (a0_1:Int) (a0_2:ByteArray) (a0_3:Int) (a1_0:Int) (a1_1:Int) (a1_2:ByteArray) (a1_3:ByteArray):Option (Bool):=if a0_0=4 then (rf48_holds.j0 k a1_0 a1_2 a0_0 a0_1 a0_2 a0_3 a1_0 a1_1 a1_2 a1_3) else (rf48_holds.j0 k a1_1 a1_2 a0_0 a0_1 a0_2 a0_3 a1_0 a1_1 a1_2 a1_3)
theorem rf48_holds.calls (k:Nat) (a0_0 a0_1:Int) (a0_2:ByteArray) (a0_3 a1_0 a1_1:Int) (a1_2 a1_3:ByteArray) (r:Bool) (w:World) (h:rf48_holds.f k a0_0 a0_1 a0_2 a0_3 a1_0 a1_1 a1_2 a1_3=some r) :
  Calls Tryz.prog 29 #[.agg #[.int .i64 a0_0,.int .i64 a0_1,.string a0_2,.int .i64 a0_3],.agg #[.int .i64 a1_0,.int .i64 a1_1,.string a1_2,.string a1_3]] w fun e w'=>e=.returned (.bool r)∧Below w.heap.size w w':=by
 have hu48:=Tryz.underlying48;have hu32:=Tryz.underlying32;have HB:=sd (Below.refl w.heap.size w);have H:=h;clear h;unfold rf48_holds.f at H;have HC3:=sd H;clear H;go_enter Tryz.func29,Tryz.ntmps29
 go_upto_if 13 with (first | ((with_reducible refine gate_dst (N:=2) rfl ?_);(try (refine gate_guard (by rfl) ?_;dsimp only));refine bxA 2 #[.int .i64 a0_0,.int .i64 a0_1,.string a0_2,.int .i64 a0_3] 48 ?_;intro gb262 hg w4 hbox hb;have BK262:=sd (hbox);have GW262:=gem hg HB;have GE262:=GW262;replace HB:=hbm HB hb;clear hb hbox hg) | ((with_reducible refine gate_dst (N:=3) rfl ?_);(try (refine gate_guard (by rfl) ?_;dsimp only));refine bxA 3 #[.int .i64 a1_0,.int .i64 a1_1,.string a1_2,.string a1_3] 32 ?_;intro gb263 hg w5 hbox hb;have BK263:=sd (hbox);have GW263:=gem hg HB;have GE263:=GW263;have NB262_263:=nlm hg BK262;have NB263_262:=ngm hg BK262;replace BK262:=bkm BK262 hb;replace HB:=hbm HB hb;clear hb hbox hg;have hnb6:=NB263_262.out;have hnc6:=NB262_263.out;obtain ⟨_,_,_,_,_,_,_,_⟩:=bk4 BK263;obtain ⟨_,_,_,_,_,_,_,_⟩:=bk4 BK262))
 repeat (go_quiet (first | ((with_reducible refine gate_dst (N:=2) rfl ?_);(try (refine gate_guard (by rfl) ?_;dsimp only));refine bxA 2 #[.int .i64 a0_0,.int .i64 a0_1,.string a0_2,.int .i64 a0_3] 48 ?_;intro gb262 hg w4 hbox hb;have BK262:=sd (hbox);have GW262:=gem hg HB;have GE262:=GW262;replace HB:=hbm HB hb;clear hb hbox hg) | ((with_reducible refine gate_dst (N:=3) rfl ?_);(try (refine gate_guard (by rfl) ?_;dsimp only));refine bxA 3 #[.int .i64 a1_0,.int .i64 a1_1,.string a1_2,.string a1_3] 32 ?_;intro gb263 hg w5 hbox hb;have BK263:=sd (hbox);have GW263:=gem hg HB;have GE263:=GW263;have NB262_263:=nlm hg BK262;have NB263_262:=ngm hg BK262;replace BK262:=bkm BK262 hb;replace HB:=hbm HB hb;clear hb hbox hg;have hnb6:=NB263_262.out;have hnc6:=NB262_263.out;obtain ⟨_,_,_,_,_,_,_,_⟩:=bk4 BK263;obtain ⟨_,_,_,_,_,_,_,_⟩:=bk4 BK262));go_upto_if 13 with (first | ((with_reducible refine gate_dst (N:=2) rfl ?_);(try (refine gate_guard (by rfl) ?_;dsimp only));refine bxA 2 #[.int .i64 a0_0,.int .i64 a0_1,.string a0_2,.int .i64 a0_3] 48 ?_;intro gb262 hg w4 hbox hb;have BK262:=sd (hbox);have GW262:=gem hg HB;have GE262:=GW262;replace HB:=hbm HB hb;clear hb hbox hg) | ((with_reducible refine gate_dst (N:=3) rfl ?_);(try (refine gate_guard (by rfl) ?_;dsimp only));refine bxA 3 #[.int .i64 a1_0,.int .i64 a1_1,.string a1_2,.string a1_3] 32 ?_;intro gb263 hg w5 hbox hb;have BK263:=sd (hbox);have GW263:=gem hg HB;have GE263:=GW263;have NB262_263:=nlm hg BK262;have NB263_262:=ngm hg BK262;replace BK262:=bkm BK262 hb;replace HB:=hbm HB hb;clear hb hbox hg;have hnb6:=NB263_262.out;have hnc6:=NB262_263.out;obtain ⟨_,_,_,_,_,_,_,_⟩:=bk4 BK263;obtain ⟨_,_,_,_,_,_,_,_⟩:=bk4 BK262)))
 (try simp only [Act.put,List.setIfInBounds_toArray,List.set_cons_zero,List.set_cons_succ])
 go_cut [5] (fun v5 wc=>∃ (kq:Nat) (x5_2:Int),v5=.int .i64 x5_2∧Aside0 (rf48_holds.j0 kq x5_2 a1_2 a0_0 a0_1 a0_2 a0_3 a1_0 a1_1 a1_2 a1_3=some r)∧Aside0 (kq≤k)∧Aside0 (wc.heap[gb262]?=some (.cells #[.int .i64 a0_0,.int .i64 a0_1,.string a0_2,.int .i64 a0_3] 48 (0,0)))∧Aside0 (wc.heap[gb263]?=some (.cells #[.int .i64 a1_0,.int .i64 a1_1,.string a1_2,.string a1_3] 32 (0,0)))∧Aside0 (Below w.heap.size w wc))
 case first =>
  have H:=HC3.out;clear HC3;replace H:=ifI H;rcases H with ⟨c9,H⟩ | ⟨c9,H⟩
  ·obtain ⟨c9b0,c9b1⟩:=eqI c9;clear c9;(first | rw [c9b0] | (simp only [i64_w,i32_w];rw [c9b0]) | skip)
   have H':=sd H;clear H;have hnb10:=NB263_262.out;have hnc10:=NB262_263.out;obtain ⟨_,_,_,_,_,_,_,_⟩:=bk4 BK263;go_wp2
   repeat (go_quiet (fail);try go_wp2)
   go_meet
   case rel=>exact ⟨_,(a1_0),zq7,H',⟨by first | omega | exact Nat.le_refl _⟩,⟨zq45⟩,⟨zq46⟩,⟨zq47⟩⟩
  obtain ⟨c9b0,c9b1⟩:=neI c9;(first | rw [c9b0] | (simp only [i64_w,i32_w];rw [c9b0]) | skip)
  have H':=sd H;clear H;go_wp2
  repeat (go_quiet (fail);try go_wp2)
  go_meet
  case rel=>exact ⟨_,(a1_1),zq7,H',⟨by first | omega | exact Nat.le_refl _⟩,⟨zq45⟩,⟨zq46⟩,⟨zq47⟩⟩
 case rest =>
  clear HC3;try clear c1
  try clear c2
  try clear p2
  try clear c6
  try clear c9
  try clear c9b0
  try clear c9b1
  try clear c10
  try clear hcz11_0
  try clear hcz11_1
  try clear hcz11_2
  try clear hcz11_3
  try clear hcz7_0
  try clear hcz7_1
  try clear hcz7_2
  try clear hcz7_3
  try clear hcz8_0
  try clear hcz8_1
  try clear hcz8_2
  try clear hcz8_3
  try clear hfz11_0
  try clear hfz11_1
  try clear hfz11_2
  try clear hfz11_3
  try clear hfz7_0
  try clear hfz7_1
  try clear hfz7_2
  try clear hfz7_3
  try clear hfz8_0
  try clear hfz8_1
  try clear hfz8_2
  try clear hfz8_3
  obtain ⟨kq,x5_2,rfl,HA,HJ2,BK262,BK263,HB⟩:=hcut
  cases kq with
  | zero=>exact absurd HA.out (by simp [rf48_holds.j0])
  | succ kj2 =>
   have H:=HA.out;clear HA;simp only [rf48_holds.j0] at H
   have HC12:=sd H;clear H;have hnb13:=NB262_263.out;have hnc13:=NB263_262.out;obtain ⟨_,_,_,_,_,_,_,_⟩:=bk4 BK262;go_upto_if 18 with (fail)
   repeat (go_quiet (fail);go_upto_if 18 with (fail))
   go_cut [6] (fun v6 wc=>∃ (kq:Nat) (x6_11:ByteArray),v6=.string x6_11∧Aside0 (rf48_holds.j1 kq x5_2 x6_11 a0_0 a0_1 a0_2 a0_3=some r)∧Aside0 (kq≤kj2)∧Aside0 (wc.heap[gb262]?=some (.cells #[.int .i64 a0_0,.int .i64 a0_1,.string a0_2,.int .i64 a0_3] 48 (0,0)))∧Aside0 (wc.heap[gb263]?=some (.cells #[.int .i64 a1_0,.int .i64 a1_1,.string a1_2,.string a1_3] 32 (0,0)))∧Aside0 (Below w.heap.size w wc))
   case first =>
    have H:=HC12.out;clear HC12;replace H:=ifI H;rcases H with ⟨c15,H⟩ | ⟨c15,H⟩
    ·obtain ⟨c15b0,c15b1⟩:=eqI c15;clear c15;(first | rw [c15b0] | (simp only [i64_w,i32_w];rw [c15b0]) | skip)
     have H':=sd H;clear H;have hnb16:=NB263_262.out;have hnc16:=NB262_263.out;obtain ⟨_,_,_,_,_,_,_,_⟩:=bk4 BK263;go_wp2
     repeat (go_quiet (fail);try go_wp2)
     go_meet
     case rel=>exact ⟨_,(a1_3),zq7,H',⟨by have:=HJ2.out;first | omega | exact Nat.le_refl _⟩,⟨zq45⟩,⟨zq46⟩,⟨zq47⟩⟩
    obtain ⟨c15b0,c15b1⟩:=neI c15;(first | rw [c15b0] | (simp only [i64_w,i32_w];rw [c15b0]) | skip)
    have H':=sd H;clear H;go_wp2
    repeat (go_quiet (fail);try go_wp2)
    go_meet
    case rel=>exact ⟨_,(a1_2),zq7,H',⟨by have:=HJ2.out;first | omega | exact Nat.le_refl _⟩,⟨zq45⟩,⟨zq46⟩,⟨zq47⟩⟩
   case rest =>
    clear HC12;try clear c1
    try clear c2
    try clear p2
    try clear c6
    try clear c9
    try clear c9b0
    try clear c9b1
    try clear c10
    try clear c13
    try clear c15
    try clear c15b0
    try clear c15b1
    try clear c16
    try clear hcz11_0
    try clear hcz11_1
    try clear hcz11_2
    try clear hcz11_3
    try clear hcz14_0
    try clear hcz14_1
    try clear hcz14_2
    try clear hcz14_3
    try clear hcz17_0
    try clear hcz17_1
    try clear hcz17_2
    try clear hcz17_3
    try clear hcz7_0
    try clear hcz7_1
    try clear hcz7_2
    try clear hcz7_3
    try clear hcz8_0
    try clear hcz8_1
    try clear hcz8_2
    try clear hcz8_3
    try clear hfz11_0
    try clear hfz11_1
    try clear hfz11_2
    try clear hfz11_3
    try clear hfz14_0
    try clear hfz14_1
    try clear hfz14_2
    try clear hfz14_3
    try clear hfz17_0
    try clear hfz17_1
    try clear hfz17_2
    try clear hfz17_3
    try clear hfz7_0
    try clear hfz7_1
    try clear hfz7_2
    try clear hfz7_3
    try clear hfz8_0
    try clear hfz8_1
    try clear hfz8_2
    try clear hfz8_3
    try clear p2
    obtain ⟨kq,x6_11,rfl,HA,HJ11,BK262,BK263,HB⟩:=hcut
    cases kq with
    | zero=>exact absurd HA.out (by simp [rf48_holds.j1])
    | succ kj11 =>
     have H:=HA.out;clear HA;simp only [rf48_holds.j1] at H
     replace H:=bdI H;obtain ⟨t264,A18,H⟩:=H;(try dsimp only at H)
     by_cases c19:t264=true
     ·subst c19;rw [if_pos rfl] at H;replace H:=ifI H;rcases H with ⟨c20,H⟩ | ⟨c20,H⟩
      ·obtain ⟨c20b0,c20b1⟩:=eqI c20;clear c20;obtain rfl:=Option.some.inj H;have hnb21:=NB262_263.out;have hnc21:=NB263_262.out;obtain ⟨_,_,_,_,_,_,_,_⟩:=bk4 BK262;go_wp2_with (first | (go_at_call 35;(with_reducible refine (rf48_number.calls a0_0 true _ A18.out).mono ?_);rintro e w' ⟨rfl,⟨nd,rfl⟩⟩;(try first | exact ⟨rfl,_,World.drewN_drewN _ _ _⟩ | exact ⟨rfl,_,Eq.trans (World.drewN_drewN _ _ _) (congrArg (World.drewN _) (Nat.add_assoc _ _ _))⟩)))
       repeat (go_quiet (first | (go_at_call 35;(with_reducible refine (rf48_number.calls a0_0 true _ A18.out).mono ?_);rintro e w' ⟨rfl,⟨nd,rfl⟩⟩;(try first | exact ⟨rfl,_,World.drewN_drewN _ _ _⟩ | exact ⟨rfl,_,Eq.trans (World.drewN_drewN _ _ _) (congrArg (World.drewN _) (Nat.add_assoc _ _ _))⟩)));try go_wp2_with (first | (go_at_call 35;(with_reducible refine (rf48_number.calls a0_0 true _ A18.out).mono ?_);rintro e w' ⟨rfl,⟨nd,rfl⟩⟩;(try first | exact ⟨rfl,_,World.drewN_drewN _ _ _⟩ | exact ⟨rfl,_,Eq.trans (World.drewN_drewN _ _ _) (congrArg (World.drewN _) (Nat.add_assoc _ _ _))⟩))))
       go_ret
       exact ⟨zq4,zq47⟩
      obtain ⟨c20b0,c20b1⟩:=neI c20;replace H:=ifI H;rcases H with ⟨c23,H⟩ | ⟨c23,H⟩
      ·obtain ⟨c23b0,c23b1⟩:=eqI c23;clear c23;obtain rfl:=Option.some.inj H;have hnb24:=NB262_263.out;have hnc24:=NB263_262.out;obtain ⟨_,_,_,_,_,_,_,_⟩:=bk4 BK262;go_wp2_with (first | (go_at_call 35;(with_reducible refine (rf48_number.calls a0_0 true _ A18.out).mono ?_);rintro e w' ⟨rfl,⟨nd,rfl⟩⟩;(try first | exact ⟨rfl,_,World.drewN_drewN _ _ _⟩ | exact ⟨rfl,_,Eq.trans (World.drewN_drewN _ _ _) (congrArg (World.drewN _) (Nat.add_assoc _ _ _))⟩)))
       repeat (go_quiet (first | (go_at_call 35;(with_reducible refine (rf48_number.calls a0_0 true _ A18.out).mono ?_);rintro e w' ⟨rfl,⟨nd,rfl⟩⟩;(try first | exact ⟨rfl,_,World.drewN_drewN _ _ _⟩ | exact ⟨rfl,_,Eq.trans (World.drewN_drewN _ _ _) (congrArg (World.drewN _) (Nat.add_assoc _ _ _))⟩)));try go_wp2_with (first | (go_at_call 35;(with_reducible refine (rf48_number.calls a0_0 true _ A18.out).mono ?_);rintro e w' ⟨rfl,⟨nd,rfl⟩⟩;(try first | exact ⟨rfl,_,World.drewN_drewN _ _ _⟩ | exact ⟨rfl,_,Eq.trans (World.drewN_drewN _ _ _) (congrArg (World.drewN _) (Nat.add_assoc _ _ _))⟩))))
       go_ret
       exact ⟨zq4,zq47⟩
      obtain ⟨c23b0,c23b1⟩:=neI c23;obtain rfl:=Option.some.inj H;have hnb26:=NB262_263.out;have hnc26:=NB263_262.out;obtain ⟨_,_,_,_,_,_,_,_⟩:=bk4 BK262;go_wp2_with (first | (go_at_call 35;(with_reducible refine (rf48_number.calls a0_0 true _ A18.out).mono ?_);rintro e w' ⟨rfl,⟨nd,rfl⟩⟩;(try first | exact ⟨rfl,_,World.drewN_drewN _ _ _⟩ | exact ⟨rfl,_,Eq.trans (World.drewN_drewN _ _ _) (congrArg (World.drewN _) (Nat.add_assoc _ _ _))⟩)))
      repeat (go_quiet (first | (go_at_call 35;(with_reducible refine (rf48_number.calls a0_0 true _ A18.out).mono ?_);rintro e w' ⟨rfl,⟨nd,rfl⟩⟩;(try first | exact ⟨rfl,_,World.drewN_drewN _ _ _⟩ | exact ⟨rfl,_,Eq.trans (World.drewN_drewN _ _ _) (congrArg (World.drewN _) (Nat.add_assoc _ _ _))⟩)));try go_wp2_with (first | (go_at_call 35;(with_reducible refine (rf48_number.calls a0_0 true _ A18.out).mono ?_);rintro e w' ⟨rfl,⟨nd,rfl⟩⟩;(try first | exact ⟨rfl,_,World.drewN_drewN _ _ _⟩ | exact ⟨rfl,_,Eq.trans (World.drewN_drewN _ _ _) (congrArg (World.drewN _) (Nat.add_assoc _ _ _))⟩))))
      go_ret
      exact ⟨zq4,zq47⟩
     replace c19:=Bool.eq_false_iff.mpr c19;subst c19;rw [if_neg Bool.false_ne_true] at H;replace H:=ifI H;rcases H with ⟨c28,H⟩ | ⟨c28,H⟩
     ·obtain ⟨c28b0,c28b1⟩:=eqI c28;clear c28;obtain rfl:=Option.some.inj H;have hnb29:=NB262_263.out;have hnc29:=NB263_262.out;obtain ⟨_,_,_,_,_,_,_,_⟩:=bk4 BK262;go_wp2_with (first | (go_at_call 35;(with_reducible refine (rf48_number.calls a0_0 false _ A18.out).mono ?_);rintro e w' ⟨rfl,⟨nd,rfl⟩⟩;(try first | exact ⟨rfl,_,World.drewN_drewN _ _ _⟩ | exact ⟨rfl,_,Eq.trans (World.drewN_drewN _ _ _) (congrArg (World.drewN _) (Nat.add_assoc _ _ _))⟩)))
      repeat (go_quiet (first | (go_at_call 35;(with_reducible refine (rf48_number.calls a0_0 false _ A18.out).mono ?_);rintro e w' ⟨rfl,⟨nd,rfl⟩⟩;(try first | exact ⟨rfl,_,World.drewN_drewN _ _ _⟩ | exact ⟨rfl,_,Eq.trans (World.drewN_drewN _ _ _) (congrArg (World.drewN _) (Nat.add_assoc _ _ _))⟩)));try go_wp2_with (first | (go_at_call 35;(with_reducible refine (rf48_number.calls a0_0 false _ A18.out).mono ?_);rintro e w' ⟨rfl,⟨nd,rfl⟩⟩;(try first | exact ⟨rfl,_,World.drewN_drewN _ _ _⟩ | exact ⟨rfl,_,Eq.trans (World.drewN_drewN _ _ _) (congrArg (World.drewN _) (Nat.add_assoc _ _ _))⟩))))
      go_ret
      exact ⟨zq4,zq47⟩
     obtain ⟨c28b0,c28b1⟩:=neI c28;replace H:=ifI H;rcases H with ⟨c31,H⟩ | ⟨c31,H⟩
     ·obtain ⟨c31b0,c31b1⟩:=eqI c31;clear c31;replace H:=bdI H;obtain ⟨t265,A32,H⟩:=H;(try dsimp only at H)
      obtain rfl:=Option.some.inj H;have hnb33:=NB262_263.out;have hnc33:=NB263_262.out;obtain ⟨_,_,_,_,_,_,_,_⟩:=bk4 BK262;go_wp2_with (first | (go_at_call 35;(with_reducible refine (rf48_number.calls a0_0 false _ A18.out).mono ?_);rintro e w' ⟨rfl,⟨nd,rfl⟩⟩;(try first | exact ⟨rfl,_,World.drewN_drewN _ _ _⟩ | exact ⟨rfl,_,Eq.trans (World.drewN_drewN _ _ _) (congrArg (World.drewN _) (Nat.add_assoc _ _ _))⟩)) | (go_at_call 70;(with_reducible refine (rf48_has.calls kj11 x6_11 a0_2 t265 _ A32.out).mono ?_);rintro e w' ⟨rfl,⟨nd,rfl⟩⟩;(try first | exact ⟨rfl,_,World.drewN_drewN _ _ _⟩ | exact ⟨rfl,_,Eq.trans (World.drewN_drewN _ _ _) (congrArg (World.drewN _) (Nat.add_assoc _ _ _))⟩)))
      repeat (go_quiet (first | (go_at_call 35;(with_reducible refine (rf48_number.calls a0_0 false _ A18.out).mono ?_);rintro e w' ⟨rfl,⟨nd,rfl⟩⟩;(try first | exact ⟨rfl,_,World.drewN_drewN _ _ _⟩ | exact ⟨rfl,_,Eq.trans (World.drewN_drewN _ _ _) (congrArg (World.drewN _) (Nat.add_assoc _ _ _))⟩)) | (go_at_call 70;(with_reducible refine (rf48_has.calls kj11 x6_11 a0_2 t265 _ A32.out).mono ?_);rintro e w' ⟨rfl,⟨nd,rfl⟩⟩;(try first | exact ⟨rfl,_,World.drewN_drewN _ _ _⟩ | exact ⟨rfl,_,Eq.trans (World.drewN_drewN _ _ _) (congrArg (World.drewN _) (Nat.add_assoc _ _ _))⟩)));try go_wp2_with (first | (go_at_call 35;(with_reducible refine (rf48_number.calls a0_0 false _ A18.out).mono ?_);rintro e w' ⟨rfl,⟨nd,rfl⟩⟩;(try first | exact ⟨rfl,_,World.drewN_drewN _ _ _⟩ | exact ⟨rfl,_,Eq.trans (World.drewN_drewN _ _ _) (congrArg (World.drewN _) (Nat.add_assoc _ _ _))⟩)) | (go_at_call 70;(with_reducible refine (rf48_has.calls kj11 x6_11 a0_2 t265 _ A32.out).mono ?_);rintro e w' ⟨rfl,⟨nd,rfl⟩⟩;(try first | exact ⟨rfl,_,World.drewN_drewN _ _ _⟩ | exact ⟨rfl,_,Eq.trans (World.drewN_drewN _ _ _) (congrArg (World.drewN _) (Nat.add_assoc _ _ _))⟩))))
      go_ret
      exact ⟨zq4,zq47⟩
     obtain ⟨c31b0,c31b1⟩:=neI c31;replace H:=ifI H;rcases H with ⟨c35,H⟩ | ⟨c35,H⟩
     ·have c35b0:decide ((a0_2.size:Int)≤(x6_11.size:Int))=true:=decide_eq_true c35;have c35b1:decide (a0_2.size≤x6_11.size)=true:=decide_eq_true (Int.ofNat_le.mp c35);clear c35;replace H:=ifI H;rcases H with ⟨c36,H⟩ | ⟨c36,H⟩
      ·have c36b0:=eq_true c36;have c36b1:decide (0≤(a0_2.size:Int))=true:=decide_eq_true c36;clear c36;replace H:=ifI H;rcases H with ⟨c37,H⟩ | ⟨c37,H⟩
       ·have c37b0:=eq_true c37;have c37b1:decide ((a0_2.size:Int)≤(x6_11.size:Int))=true:=decide_eq_true c37;clear c37;obtain rfl:=Option.some.inj H;have hnb38:=NB262_263.out;have hnc38:=NB263_262.out;obtain ⟨_,_,_,_,_,_,_,_⟩:=bk4 BK262;go_wp2_with (first | (go_at_call 35;(with_reducible refine (rf48_number.calls a0_0 false _ A18.out).mono ?_);rintro e w' ⟨rfl,⟨nd,rfl⟩⟩;(try first | exact ⟨rfl,_,World.drewN_drewN _ _ _⟩ | exact ⟨rfl,_,Eq.trans (World.drewN_drewN _ _ _) (congrArg (World.drewN _) (Nat.add_assoc _ _ _))⟩)))
        repeat (go_quiet (first | (go_at_call 35;(with_reducible refine (rf48_number.calls a0_0 false _ A18.out).mono ?_);rintro e w' ⟨rfl,⟨nd,rfl⟩⟩;(try first | exact ⟨rfl,_,World.drewN_drewN _ _ _⟩ | exact ⟨rfl,_,Eq.trans (World.drewN_drewN _ _ _) (congrArg (World.drewN _) (Nat.add_assoc _ _ _))⟩)));try go_wp2_with (first | (go_at_call 35;(with_reducible refine (rf48_number.calls a0_0 false _ A18.out).mono ?_);rintro e w' ⟨rfl,⟨nd,rfl⟩⟩;(try first | exact ⟨rfl,_,World.drewN_drewN _ _ _⟩ | exact ⟨rfl,_,Eq.trans (World.drewN_drewN _ _ _) (congrArg (World.drewN _) (Nat.add_assoc _ _ _))⟩))))
        go_ret
        exact ⟨zq4,zq47⟩
       exact absurd H (by simp)
      exact absurd H (by simp)
     have c35b0:decide ((a0_2.size:Int)≤(x6_11.size:Int))=false:=decide_eq_false c35;have c35b1:decide (a0_2.size≤x6_11.size)=false:=decide_eq_false (fun h=>c35 (Int.ofNat_le.mpr h));clear c35;obtain rfl:=Option.some.inj H;have hnb40:=NB262_263.out;have hnc40:=NB263_262.out;obtain ⟨_,_,_,_,_,_,_,_⟩:=bk4 BK262;go_wp2_with (first | (go_at_call 35;(with_reducible refine (rf48_number.calls a0_0 false _ A18.out).mono ?_);rintro e w' ⟨rfl,⟨nd,rfl⟩⟩;(try first | exact ⟨rfl,_,World.drewN_drewN _ _ _⟩ | exact ⟨rfl,_,Eq.trans (World.drewN_drewN _ _ _) (congrArg (World.drewN _) (Nat.add_assoc _ _ _))⟩)))
     repeat (go_quiet (first | (go_at_call 35;(with_reducible refine (rf48_number.calls a0_0 false _ A18.out).mono ?_);rintro e w' ⟨rfl,⟨nd,rfl⟩⟩;(try first | exact ⟨rfl,_,World.drewN_drewN _ _ _⟩ | exact ⟨rfl,_,Eq.trans (World.drewN_drewN _ _ _) (congrArg (World.drewN _) (Nat.add_assoc _ _ _))⟩)));try go_wp2_with (first | (go_at_call 35;(with_reducible refine (rf48_number.calls a0_0 false _ A18.out).mono ?_);rintro e w' ⟨rfl,⟨nd,rfl⟩⟩;(try first | exact ⟨rfl,_,World.drewN_drewN _ _ _⟩ | exact ⟨rfl,_,Eq.trans (World.drewN_drewN _ _ _) (congrArg (World.drewN _) (Nat.add_assoc _ _ _))⟩))))
     go_ret
     exact ⟨zq4,zq47⟩
def rf48_Holds.l0:Nat→Int→ByteArray→List (S48)→ByteArray→ByteArray→List (S50)→Int→Int→ByteArray→ByteArray→Option (Bool)
 | 0,_,_,_,_,_,_,_,_,_,_=>none
 | k+1,x5,x267000,x267001,x267002,x267003,x267004,x268000,x268001,x268002,x268003=>if x5 < (x267001.length:Int) then (if 0≤x5 then ((rf48_holds.f k ((rd_T48 x267001 x5).f0) ((rd_T48 x267001 x5).f1) ((rd_T48 x267001 x5).f2) ((rd_T48 x267001 x5).f3) x268000 x268001 x268002 x268003).bind fun t270=>(if t270=true then (rf48_Holds.l0 k (wrap64 (x5+1)) x267000 x267001 x267002 x267003 x267004 x268000 x268001 x268002 x268003) else (some false))) else (none)) else (some true)
def rf48_Holds.f (k:Nat) (a0_0:ByteArray) (l0_1:List (S48)) (a0_2:ByteArray) (a0_3:ByteArray) (l0_4:List (S50)) (a1_0:Int) (a1_1:Int) (a1_2:ByteArray) (a1_3:ByteArray):Option (Bool):=(rf48_Check.f k a0_0 l0_1 a0_2 a0_3 l0_4).bind fun t268=>(if t268=0 then (rf48_Holds.l0 k 0 a0_0 l0_1 a0_2 a0_3 l0_4 a1_0 a1_1 a1_2 a1_3) else (some false))
theorem rf48_Holds.calls (k:Nat) (a0_0:ByteArray) (A0_1:Option Addr) (c0_1:Nat) (l0_1:List (S48)) (a0_2 a0_3:ByteArray) (A0_4:Option Addr) (c0_4:Nat) (l0_4:List (S50)) (a1_0 a1_1:Int) (a1_2 a1_3:ByteArray) (r:Bool) (w:World) (hr0_1:Kd.C k48 w A0_1 l0_1.length l0_1) (hc0_1:l0_1.length≤c0_1) (hr0_4:Kd.C k50 w A0_4 l0_4.length l0_4) (hc0_4:l0_4.length≤c0_4) (h:rf48_Holds.f k a0_0 l0_1 a0_2 a0_3 l0_4 a1_0 a1_1 a1_2 a1_3=some r) :
  Calls Tryz.prog 13 #[.agg #[.string a0_0,.slice A0_1 l0_1.length c0_1,.string a0_2,.string a0_3,.slice A0_4 l0_4.length c0_4],.agg #[.int .i64 a1_0,.int .i64 a1_1,.string a1_2,.string a1_3]] w fun e w'=>e=.returned (.bool r)∧Below w.heap.size w w':=by
 have hu25:=Tryz.underlying25;have hu32:=Tryz.underlying32;have hu48:=Tryz.underlying48;have HR0_1:=sd hr0_1;have HC0_1:=sd hc0_1;clear hr0_1 hc0_1;have HR0_4:=sd hr0_4;have HC0_4:=sd hc0_4;clear hr0_4 hc0_4;have HB:=sd (Below.refl w.heap.size w);have H:=h;clear h;unfold rf48_Holds.f at H;replace H:=bdI H;obtain ⟨t268,A3,H⟩:=H;(try dsimp only at H)
 replace H:=ifI H;rcases H with ⟨c4,H⟩ | ⟨c4,H⟩
 ·obtain ⟨c4b0,c4b1⟩:=eqI c4;clear c4;have H':=sd H;clear H;go_enter Tryz.func13,Tryz.ntmps13
  go_wp2_with (first | ((with_reducible refine gate_dst (N:=2) rfl ?_);refine bxA 2 #[.string a0_0,.slice A0_1 l0_1.length c0_1,.string a0_2,.string a0_3,.slice A0_4 l0_4.length c0_4] 25 ?_;intro gb266 hg w5 hbox hb;have BK266:=sd (hbox);have GW266:=gem hg HB;have GE266:=GW266;replace HB:=hbm HB hb;clear hb hbox hg) | ((with_reducible refine gate_dst (N:=3) rfl ?_);refine bxA 3 #[.int .i64 a1_0,.int .i64 a1_1,.string a1_2,.string a1_3] 32 ?_;intro gb267 hg w6 hbox hb;have BK267:=sd (hbox);have GW267:=gem hg HB;have GE267:=GW267;have NB266_267:=nlm hg BK266;have NB267_266:=ngm hg BK266;replace BK266:=bkm BK266 hb;replace HB:=hbm HB hb;clear hb hbox hg;have hnb7:=NB266_267.out;have hnc7:=NB267_266.out;obtain ⟨_,_,_,_,_,_,_,_,_,_⟩:=bk5 BK266) | ((with_reducible refine gate_callee (f:=10) rfl ?_);refine gL 7 Tryz.func10 #[.agg #[.string a0_0,.slice A0_1 l0_1.length c0_1,.string a0_2,.string a0_3,.slice A0_4 l0_4.length c0_4]] ?_;(with_reducible refine (rf48_Check.calls k a0_0 _ _ l0_1 a0_2 a0_3 _ _ l0_4 t268 _ ?side1 ?side2 ?side3 ?side4 A3.out).mono ?_);(case side1=>exact zq48);(case side2=>exact HC0_1.out);(case side3=>exact zq40);(case side4=>exact HC0_4.out);rintro e w9 ⟨rfl,hb⟩;refine ⟨_,rfl,?_⟩;replace BK266:=bkm BK266 hb;replace BK267:=bkm BK267 hb;replace HB:=hbm HB hb;clear hb))
  go_loopg [5] k (fun kq v5 w'=>∃ (x5_1:Int),v5=.int .i64 x5_1∧Aside0 (rf48_Holds.l0 kq x5_1 a0_0 l0_1 a0_2 a0_3 l0_4 a1_0 a1_1 a1_2 a1_3=some r)∧Aside0 (kq≤k)∧Aside0 (w'.heap[gb266]?=some (.cells #[.string a0_0,(.slice A0_1 l0_1.length c0_1),.string a0_2,.string a0_3,(.slice A0_4 l0_4.length c0_4)] 25 (0,0)))∧Aside0 (w'.heap[gb267]?=some (.cells #[.int .i64 a1_0,.int .i64 a1_1,.string a1_2,.string a1_3] 32 (0,0)))∧Aside0 (Below w.heap.size w w'))
  case atStart=>exact ⟨(0),zq7,H',⟨Nat.le_refl _⟩,⟨by (with_reducible repeat (first | refine blk_drewN ?_ _ | refine blk_drew ?_ | refine blk_alloc ?_ _));exact BK266.out⟩,⟨by (with_reducible repeat (first | refine blk_drewN ?_ _ | refine blk_drew ?_ | refine blk_alloc ?_ _));exact BK267.out⟩,⟨zq49⟩⟩
  case round =>
   clear H';try clear c1
   try clear p2
   try clear c4
   try clear c4b0
   try clear c4b1
   try clear c7
   try clear hcz8_0
   try clear hcz8_1
   try clear hcz8_2
   try clear hcz8_3
   try clear hcz8_4
   try clear hfz8_0
   try clear hfz8_1
   try clear hfz8_2
   try clear hfz8_3
   try clear hfz8_4
   obtain ⟨x5_1,rfl,HA,HK1,BK266,BK267,HB⟩:=hrel
   cases gk with
   | zero=>exact absurd HA.out (by simp [rf48_Holds.l0])
   | succ k1 =>
    have H:=HA.out;clear HA;simp only [rf48_Holds.l0] at H
    replace H:=ifI H;rcases H with ⟨c10,H⟩ | ⟨c10,H⟩
    ·have c10b0:decide (x5_1 < (l0_1.length:Int))=true:=decide_eq_true c10;clear c10;replace H:=ifI H;rcases H with ⟨c11,H⟩ | ⟨c11,H⟩
     ·have c11b0:decide (0≤x5_1)=true:=decide_eq_true c11;clear c11;replace H:=bdI H;obtain ⟨t270,A12,H⟩:=H;(try dsimp only at H)
      by_cases c13:t270=true
      ·subst c13;rw [if_pos rfl] at H;have H':=sd H;clear H;have hnb14:=NB266_267.out;have hnc14:=NB267_266.out;obtain ⟨_,_,_,_,_,_,_,_,_,_⟩:=bk5 BK266;try go_wp2
       replace BK266:=sd (blk_drew BK266.out);replace BK267:=sd (blk_drew BK267.out);replace HB:=sd (below_drew1 HB.out);have p269:0≤(x5_1:Int):=od;have q269:x5_1 < (l0_1.length:Int):=od;obtain ⟨ad269,e269,hx269_0,hx269_1,hx269_2,hx269_3⟩:=at_T48 HR0_1.out x5_1 p269 q269;have hw269_3:=hx269_3;have hw269_2:=hx269_2;have hw269_1:=hx269_1;have hw269_0:=hx269_0
       cases e269
       replace hx269_0:=(HB.out.cell (World.block_lt_of_cell? w _ hx269_0)).trans hx269_0;replace hx269_1:=(HB.out.cell (World.block_lt_of_cell? w _ hx269_1)).trans hx269_1;replace hx269_2:=(HB.out.cell (World.block_lt_of_cell? w _ hx269_2)).trans hx269_2;replace hx269_3:=(HB.out.cell (World.block_lt_of_cell? w _ hx269_3)).trans hx269_3;replace p269:=eq_true p269;replace q269:=eq_true q269;refine start_ (n:=8) (S:=fun w'=>w'.cell? ⟨gb266,0,none⟩=some (.string a0_0)∧w'.cell? ⟨gb266,1,none⟩=some (.slice (some ad269) l0_1.length c0_1)∧w'.cell? ⟨gb266,2,none⟩=some (.string a0_2)∧w'.cell? ⟨gb266,3,none⟩=some (.string a0_3)∧w'.cell? ⟨gb266,4,none⟩=some (.slice A0_4 l0_4.length c0_4)∧w'.cell? ⟨gb267,0,none⟩=some (.int .i64 a1_0)∧w'.cell? ⟨gb267,1,none⟩=some (.int .i64 a1_1)∧w'.cell? ⟨gb267,2,none⟩=some (.string a1_2)∧w'.cell? ⟨gb267,3,none⟩=some (.string a1_3)∧w'.cell? (ad269.add ((x5_1).toNat * 4))=some (.int .i64 ((rd_T48 l0_1 x5_1).f0))∧w'.cell? ⟨(ad269.add ((x5_1).toNat * 4)).block,(ad269.add ((x5_1).toNat * 4)).off+1,none⟩=some (.int .i64 ((rd_T48 l0_1 x5_1).f1))∧w'.cell? ⟨(ad269.add ((x5_1).toNat * 4)).block,(ad269.add ((x5_1).toNat * 4)).off+2,none⟩=some (.string ((rd_T48 l0_1 x5_1).f2))∧w'.cell? ⟨(ad269.add ((x5_1).toNat * 4)).block,(ad269.add ((x5_1).toNat * 4)).off+3,none⟩=some (.int .i64 ((rd_T48 l0_1 x5_1).f3))) (ds:=[]) #[false,false,false,false,false,false,false,false] (by kernel_rfl) rfl rfl ⟨(blk_cell BK266.out 0).trans rfl,(blk_cell BK266.out 1).trans rfl,(blk_cell BK266.out 2).trans rfl,(blk_cell BK266.out 3).trans rfl,(blk_cell BK266.out 4).trans rfl,(blk_cell BK267.out 0).trans rfl,(blk_cell BK267.out 1).trans rfl,(blk_cell BK267.out 2).trans rfl,(blk_cell BK267.out 3).trans rfl,((HB.out.cell (World.block_lt_of_cell? w _ hw269_0)).trans hw269_0),((HB.out.cell (World.block_lt_of_cell? w _ hw269_1)).trans hw269_1),((HB.out.cell (World.block_lt_of_cell? w _ hw269_2)).trans hw269_2),((HB.out.cell (World.block_lt_of_cell? w _ hw269_3)).trans hw269_3)⟩ (fun hHeld=>?_);refine with_tabW rf48_Holds.tab6 rf48_Holds.bits6 (fun HT_ HW_=>?_);generalize wr.drew=w16 at BK266 BK267 HB hx269_0 hx269_1 hx269_2 hx269_3 hHeld ⊢;refine pA 0 16 HT_.out ?_;refine pA 2 18 HT_.out ?_;refine tA 1 17 HT_.out HW_.out hHeld ?_;refine pA 3 19 HT_.out ?_;refine tA 4 20 HT_.out HW_.out hHeld ?_;refine tA 5 21 HT_.out HW_.out hHeld ?_;refine one_ (i:=6) (N:=some 22) #[true,true,true,true,true,true,true,false] rfl rfl (one_of HT_.out (by kernel_rfl)) (by decide) (fun K hK=>?_);refine goes_ Tryz.func29 (by kernel_rfl) rfl #[.agg #[.int .i64 ((rd_T48 l0_1 x5_1).f0),.int .i64 ((rd_T48 l0_1 x5_1).f1),.string ((rd_T48 l0_1 x5_1).f2),.int .i64 ((rd_T48 l0_1 x5_1).f3)],.agg #[.int .i64 a1_0,.int .i64 a1_1,.string a1_2,.string a1_3]] (by rfl) rfl rfl zq34 ?_;with_reducible refine (rf48_holds.calls k1 ((rd_T48 l0_1 x5_1).f0) ((rd_T48 l0_1 x5_1).f1) ((rd_T48 l0_1 x5_1).f2) ((rd_T48 l0_1 x5_1).f3) a1_0 a1_1 a1_2 a1_3 true _ A12.out).mono ?_
       rintro e w17 ⟨rfl,hb⟩;refine ⟨_,rfl,?_⟩;replace BK266:=bkm BK266 hb;replace BK267:=bkm BK267 hb;replace HB:=hbm HB hb;clear hb;refine hK.out _ _ ⟨(blk_cell BK266.out 0).trans rfl,(blk_cell BK266.out 1).trans rfl,(blk_cell BK266.out 2).trans rfl,(blk_cell BK266.out 3).trans rfl,(blk_cell BK266.out 4).trans rfl,(blk_cell BK267.out 0).trans rfl,(blk_cell BK267.out 1).trans rfl,(blk_cell BK267.out 2).trans rfl,(blk_cell BK267.out 3).trans rfl,((HB.out.cell (World.block_lt_of_cell? w _ hw269_0)).trans hw269_0),((HB.out.cell (World.block_lt_of_cell? w _ hw269_1)).trans hw269_1),((HB.out.cell (World.block_lt_of_cell? w _ hw269_2)).trans hw269_2),((HB.out.cell (World.block_lt_of_cell? w _ hw269_3)).trans hw269_3)⟩ (fun hHeld=>?_);clear hK K;refine nA 22 ?_;refine pA 7 23 HT_.out ?_;refine done_ (done_of HT_.out (by kernel_rfl)) ?_;try go_wp2
       go_roundg k1
       case measure=>have:=HK1.out;omega
       case rel=>exact ⟨(wrap64 (x5_1+1)),zq7,H',⟨by have:=HK1.out;omega⟩,⟨by (with_reducible repeat (first | refine blk_drewN ?_ _ | refine blk_drew ?_ | refine blk_alloc ?_ _));exact BK266.out⟩,⟨by (with_reducible repeat (first | refine blk_drewN ?_ _ | refine blk_drew ?_ | refine blk_alloc ?_ _));exact BK267.out⟩,⟨zq49⟩⟩
      replace c13:=Bool.eq_false_iff.mpr c13;subst c13;rw [if_neg Bool.false_ne_true] at H;obtain rfl:=Option.some.inj H;have hnb18:=NB266_267.out;have hnc18:=NB267_266.out;obtain ⟨_,_,_,_,_,_,_,_,_,_⟩:=bk5 BK266;try go_wp2
      replace BK266:=sd (blk_drew BK266.out);replace BK267:=sd (blk_drew BK267.out);replace HB:=sd (below_drew1 HB.out);have p269:0≤(x5_1:Int):=od;have q269:x5_1 < (l0_1.length:Int):=od;obtain ⟨ad269,e269,hx269_0,hx269_1,hx269_2,hx269_3⟩:=at_T48 HR0_1.out x5_1 p269 q269;have hw269_3:=hx269_3;have hw269_2:=hx269_2;have hw269_1:=hx269_1;have hw269_0:=hx269_0
      cases e269
      replace hx269_0:=(HB.out.cell (World.block_lt_of_cell? w _ hx269_0)).trans hx269_0;replace hx269_1:=(HB.out.cell (World.block_lt_of_cell? w _ hx269_1)).trans hx269_1;replace hx269_2:=(HB.out.cell (World.block_lt_of_cell? w _ hx269_2)).trans hx269_2;replace hx269_3:=(HB.out.cell (World.block_lt_of_cell? w _ hx269_3)).trans hx269_3;replace p269:=eq_true p269;replace q269:=eq_true q269;refine start_ (n:=8) (S:=fun w'=>w'.cell? ⟨gb266,0,none⟩=some (.string a0_0)∧w'.cell? ⟨gb266,1,none⟩=some (.slice (some ad269) l0_1.length c0_1)∧w'.cell? ⟨gb266,2,none⟩=some (.string a0_2)∧w'.cell? ⟨gb266,3,none⟩=some (.string a0_3)∧w'.cell? ⟨gb266,4,none⟩=some (.slice A0_4 l0_4.length c0_4)∧w'.cell? ⟨gb267,0,none⟩=some (.int .i64 a1_0)∧w'.cell? ⟨gb267,1,none⟩=some (.int .i64 a1_1)∧w'.cell? ⟨gb267,2,none⟩=some (.string a1_2)∧w'.cell? ⟨gb267,3,none⟩=some (.string a1_3)∧w'.cell? (ad269.add ((x5_1).toNat * 4))=some (.int .i64 ((rd_T48 l0_1 x5_1).f0))∧w'.cell? ⟨(ad269.add ((x5_1).toNat * 4)).block,(ad269.add ((x5_1).toNat * 4)).off+1,none⟩=some (.int .i64 ((rd_T48 l0_1 x5_1).f1))∧w'.cell? ⟨(ad269.add ((x5_1).toNat * 4)).block,(ad269.add ((x5_1).toNat * 4)).off+2,none⟩=some (.string ((rd_T48 l0_1 x5_1).f2))∧w'.cell? ⟨(ad269.add ((x5_1).toNat * 4)).block,(ad269.add ((x5_1).toNat * 4)).off+3,none⟩=some (.int .i64 ((rd_T48 l0_1 x5_1).f3))) (ds:=[]) #[false,false,false,false,false,false,false,false] (by kernel_rfl) rfl rfl ⟨(blk_cell BK266.out 0).trans rfl,(blk_cell BK266.out 1).trans rfl,(blk_cell BK266.out 2).trans rfl,(blk_cell BK266.out 3).trans rfl,(blk_cell BK266.out 4).trans rfl,(blk_cell BK267.out 0).trans rfl,(blk_cell BK267.out 1).trans rfl,(blk_cell BK267.out 2).trans rfl,(blk_cell BK267.out 3).trans rfl,((HB.out.cell (World.block_lt_of_cell? w _ hw269_0)).trans hw269_0),((HB.out.cell (World.block_lt_of_cell? w _ hw269_1)).trans hw269_1),((HB.out.cell (World.block_lt_of_cell? w _ hw269_2)).trans hw269_2),((HB.out.cell (World.block_lt_of_cell? w _ hw269_3)).trans hw269_3)⟩ (fun hHeld=>?_);refine with_tabW rf48_Holds.tab6 rf48_Holds.bits6 (fun HT_ HW_=>?_);generalize wr.drew=w20 at BK266 BK267 HB hx269_0 hx269_1 hx269_2 hx269_3 hHeld ⊢;refine pA 0 16 HT_.out ?_;refine pA 2 18 HT_.out ?_;refine tA 1 17 HT_.out HW_.out hHeld ?_;refine pA 3 19 HT_.out ?_;refine tA 4 20 HT_.out HW_.out hHeld ?_;refine tA 5 21 HT_.out HW_.out hHeld ?_;refine one_ (i:=6) (N:=some 22) #[true,true,true,true,true,true,true,false] rfl rfl (one_of HT_.out (by kernel_rfl)) (by decide) (fun K hK=>?_);refine goes_ Tryz.func29 (by kernel_rfl) rfl #[.agg #[.int .i64 ((rd_T48 l0_1 x5_1).f0),.int .i64 ((rd_T48 l0_1 x5_1).f1),.string ((rd_T48 l0_1 x5_1).f2),.int .i64 ((rd_T48 l0_1 x5_1).f3)],.agg #[.int .i64 a1_0,.int .i64 a1_1,.string a1_2,.string a1_3]] (by rfl) rfl rfl zq34 ?_;with_reducible refine (rf48_holds.calls k1 ((rd_T48 l0_1 x5_1).f0) ((rd_T48 l0_1 x5_1).f1) ((rd_T48 l0_1 x5_1).f2) ((rd_T48 l0_1 x5_1).f3) a1_0 a1_1 a1_2 a1_3 false _ A12.out).mono ?_
      rintro e w21 ⟨rfl,hb⟩;refine ⟨_,rfl,?_⟩;replace BK266:=bkm BK266 hb;replace BK267:=bkm BK267 hb;replace HB:=hbm HB hb;clear hb;refine hK.out _ _ ⟨(blk_cell BK266.out 0).trans rfl,(blk_cell BK266.out 1).trans rfl,(blk_cell BK266.out 2).trans rfl,(blk_cell BK266.out 3).trans rfl,(blk_cell BK266.out 4).trans rfl,(blk_cell BK267.out 0).trans rfl,(blk_cell BK267.out 1).trans rfl,(blk_cell BK267.out 2).trans rfl,(blk_cell BK267.out 3).trans rfl,((HB.out.cell (World.block_lt_of_cell? w _ hw269_0)).trans hw269_0),((HB.out.cell (World.block_lt_of_cell? w _ hw269_1)).trans hw269_1),((HB.out.cell (World.block_lt_of_cell? w _ hw269_2)).trans hw269_2),((HB.out.cell (World.block_lt_of_cell? w _ hw269_3)).trans hw269_3)⟩ (fun hHeld=>?_);clear hK K;refine nA 22 ?_;refine pA 7 23 HT_.out ?_;refine done_ (done_of HT_.out (by kernel_rfl)) ?_;try go_wp2
      go_ret
      exact ⟨zq4,zq49⟩
     exact absurd H (by simp)
    have c10b0:decide (x5_1 < (l0_1.length:Int))=false:=decide_eq_false c10;clear c10;obtain rfl:=Option.some.inj H;have hnb22:=NB266_267.out;have hnc22:=NB267_266.out;obtain ⟨_,_,_,_,_,_,_,_,_,_⟩:=bk5 BK266;go_wp2
    go_ret
    exact ⟨zq4,zq49⟩
 obtain ⟨c4b0,c4b1⟩:=neI c4;obtain rfl:=Option.some.inj H;go_enter Tryz.func13,Tryz.ntmps13
 go_wp2_with (first | ((with_reducible refine gate_dst (N:=2) rfl ?_);refine bxA 2 #[.string a0_0,.slice A0_1 l0_1.length c0_1,.string a0_2,.string a0_3,.slice A0_4 l0_4.length c0_4] 25 ?_;intro gb266 hg w24 hbox hb;have BK266:=sd (hbox);have GW266:=gem hg HB;have GE266:=GW266;replace HB:=hbm HB hb;clear hb hbox hg) | ((with_reducible refine gate_dst (N:=3) rfl ?_);refine bxA 3 #[.int .i64 a1_0,.int .i64 a1_1,.string a1_2,.string a1_3] 32 ?_;intro gb267 hg w25 hbox hb;have BK267:=sd (hbox);have GW267:=gem hg HB;have GE267:=GW267;have NB266_267:=nlm hg BK266;have NB267_266:=ngm hg BK266;replace BK266:=bkm BK266 hb;replace HB:=hbm HB hb;clear hb hbox hg;have hnb26:=NB266_267.out;have hnc26:=NB267_266.out;obtain ⟨_,_,_,_,_,_,_,_,_,_⟩:=bk5 BK266) | ((with_reducible refine gate_callee (f:=10) rfl ?_);refine gL 7 Tryz.func10 #[.agg #[.string a0_0,.slice A0_1 l0_1.length c0_1,.string a0_2,.string a0_3,.slice A0_4 l0_4.length c0_4]] ?_;(with_reducible refine (rf48_Check.calls k a0_0 _ _ l0_1 a0_2 a0_3 _ _ l0_4 t268 _ ?side1 ?side2 ?side3 ?side4 A3.out).mono ?_);(case side1=>exact zq48);(case side2=>exact HC0_1.out);(case side3=>exact zq40);(case side4=>exact HC0_4.out);rintro e w28 ⟨rfl,hb⟩;refine ⟨_,rfl,?_⟩;replace BK266:=bkm BK266 hb;replace BK267:=bkm BK267 hb;replace HB:=hbm HB hb;clear hb))
 go_ret
 exact ⟨zq4,zq49⟩
end Go.Proofs.YtkbgkekegjfkfaaGreatDoor.A
namespace Go.Proofs.YtkbgkekegjfkfaaGreatDoor.A
open Go.RowKit B WW WL WM
theorem r48_holds_ev {c:S48} (hc:condS c=0) (hz:c.f2.size≤400) (d a:Int) (rf tx:ByteArray) (h1:rf.size≤400) (h2:tx.size≤400) :
    Ev (fun k=>rf48_holds.f k c.f0 c.f1 c.f2 c.f3 d a rf tx) (testF c d a rf tx):=by
  obtain ⟨hs,_,_⟩:=condS_ok hc;unfold suitB at hs;rw [decide_eq_true_iff] at hs
  have j1:∀ (x5:Int) (x6:ByteArray),x5=nOfC c d a→(¬ (c.f0=1∨c.f0=4)→x6=sOfC c rf tx)→x6.size≤400→Ev (fun k=>rf48_holds.j1 k x5 x6 c.f0 c.f1 c.f2 c.f3) (testF c d a rf tx):=fun x5 x6 h5 h6 hl=>by
    refine Ev.step (fun k=>by rw [rf48_holds.j1]) ?_;rw [r48_number_eq];simp only [Option.bind_some]
    unfold numB;refine Ev.both (fun n=>?_) (fun n=>?_)
    · rw [decide_eq_true_iff] at n
      refine Ev.both (fun o=>Ev.is ?_) (fun o=>Ev.both (fun o2=>Ev.is ?_) (fun o2=>Ev.is ?_))
      · unfold testF;rw [if_neg (by omega),if_neg (by omega),if_neg (by omega),if_neg (by omega),if_pos n,← h5,Bool.eq_iff_iff,beq_iff_eq,decide_eq_true_iff]
      · unfold testF;rw [if_pos o2,← h5]
      · unfold testF;rw [if_neg o2,if_pos (by omega),← h5]
    · rw [decide_eq_true_iff] at n
      rw [h6 n] at hl ⊢;refine Ev.both (fun o=>Ev.is ?_) (fun o=>Ev.both (fun o4=>?_) (fun o4=>?_))
      · unfold testF;rw [if_neg (by omega),if_neg (by omega),if_neg (by omega),if_neg (by omega),if_neg n,Bool.eq_iff_iff,beq_iff_eq,decide_eq_true_iff]
      · rw [show testF c d a rf tx=Lib.contains (sOfC c rf tx).data.toList c.f2.data.toList by unfold testF;rw [if_neg (by omega),if_neg (by omega),if_pos o4]]
        exact Ev.bind (r48_has_ev _ _ (by omega) (by omega)) (Ev.is rfl)
      · rw [show testF c d a rf tx=Lib.hasPrefix (sOfC c rf tx).data.toList c.f2.data.toList by unfold testF;rw [if_neg (by omega),if_neg (by omega),if_neg o4,if_pos (by omega)],← Lib.hasPrefix_raw]
        refine Ev.both (fun q=>Ev.yes (by omega) (Ev.yes (by omega) (Ev.is ?_))) (fun q=>Ev.is ?_)
        · rw [decide_eq_true (by omega),Bool.true_and,Int.toNat_natCast]
        · rw [decide_eq_false (by omega),Bool.false_and]
  have j0:∀ x5:Int,x5=nOfC c d a→Ev (fun k=>rf48_holds.j0 k x5 rf c.f0 c.f1 c.f2 c.f3 d a rf tx) (testF c d a rf tx):=fun x5 h5=>by
    refine Ev.step (fun k=>by rw [rf48_holds.j0]) ?_;refine Ev.both (fun e=>j1 _ _ h5 (fun _=>?_) h2) (fun e=>j1 _ _ h5 (fun n=>?_) h1)
    · unfold sOfC;rw [if_neg (by omega)]
    · unfold sOfC;rw [if_pos (by omega)]
  unfold rf48_holds.f;refine Ev.both (fun e=>j0 _ ?_) (fun e=>j0 _ ?_)
  · unfold nOfC;rw [if_pos e]
  · unfold nOfC;rw [if_neg e]
theorem r48_Holds_l0 (nm:ByteArray) (cs:List S48) (acc par:ByteArray) (tg:List S50) (hz:∀ x∈cs,x.f2.size≤400) (hl:cs.length≤1000) (hc:∀ c∈cs,condS c=0) (d a:Int) (rf tx:ByteArray) (h1:rf.size≤400) (h2:tx.size≤400) (R:List S48):∀ i:Nat,cs.drop i=R→Ev (fun k=>rf48_Holds.l0 k (i:Int) nm cs acc par tg d a rf tx) (R.all fun c=>testF c d a rf tx):=by
  induction R with
  | nil =>
    intro i h;have:=List.drop_eq_nil_iff.mp h;refine Ev.step (fun k=>by rw [rf48_Holds.l0]) ?_;exact Ev.no (by omega) (Ev.is rfl)
  | cons x r ih =>
    intro i h;obtain ⟨hi,hx,hr⟩:=rd48_at h;have hm:x∈cs:=List.mem_of_mem_drop (i:=i) (by rw [h];exact List.mem_cons_self);refine Ev.step (fun k=>by rw [rf48_Holds.l0]) (Ev.yes (by omega) (Ev.yes (by omega) ?_));rw [hx,w_next i (by omega),List.all_cons];exact Ev.bind (r48_holds_ev (hc x hm) (hz x hm) d a rf tx h1 h2) (Ev.both (fun e=>by rw [e,Bool.true_and];exact ih (i+1) hr) (fun e=>Ev.is (by rw [Bool.eq_false_iff.mpr e,Bool.false_and])))
theorem r48_Holds_ev {nm:ByteArray} {cs:List S48} {acc par:ByteArray} {tg:List S50} (hs:SmallR nm cs acc par tg) (d a:Int) (rf tx:ByteArray) (h1:rf.size≤400) (h2:tx.size≤400) :
    Ev (fun k=>rf48_Holds.f k nm cs acc par tg d a rf tx) (holdsS nm cs acc par tg d a rf tx):=by
  unfold rf48_Holds.f holdsS;refine Ev.bind hs.rcheck (Ev.both (fun e=>?_) (fun e=>Ev.is (by rw [decide_eq_false e,Bool.false_and])));rw [decide_eq_true e,Bool.true_and];exact r48_Holds_l0 nm cs acc par tg hs.c (by have:=hs.lc;omega) (checkS_conds e).2.2.2.2 d a rf tx h1 h2 cs 0 rfl
end Go.Proofs.YtkbgkekegjfkfaaGreatDoor.A
namespace Go.Proofs.YtkbgkekegjfkfaaGreatDoor.A
open Go.ChangeShapes Go.WideShapes Go.ChangeAt Go.Joins Go.RowKit B WW
abbrev KLine:=Kd.pair (Kd.int .i64) (Kd.pair (Kd.int .i64) (Kd.pair Kd.string Kd.string))
set_option maxRecDepth 100000 in
theorem opens_line:Opens Tryz.prog 32 KLine (fun x=>(Lit.int .i64 x.1).wf=true∧(Lit.int .i64 x.2.1).wf=true∧x.2.2.1.size≤140737488351232∧x.2.2.2.size≤140737488351232) :=
  Opens.struct (fs := #[⟨"Day", 3, 0, false, "", "", 0⟩, ⟨"Amount", 3, 1, false, "", "", 8⟩, ⟨"Ref", 9, 2, false, "", "", 16⟩, ⟨"Text", 9, 3, false, "", "", 32⟩]) (by kernel_rfl) (by kernel_rfl)
    (OpensF.cons (Opens.int Tryz.underlying3 (by kernel_rfl)) rfl (OpensF.cons (Opens.int Tryz.underlying3 (by kernel_rfl)) rfl (OpensF.cons (Opens.string Tryz.underlying9 (by kernel_rfl)) rfl (OpensF.one (Opens.string Tryz.underlying9 (by kernel_rfl)) rfl) rfl) rfl) rfl)
set_option maxRecDepth 100000 in
theorem open_line {H:Type} {enc:TypeId×Value→H} {W:World} {base b0:Nat} {spare:Nat→Bool} {held:Bool} {r:Reach} {v:Value} {y:DataW H} {p:List MemPlace}
    (hv:Value.okWide Tryz.prog W r b0 32 v) (hh:DataW.Trod enc Tryz.prog W base spare held 32 v y p) (hw:∀ x∈y.weights Tryz.prog 32,x≤reachBytes) :
    ∃ (d a:Int) (rf tx:ByteArray),v=.agg #[.int .i64 d,.int .i64 a,.string rf,.string tx]∧(I64 d∧I64 a)∧rf.size≤140737488351232∧tx.size≤140737488351232:=by
  obtain ⟨cv,⟨d,a,rf,tx⟩,rfl,⟨_,_,hcs,rfl,_,_,rfl,rfl,_,_,rfl,rfl,rfl⟩,g1,g2,g3,g4⟩:=opens_line.agg Tryz.underlying32 hv hh hw;obtain ⟨l⟩:=cv;obtain rfl:l=_:=hcs;exact ⟨d,a,rf,tx,rfl,⟨bounds_i64 g1,bounds_i64 g2⟩,g3,g4⟩
end Go.Proofs.YtkbgkekegjfkfaaGreatDoor.A
