-- By pack.py, a program of this session's.
import Derived.Test.YtkbgkekegjfkfaaGreatDoorZ18
import Derived.Test.YtkbgkekegjfkfaaGreatDoorZ19
import Derived.Test.YtkbgkekegjfkfaaGreatDoorZ20
import Derived.Test.YtkbgkekegjfkfaaGreatDoorZ21
import Derived.Test.YtkbgkekegjfkfaaGreatDoorZ22
import Derived.Test.YtkbgkekegjfkfaaGreatDoorZ23
set_option linter.unusedVariables false
set_option linter.unusedSimpArgs false
namespace Go.Proofs.YtkbgkekegjfkfaaGreatDoor
namespace A
open Go.RowKit B WW WL WM
attribute [local go_sem] max2_int min2_int max_two min_two max_three min_three max_four min_four
set_option maxHeartbeats 8000000
set_option maxRecDepth 100000
theorem testK_calls {c:S48} {f:Nat} {cap:Array Value} {g gn gs:Nat} {w:World} (hE:CEnv w g gn gs c) (hK:TestK c f cap g gn gs) (d a:Int) (rf tx:ByteArray) (h1:rf.size < 4294967281) (h2:tx.size < 4294967281) (hm:MxAt w) :
  Calls Tryz.prog f (#[lineV d a rf tx]++cap) w fun e w'=>e=.returned (.bool (testF c d a rf tx))∧Below w.heap.size w w':=by
 have hz:(sOfC c rf tx).size < 4294967281:=by unfold sOfC;split <;> assumption
 unfold testF;rcases hK with ⟨e,rfl,rfl⟩|⟨e,rfl,rfl⟩|⟨e,rfl,rfl⟩|⟨e,rfl,rfl⟩|⟨⟨e2,e3,e4,e5⟩,⟨e,rfl,rfl⟩|⟨e,rfl,rfl⟩⟩
 ·rw [if_pos e];exact least_calls g gn gs c d a rf tx w hE
 ·rw [if_neg (by omega),if_pos e];exact most_calls g gn gs c d a rf tx w hE
 ·rw [if_neg (by omega),if_neg (by omega),if_pos e];exact has_calls g gn gs c d a rf tx w hE hz hm.2
 ·rw [if_neg (by omega),if_neg (by omega),if_neg (by omega),if_pos e];exact begins_calls g gn gs c d a rf tx w hE
 ·rw [if_neg e2,if_neg e3,if_neg e4,if_neg e5,if_pos e];exact same_calls g gn gs c d a rf tx w hE
 ·rw [if_neg e2,if_neg e3,if_neg e4,if_neg e5,if_neg e];refine (is_calls g gn gs c d a rf tx w hE).mono ?_;rintro e w' ⟨rfl,hb⟩;refine ⟨?_,hb⟩;congr 2
  rw [Bool.eq_iff_iff,beq_iff_eq,decide_eq_true_iff]
def rules_Holds.f (k:Nat) (a0_0:ByteArray) (l0_1:List S48) (a0_2 a0_3:ByteArray) (l0_4:List S50) (a1_0 a1_1:Int) (a1_2 a1_3:ByteArray):Option Bool :=
 (rules_Check.f k a0_0 l0_1 a0_2 a0_3 l0_4).bind fun e=>if e=0 then (if a1_2.size < 4294967281∧a1_3.size < 4294967281 then some (l0_1.all fun c=>testF c a1_0 a1_1 a1_2 a1_3) else none) else some false
def rules_First.l0:Nat→List (S25)→Int→Int→Int→Int→ByteArray→ByteArray→Option (Int)
|0,_,_,_,_,_,_,_=>none
|k+1,x7,x8,x9,x157000,x157001,x157002,x157003=>if x9 < x8 then (if 0≤x9 then (if x9 < (x7.length:Int) then ((rules_Holds.f k ((rd_T25 x7 x9).f0) ((rd_T25 x7 x9).f1) ((rd_T25 x7 x9).f2) ((rd_T25 x7 x9).f3) ((rd_T25 x7 x9).f4) x157000 x157001 x157002 x157003).bind fun t159=>(if t159=true then (some x9) else (rules_First.l0 k x7 x8 (wrap64 (x9+1)) x157000 x157001 x157002 x157003))) else (none)) else (none)) else (some (-1))
theorem words_Cut.calls (k:Nat) (a0:ByteArray) (r1:List (S73)) (r2 r3:Int) (w:World) (h:words_Cut.f k a0=some (r1,r2,r3)) :
  Calls Tryz.prog 39 #[.string a0] w fun e w'=>∃ v0_:Value,e=.returned (.tuple #[v0_,.int .i64 r2,.int .i64 r3])∧Kd.R k73 73 w' w.heap.size (fun _=>True) v0_ r1∧Below w.heap.size w w':=by
 have hu73:=Tryz.underlying73;have hu116:=Tryz.underlying116;have HB:=sd (Below.refl w.heap.size w);have H:=h;clear h;unfold words_Cut.f at H;replace H:=ifI H;rcases H with ⟨c2,H⟩|⟨c2,H⟩
 ·have c2b0:decide (400 < (a0.size:Int))=true:=decide_eq_true c2;have c2b1:decide (400 < a0.size)=true:=decide_eq_true (by omega);clear c2;simp only [Option.some.injEq,Prod.mk.injEq] at H
  obtain ⟨rfl,rfl,rfl⟩:=H;go_enter Tryz.func39,Tryz.ntmps39
  go_wp2
  repeat (go_quiet (fail);try go_wp2)
  go_ret3
  exact ⟨_,zq4,zq5,zq6⟩
 have c2b0:decide (400 < (a0.size:Int))=false:=decide_eq_false c2;have c2b1:decide (400 < a0.size)=false:=decide_eq_false (by omega);clear c2;have H':=sd H;clear H;go_enter Tryz.func39,Tryz.ntmps39
 go_wp2
 repeat (go_quiet (fail);try go_wp2)
 go_loopg [2,3] k (fun kq v2 v3 w'=>∃ (x2_1:List (S73)) (x3_1:Int),v3=.int .i64 x3_1∧Aside0 (words_Cut.l0 kq a0 x2_1 x3_1=some (r1,r2,r3))∧Aside0 (kq≤k)∧Aside0 (Kd.R k73 73 w' w.heap.size (fun _=>True) v2 x2_1)∧Aside0 (Below w.heap.size w w'))
 case atStart=>exact ⟨(([]:List (S73))),(0),zq7,H',⟨Nat.le_refl _⟩,⟨zq5⟩,⟨zq6⟩⟩
 case round =>
  clear H';try clear c2
  obtain ⟨x2_1,x3_1,rfl,HA,HK1,HO_2,HB⟩:=hrel
  cases gk with
 |zero=>exact absurd HA.out (by simp [words_Cut.l0])
 |succ k1 =>
   have H:=HA.out;clear HA;simp only [words_Cut.l0] at H
   have HC3:=sd H;clear H;go_upto_region 3 with (fail)
   repeat (go_quiet (fail);go_upto_region 3 with (fail))
   go_cut [20] (fun v20 wc=>∃ (kq:Nat) (x20_2:Bool),v20=.bool x20_2∧Aside0 (words_Cut.j1 kq a0 x2_1 x3_1 x20_2=some (r1,r2,r3))∧Aside0 (kq≤k1)∧Aside0 (Kd.R k73 73 wc w.heap.size (fun _=>True) u2 x2_1)∧Aside0 (Below w.heap.size w wc))
   case first =>
    have H:=HC3.out;clear HC3;replace H:=ifI H;rcases H with ⟨c4,H⟩|⟨c4,H⟩
    ·have c4b0:decide (x3_1 < (a0.size:Int))=true:=decide_eq_true c4;clear c4;(first|rw [c4b0]|(simp only [i64_w,i32_w];rw [c4b0])|skip)
     replace H:=ifI H;rcases H with ⟨c5,H⟩|⟨c5,H⟩
     ·have c5b0:decide (0≤x3_1)=true:=decide_eq_true c5;clear c5;have H':=sd H;clear H;have p6:0≤(x3_1:Int):=od;have q6:x3_1 < (a0.size:Int):=od;have hx6:=bt_at a0 x3_1;replace p6:=eq_true p6;replace q6:=eq_true q6;go_wp2
      repeat (go_quiet (fail);try go_wp2)
      go_meet
      case rel=>exact ⟨_,(((bt a0 x3_1) != 35)),zq7,H',⟨zq8⟩,⟨zq9⟩,⟨zq6⟩⟩
     exact absurd H (by simp)
    have c4b0:decide (x3_1 < (a0.size:Int))=false:=decide_eq_false c4;clear c4;(first|rw [c4b0]|(simp only [i64_w,i32_w];rw [c4b0])|skip)
    have H':=sd H;clear H;go_wp2
    repeat (go_quiet (fail);try go_wp2)
    go_meet
    case rel=>exact ⟨_,(false),zq7,H',⟨zq8⟩,⟨zq9⟩,⟨zq6⟩⟩
   case rest =>
    clear HC3;try clear c2
    obtain ⟨kq,x20_2,rfl,HA,HJ2,HO_2,HB⟩:=hcut
    cases kq with
   |zero=>exact absurd HA.out (by simp [words_Cut.j1])
   |succ kj2 =>
     have H:=HA.out;clear HA;simp only [words_Cut.j1] at H
     by_cases c7:x20_2=true
     ·subst c7;rw [if_pos rfl] at H;replace H:=ifI H;rcases H with ⟨c8,H⟩|⟨c8,H⟩
      ·have c8b0:decide (0≤x3_1)=true:=decide_eq_true c8;clear c8;replace H:=ifI H;rcases H with ⟨c9,H⟩|⟨c9,H⟩
       ·have c9b0:decide (x3_1 < (a0.size:Int))=true:=decide_eq_true c9;clear c9;replace H:=ifI H;rcases H with ⟨c11,H⟩|⟨c11,H⟩
        ·obtain ⟨c11b0,c11b1⟩:=eqI c11;clear c11;have H':=sd H;clear H;have p10:0≤(x3_1:Int):=od;have q10:x3_1 < (a0.size:Int):=od;have hx10:=bt_at a0 x3_1;replace p10:=eq_true p10;replace q10:=eq_true q10;go_wp2
         repeat (go_quiet (fail);try go_wp2)
         go_roundg kj2
         case measure=>have:=HK1.out;have:=HJ2.out;omega
         case rel=>exact ⟨(x2_1),(wrap64 (x3_1+1)),zq7,H',⟨zq10⟩,⟨zq9⟩,⟨zq6⟩⟩
        obtain ⟨c11b0,c11b1⟩:=neI c11;replace H:=bdI H;obtain ⟨⟨t222,t223,t224,t225,t226,t227⟩,A12,H⟩:=H;(try dsimp only at H)
        replace H:=ifI H;rcases H with ⟨c13,H⟩|⟨c13,H⟩
        ·obtain ⟨c13b0,c13b1⟩:=eqI c13;clear c13;replace H:=ifI H;rcases H with ⟨c14,H⟩|⟨c14,H⟩
         ·have LMc14:=sd c14;clear c14;obtain ⟨y230,hy230⟩:∃ y_:List (S73),y_=(x2_1++[(⟨t222,t223,t224⟩:S73)]):=⟨_,rfl⟩
          replace H:(words_Cut.l0 kj2 a0 y230 t225)=some (r1,r2,r3):=by first|(rw [hy230];with_reducible exact H)|(have H2_:=(Option.bind_some _ _).symm.trans H;rw [hy230];with_reducible exact H2_)|(have H2_:=(Option.bind_some _ _).symm.trans H;with_reducible exact H2_)|with_reducible exact H|(rw [hy230];exact H)|exact H
          have Ny230:=sd hy230;clear hy230;have H':=sd H;clear H;have p10:0≤(x3_1:Int):=od;have q10:x3_1 < (a0.size:Int):=od;have hx10:=bt_at a0 x3_1;replace p10:=eq_true p10;replace q10:=eq_true q10;go_wp2_with (first|(go_at_call 80;(with_reducible refine (words_word.calls kj2 a0 x3_1 t222 t223 t224 t225 t226 t227 _ A12.out).mono ?_);rintro e w15 ⟨rfl,hb⟩;replace HO_2:=rbm HO_2 hb;replace HB:=hbm HB hb;clear hb)|((with_reducible refine gate_dst (N:=5) rfl ?_);refine bxA 5 #[.int .i64 0,.string (⟨#[]⟩:ByteArray),.int .i64 0] 73 ?_;intro gb228 hg w16 hbox hb;have BK228:=sd (hbox);have GW228:=gem hg HB;have GE228:=GW228;replace HO_2:=sd (Kd.R_below (Kd.R_elderB zq9 gb228 (Nat.le_of_eq hg.symm)) hb);replace HB:=hbm HB hb;clear hb hbox hg)|((with_reducible refine gate_dst (N:=7) rfl ?_);refine bxA 7 #[.int .i64 0,.int .i64 0] 116 ?_;intro gb229 hg w17 hbox hb;have BK229:=sd (hbox);have GW229:=gem hg HB;have GE229:=GW229;have NB228_229:=nlm hg BK228;have NB229_228:=ngm hg BK228;replace HO_2:=rbm HO_2 hb;replace BK228:=bkm BK228 hb;replace HB:=hbm HB hb;clear hb hbox hg;have hnb18:=NB228_229.out;have hnc18:=NB229_228.out;obtain ⟨_,_,_,_,_,_⟩:=bk3 BK228;obtain ⟨_,_,_,_⟩:=bk2 BK229)|((with_reducible refine gate_builtin (b:=.append) (xs:=#[.tmp 41,.tmp 43]) rfl ?_);at_builtin;refine Kd.R_append k73 (w0:=w) w.heap.size rfl (.tmp 41) (.tmp 43) 66 73 (.agg #[(.int .i64 0),(.string ⟨#[]⟩),(.int .i64 0)]) 32 rfl Tryz.underlying66 info73 rfl (by decide) (by omega) u2 x2_1 (⟨t222,t223,t224⟩:S73) [.int .i64 t222,.string t223,.int .i64 t224] (fun k_=>k_≠gb228) (fun _=>False) rfl zq11 ?aP (fun _ hk=>hk.elim) ?aF ?aO ?aB ?aS ?aL ?_;(case aP=>exact k73_mkM _ _ _ (⟨t222,t223,t224⟩:S73));(case aB=>exact zq12);(case aF=>exact (fun k_ hk=>Kd.freshB (g:=gb228) (o:=.cells #[.int .i64 t222,.string t223,.int .i64 t224] 73 (0,0)) zq13 k_ hk));(case aO=>exact zq14);(case aS=>exact (below_size zq12));(case aL=>have:=LMc14.out;omega);intro v231 w21 ho hb hg hat;rw [← Ny230.out] at ho;have HO232:=sd (ho);replace BK228:=sd (blk_grown (g:=gb228) (o:=.cells #[.int .i64 t222,.string t223,.int .i64 t224] 73 (0,0)) zq13 hg (Kd.R_away HO_2.out (fun _ hk=>hk.2)));replace BK229:=sd (blk_grown (g:=gb229) (o:=.cells #[.int .i64 t226,.int .i64 t227] 116 (0,0)) zq15 hg (Kd.R_ne HO_2.out BK229.out (by decide)));replace HB:=sd (hb);clear HO_2;clear ho hb hg hat))
          repeat (go_quiet (first|(go_at_call 80;(with_reducible refine (words_word.calls kj2 a0 x3_1 t222 t223 t224 t225 t226 t227 _ A12.out).mono ?_);rintro e w15 ⟨rfl,hb⟩;replace HO_2:=rbm HO_2 hb;replace HB:=hbm HB hb;clear hb)|((with_reducible refine gate_dst (N:=5) rfl ?_);refine bxA 5 #[.int .i64 0,.string (⟨#[]⟩:ByteArray),.int .i64 0] 73 ?_;intro gb228 hg w16 hbox hb;have BK228:=sd (hbox);have GW228:=gem hg HB;have GE228:=GW228;replace HO_2:=sd (Kd.R_below (Kd.R_elderB zq9 gb228 (Nat.le_of_eq hg.symm)) hb);replace HB:=hbm HB hb;clear hb hbox hg)|((with_reducible refine gate_dst (N:=7) rfl ?_);refine bxA 7 #[.int .i64 0,.int .i64 0] 116 ?_;intro gb229 hg w17 hbox hb;have BK229:=sd (hbox);have GW229:=gem hg HB;have GE229:=GW229;have NB228_229:=nlm hg BK228;have NB229_228:=ngm hg BK228;replace HO_2:=rbm HO_2 hb;replace BK228:=bkm BK228 hb;replace HB:=hbm HB hb;clear hb hbox hg;have hnb18:=NB228_229.out;have hnc18:=NB229_228.out;obtain ⟨_,_,_,_,_,_⟩:=bk3 BK228;obtain ⟨_,_,_,_⟩:=bk2 BK229)|((with_reducible refine gate_builtin (b:=.append) (xs:=#[.tmp 41,.tmp 43]) rfl ?_);at_builtin;refine Kd.R_append k73 (w0:=w) w.heap.size rfl (.tmp 41) (.tmp 43) 66 73 (.agg #[(.int .i64 0),(.string ⟨#[]⟩),(.int .i64 0)]) 32 rfl Tryz.underlying66 info73 rfl (by decide) (by omega) u2 x2_1 (⟨t222,t223,t224⟩:S73) [.int .i64 t222,.string t223,.int .i64 t224] (fun k_=>k_≠gb228) (fun _=>False) rfl zq11 ?aP (fun _ hk=>hk.elim) ?aF ?aO ?aB ?aS ?aL ?_;(case aP=>exact k73_mkM _ _ _ (⟨t222,t223,t224⟩:S73));(case aB=>exact zq12);(case aF=>exact (fun k_ hk=>Kd.freshB (g:=gb228) (o:=.cells #[.int .i64 t222,.string t223,.int .i64 t224] 73 (0,0)) zq13 k_ hk));(case aO=>exact zq14);(case aS=>exact (below_size zq12));(case aL=>have:=LMc14.out;omega);intro v231 w21 ho hb hg hat;rw [← Ny230.out] at ho;have HO232:=sd (ho);replace BK228:=sd (blk_grown (g:=gb228) (o:=.cells #[.int .i64 t222,.string t223,.int .i64 t224] 73 (0,0)) zq13 hg (Kd.R_away HO_2.out (fun _ hk=>hk.2)));replace BK229:=sd (blk_grown (g:=gb229) (o:=.cells #[.int .i64 t226,.int .i64 t227] 116 (0,0)) zq15 hg (Kd.R_ne HO_2.out BK229.out (by decide)));replace HB:=sd (hb);clear HO_2;clear ho hb hg hat));try go_wp2_with (first|(go_at_call 80;(with_reducible refine (words_word.calls kj2 a0 x3_1 t222 t223 t224 t225 t226 t227 _ A12.out).mono ?_);rintro e w15 ⟨rfl,hb⟩;replace HO_2:=rbm HO_2 hb;replace HB:=hbm HB hb;clear hb)|((with_reducible refine gate_dst (N:=5) rfl ?_);refine bxA 5 #[.int .i64 0,.string (⟨#[]⟩:ByteArray),.int .i64 0] 73 ?_;intro gb228 hg w16 hbox hb;have BK228:=sd (hbox);have GW228:=gem hg HB;have GE228:=GW228;replace HO_2:=sd (Kd.R_below (Kd.R_elderB zq9 gb228 (Nat.le_of_eq hg.symm)) hb);replace HB:=hbm HB hb;clear hb hbox hg)|((with_reducible refine gate_dst (N:=7) rfl ?_);refine bxA 7 #[.int .i64 0,.int .i64 0] 116 ?_;intro gb229 hg w17 hbox hb;have BK229:=sd (hbox);have GW229:=gem hg HB;have GE229:=GW229;have NB228_229:=nlm hg BK228;have NB229_228:=ngm hg BK228;replace HO_2:=rbm HO_2 hb;replace BK228:=bkm BK228 hb;replace HB:=hbm HB hb;clear hb hbox hg;have hnb18:=NB228_229.out;have hnc18:=NB229_228.out;obtain ⟨_,_,_,_,_,_⟩:=bk3 BK228;obtain ⟨_,_,_,_⟩:=bk2 BK229)|((with_reducible refine gate_builtin (b:=.append) (xs:=#[.tmp 41,.tmp 43]) rfl ?_);at_builtin;refine Kd.R_append k73 (w0:=w) w.heap.size rfl (.tmp 41) (.tmp 43) 66 73 (.agg #[(.int .i64 0),(.string ⟨#[]⟩),(.int .i64 0)]) 32 rfl Tryz.underlying66 info73 rfl (by decide) (by omega) u2 x2_1 (⟨t222,t223,t224⟩:S73) [.int .i64 t222,.string t223,.int .i64 t224] (fun k_=>k_≠gb228) (fun _=>False) rfl zq11 ?aP (fun _ hk=>hk.elim) ?aF ?aO ?aB ?aS ?aL ?_;(case aP=>exact k73_mkM _ _ _ (⟨t222,t223,t224⟩:S73));(case aB=>exact zq12);(case aF=>exact (fun k_ hk=>Kd.freshB (g:=gb228) (o:=.cells #[.int .i64 t222,.string t223,.int .i64 t224] 73 (0,0)) zq13 k_ hk));(case aO=>exact zq14);(case aS=>exact (below_size zq12));(case aL=>have:=LMc14.out;omega);intro v231 w21 ho hb hg hat;rw [← Ny230.out] at ho;have HO232:=sd (ho);replace BK228:=sd (blk_grown (g:=gb228) (o:=.cells #[.int .i64 t222,.string t223,.int .i64 t224] 73 (0,0)) zq13 hg (Kd.R_away HO_2.out (fun _ hk=>hk.2)));replace BK229:=sd (blk_grown (g:=gb229) (o:=.cells #[.int .i64 t226,.int .i64 t227] 116 (0,0)) zq15 hg (Kd.R_ne HO_2.out BK229.out (by decide)));replace HB:=sd (hb);clear HO_2;clear ho hb hg hat)))
          go_roundg kj2
          case measure=>have:=HK1.out;have:=HJ2.out;omega
          case rel=>exact ⟨(y230),(t225),zq7,H',⟨zq10⟩,⟨by (with_reducible repeat (first|apply Kd.R_alloc|apply Kd.R_drewN|apply Kd.R_drew));exact Kd.R_mono HO232.out (fun _ hk=>trivial)⟩,⟨zq12⟩⟩
         exact absurd H (by simp)
        obtain ⟨c13b0,c13b1⟩:=neI c13;simp only [Option.some.injEq,Prod.mk.injEq] at H
        obtain ⟨rfl,rfl,rfl⟩:=H;have p10:0≤(x3_1:Int):=od;have q10:x3_1 < (a0.size:Int):=od;have hx10:=bt_at a0 x3_1;replace p10:=eq_true p10;replace q10:=eq_true q10;go_wp2_with (first|(go_at_call 80;(with_reducible refine (words_word.calls kj2 a0 x3_1 t222 t223 t224 t225 t226 t227 _ A12.out).mono ?_);rintro e w22 ⟨rfl,hb⟩;replace HO_2:=rbm HO_2 hb;replace HB:=hbm HB hb;clear hb)|((with_reducible refine gate_dst (N:=5) rfl ?_);refine bxA 5 #[.int .i64 0,.string (⟨#[]⟩:ByteArray),.int .i64 0] 73 ?_;intro gb228 hg w23 hbox hb;have BK228:=sd (hbox);have GW228:=gem hg HB;have GE228:=GW228;replace HO_2:=sd (Kd.R_below (Kd.R_elderB zq9 gb228 (Nat.le_of_eq hg.symm)) hb);replace HB:=hbm HB hb;clear hb hbox hg)|((with_reducible refine gate_dst (N:=7) rfl ?_);refine bxA 7 #[.int .i64 0,.int .i64 0] 116 ?_;intro gb229 hg w24 hbox hb;have BK229:=sd (hbox);have GW229:=gem hg HB;have GE229:=GW229;have NB228_229:=nlm hg BK228;have NB229_228:=ngm hg BK228;replace HO_2:=rbm HO_2 hb;replace BK228:=bkm BK228 hb;replace HB:=hbm HB hb;clear hb hbox hg;have hnb25:=NB228_229.out;have hnc25:=NB229_228.out;obtain ⟨_,_,_,_,_,_⟩:=bk3 BK228;obtain ⟨_,_,_,_⟩:=bk2 BK229))
        repeat (go_quiet (first|(go_at_call 80;(with_reducible refine (words_word.calls kj2 a0 x3_1 t222 t223 t224 t225 t226 t227 _ A12.out).mono ?_);rintro e w22 ⟨rfl,hb⟩;replace HO_2:=rbm HO_2 hb;replace HB:=hbm HB hb;clear hb)|((with_reducible refine gate_dst (N:=5) rfl ?_);refine bxA 5 #[.int .i64 0,.string (⟨#[]⟩:ByteArray),.int .i64 0] 73 ?_;intro gb228 hg w23 hbox hb;have BK228:=sd (hbox);have GW228:=gem hg HB;have GE228:=GW228;replace HO_2:=sd (Kd.R_below (Kd.R_elderB zq9 gb228 (Nat.le_of_eq hg.symm)) hb);replace HB:=hbm HB hb;clear hb hbox hg)|((with_reducible refine gate_dst (N:=7) rfl ?_);refine bxA 7 #[.int .i64 0,.int .i64 0] 116 ?_;intro gb229 hg w24 hbox hb;have BK229:=sd (hbox);have GW229:=gem hg HB;have GE229:=GW229;have NB228_229:=nlm hg BK228;have NB229_228:=ngm hg BK228;replace HO_2:=rbm HO_2 hb;replace BK228:=bkm BK228 hb;replace HB:=hbm HB hb;clear hb hbox hg;have hnb25:=NB228_229.out;have hnc25:=NB229_228.out;obtain ⟨_,_,_,_,_,_⟩:=bk3 BK228;obtain ⟨_,_,_,_⟩:=bk2 BK229));try go_wp2_with (first|(go_at_call 80;(with_reducible refine (words_word.calls kj2 a0 x3_1 t222 t223 t224 t225 t226 t227 _ A12.out).mono ?_);rintro e w22 ⟨rfl,hb⟩;replace HO_2:=rbm HO_2 hb;replace HB:=hbm HB hb;clear hb)|((with_reducible refine gate_dst (N:=5) rfl ?_);refine bxA 5 #[.int .i64 0,.string (⟨#[]⟩:ByteArray),.int .i64 0] 73 ?_;intro gb228 hg w23 hbox hb;have BK228:=sd (hbox);have GW228:=gem hg HB;have GE228:=GW228;replace HO_2:=sd (Kd.R_below (Kd.R_elderB zq9 gb228 (Nat.le_of_eq hg.symm)) hb);replace HB:=hbm HB hb;clear hb hbox hg)|((with_reducible refine gate_dst (N:=7) rfl ?_);refine bxA 7 #[.int .i64 0,.int .i64 0] 116 ?_;intro gb229 hg w24 hbox hb;have BK229:=sd (hbox);have GW229:=gem hg HB;have GE229:=GW229;have NB228_229:=nlm hg BK228;have NB229_228:=ngm hg BK228;replace HO_2:=rbm HO_2 hb;replace BK228:=bkm BK228 hb;replace HB:=hbm HB hb;clear hb hbox hg;have hnb25:=NB228_229.out;have hnc25:=NB229_228.out;obtain ⟨_,_,_,_,_,_⟩:=bk3 BK228;obtain ⟨_,_,_,_⟩:=bk2 BK229)))
        go_ret3
        exact ⟨_,zq4,zq5,zq12⟩
       exact absurd H (by simp)
      exact absurd H (by simp)
     replace c7:=Bool.eq_false_iff.mpr c7;subst c7;rw [if_neg Bool.false_ne_true] at H;simp only [Option.some.injEq,Prod.mk.injEq] at H
     obtain ⟨rfl,rfl,rfl⟩:=H;go_wp2
     repeat (go_quiet (fail);try go_wp2)
     go_ret3
     exact ⟨_,zq4,zq9,zq6⟩
theorem num_Parse.calls (a0:ByteArray) (a1 a2 r1 r2:Int) (w:World) (h:num_Parse.f a0 a1 a2=some (r1,r2)) :
  Calls Tryz.prog 82 #[.string a0,.int .i64 a1,.int .i64 a2] w fun e w'=>e=.returned (.tuple #[.int .i64 r1,.int .i64 r2])∧Drawn0 w w':=by
 unfold num_Parse.f at h;split at h <;> simp only [Option.some.injEq,reduceCtorEq] at h
 rename_i hs
 have e1:r1=(parseL a0.data.toList a1 a2).1:=by rw [h]
 have e2:r2=(parseL a0.data.toList a1 a2).2:=by rw [h]
 subst e1 e2;clear h
 cases hf:formedL a0.data.toList
 ·have hF:=formed_calls a0 hs;rw [hf] at hF;have hp:parseL a0.data.toList a1 a2=(0,5):=by unfold parseL;rw [hf];rfl
  have HP:=sd hp;have HFc:=sd hF;clear hf hF hp;generalize hP:(fun e w'=>e=Ending.returned (.tuple #[.int .i64 (parseL a0.data.toList a1 a2).1,.int .i64 (parseL a0.data.toList a1 a2).2])∧Drawn0 w w')=Post;rw [HP.out] at hP;have HPo:=sd hP;clear hP;go_enter Tryz.func82,Tryz.ntmps82
  go_wp2_with fail
  refine (HFc.out _).mono ?_;rintro e w1 ⟨rfl,hd1⟩;obtain ⟨⟨n1,rfl⟩⟩:=hd1;go_wp2_with fail
  rw [← HPo.out];exact ⟨rfl,(Drawn0.refl _).step _⟩
 ·cases hn:negOf a0.data.toList
  ·exact parse_pos a0 a1 a2 hs w hf hn
  ·exact parse_neg a0 a1 a2 hs w hf hn
theorem values_calls (k bd g:Nat) (p:PR) (vC vT vW:Value) (cs':List S48) (at_ er:Int) (w:World) (hp:RP w bd g p vC vT vW) (hbd:bd≤w.heap.size) (hn:0 < p.cs.length) (hl:p.ws.length≤1000000) (hG:Gl w) (hgb:GlLt bd) (h:valL k p.ws 0 p.cs=some (cs',at_,er)) :
    Calls Tryz.prog 41 #[.pointer (some ⟨g,0,none⟩)] w (ValPost bd g vC vT vW { p with cs:=cs' } at_ er w):=by
  obtain ⟨gc,cap,hvc,hgc,_,_⟩:=Kd.R_form hp.rC hn;subst hvc;obtain ⟨va,vc,hvw⟩:=Kd.R_slice hp.rW;subst hvw;have HP:=sd hp;have HF:=sd (FP.refl bd g (.slice (some ⟨gc,0,none⟩) p.cs.length cap) vT (.slice va p.ws.length vc) w);have HG:=sd (fun W (hb:Below bd w W)=>gl_bd hG hb hgb);have HH:=sd h;have HGC:=sd hgc;have HLW:=sd hl;clear hp hG h hgc hl hgb;generalize hQ:ValPost bd g (.slice (some ⟨gc,0,none⟩) p.cs.length cap) vT (.slice va p.ws.length vc) { p with cs:=cs' } at_ er w=Post;have HQ:=sd hQ;clear hQ;obtain ⟨⟨k0,k1,k2,k3,k4,k5,k6⟩,f0,f1,f2,f3,f4,f5,f6⟩:=HP.out.facts;go_enter Tryz.func41,Tryz.ntmps41
  go_wp2_with fail
  clear k0 k1 k2 k3 k4 k5 k6 f0 f1 f2 f3 f4 f5 f6;go_loopw [3,12] (fun e_ n_ wr=>∃ (i:Nat) (cs:List S48),i≤p.ws.length∧n_=.int .i64 (i:Int)∧e_=.int .i64 0∧cs.length=p.cs.length∧Aside0 (valL k (p.ws.drop i) i cs=some (cs',at_,er))∧Aside0 (RP wr bd g { p with cs:=cs } (.slice (some ⟨gc,0,none⟩) p.cs.length cap) vT (.slice va p.ws.length vc))∧Aside0 (FP bd g (.slice (some ⟨gc,0,none⟩) p.cs.length cap) vT (.slice va p.ws.length vc) w wr)) (fun _ n_ _=>(p.ws.length - (RowKit.intOf n_).toNat))
  case atStart=>exact ⟨0,p.cs,Nat.zero_le _,rfl,rfl,rfl,HH,HP,HF⟩
  case round =>
    clear HH HP HF;obtain ⟨i,cs,hi,rfl,rfl,hcl,HH,HP,HF⟩:=hrel;rename World=>wr
    by_cases hlt:i < p.ws.length
    case neg =>
      obtain rfl:i=p.ws.length:=by omega
      have hlt':¬ (p.ws.length:Int) < (p.ws.length:Int):=by omega
      have hr:=HH.out;rw [List.drop_length] at hr;obtain ⟨rfl,h2⟩:=Prod.mk.inj (Option.some.inj hr);obtain ⟨rfl,rfl⟩:=Prod.mk.inj h2;clear hr h2 HH;go_wp2_with fail
      rw [← HQ.out];exact ⟨by (try rfl),⟨_,_,_,HP.out⟩,HF.out⟩
    have hlt':(i:Int) < (p.ws.length:Int):=by omega
    have h0:(0:Int)≤(i:Int):=by omega
    have hw:wrap64 ((i:Int)+1)=((i+1:Nat):Int):=by have:=HLW.out;unfold wrap64;omega
    obtain ⟨hwl,hwc,hWC⟩:=Kd.R_reads' HP.out.rW;obtain ⟨ad,e,x0,x1,x2⟩:=at_T73 hWC (i:Int) (by omega) (by omega)
    cases e
    simp only [Int.toNat_natCast] at x0 x1 x2
    obtain ⟨⟨k0,k1,k2,k3,k4,k5,k6⟩,f0,f1,f2,f3,f4,f5,f6⟩:=HP.out.facts
    have hd:p.ws.drop i=rd_T73 p.ws (i:Int) :: p.ws.drop (i+1):=by
      unfold rd_T73;rw [List.drop_eq_getElem_cons hlt,Int.toNat_natCast,List.getD_eq_getElem?_getD,List.getElem?_eq_getElem hlt];rfl
    obtain ⟨x,hx⟩:∃ x,rd_T73 p.ws (i:Int)=x:=⟨_,rfl⟩
    rw [hx] at hd x0 x1 x2;have hh:=HH.out;rw [hd,valL] at hh;clear hd hx HH;by_cases hic:i < cs.length
    case neg=>rw [if_neg hic] at hh;cases hh
    rw [if_pos hic] at hh;obtain ⟨c,hc⟩:∃ c,rd_T48 cs (i:Int)=c:=⟨_,rfl⟩
    rw [hc] at hh;obtain ⟨y,hy,hh⟩:=Option.bind_eq_some_iff.mp hh;have HY:=sd hy;have HN:=sd hh;have HCc:=sd hc;have HIC:=sd hic;have hic':(i:Int) < (p.cs.length:Int):=by omega
    clear hy hh hc hic;go_upto_region 4 with (fail)
    have hbx:=below_alloc (Below.refl wr.heap.size wr) (Obj.cells #[Value.int IntKind.i64 x.f0,Value.string x.f1,Value.int IntKind.i64 x.f2] 73);have bx:(wr.alloc (Obj.cells #[Value.int IntKind.i64 x.f0,Value.string x.f1,Value.int IntKind.i64 x.f2] 73)).heap[wr.heap.size]?=some (.cells #[Value.int IntKind.i64 x.f0,Value.string x.f1,Value.int IntKind.i64 x.f2] 73 (0,0)):=blk_new _ _;replace HP:=sd (HP.out.below hbx);replace HF:=sd (HF.out.below hbx hbd);clear x0 x1 x2 hwl hwc hWC k0 k1 k2 k3 k4 k5 k6 f0 f1 f2 f3 f4 f5 f6 hbx;generalize wr.alloc (Obj.cells #[Value.int IntKind.i64 x.f0,Value.string x.f1,Value.int IntKind.i64 x.f2] 73)=w4 at *;obtain ⟨gx,hgx⟩:∃ g,g=wr.heap.size:=⟨_,rfl⟩
    rw [← hgx] at bx ⊢;have BX:=sd bx;clear bx hgx;obtain ⟨⟨k0,k1,k2,k3,k4,k5,k6⟩,f0,f1,f2,f3,f4,f5,f6⟩:=HP.out.facts;obtain ⟨cc,hcl2,hM,hcc,hfr⟩:=Kd.R_elem HP.out.rC z48 (i:Int) (by omega) (by omega)
    have hce:cc=[Value.int .i64 c.f0,.int .i64 c.f1,.string c.f2,.int .i64 c.f3]:=by
      have:=k48_openM hM;rw [this,← HCc.out];rfl
    subst hce;have e0:w4.cell? ⟨gc,i * 4,none⟩=some (.int .i64 c.f0):=hcc 0 _ rfl;have e2:w4.cell? ⟨gc,i * 4+2,none⟩=some (.string c.f2):=hcc 2 _ rfl;have e3:w4.cell? ⟨gc,i * 4+3,none⟩=some (.int .i64 c.f3):=hcc 3 _ rfl;have g2_:w4.frozen? ⟨gc,i * 4+2,none⟩=false:=hfr 2;have g3_:w4.frozen? ⟨gc,i * 4+3,none⟩=false:=hfr 3;clear hcl2 hM hcc hfr;obtain ⟨z0,z1,z2,_,_,_⟩:=bk3 BX;have hy:=HY.out;unfold valC at hy;clear HY;by_cases ea:c.f0=1
    · rw [if_pos ea] at hy
      obtain ⟨⟨n1,er1⟩,hq,hy⟩:=Option.bind_eq_some_iff.mp hy;obtain rfl:=Option.some.inj hy;have HNP:=sd (fun W=>num_Parse.calls x.f1 (-1000000000000) 1000000000000 n1 er1 W hq);have qa:decide (c.f0=1)=true:=decide_eq_true ea;clear hy hq;go_wp2_with fail
      refine (HNP.out _).mono ?_;rintro e w5 ⟨rfl,hd⟩;obtain ⟨⟨nd,rfl⟩⟩:=hd;have hbx:=pw_below_drewN (Below.refl w4.heap.size w4) nd;replace BX:=sd (blk_below BX.out hbx);replace HP:=sd (HP.out.below hbx);replace HF:=sd (HF.out.below hbx hbd);clear e0 e2 e3 g2_ g3_ z0 z1 z2 k0 k1 k2 k3 k4 k5 k6 f0 f1 f2 f3 f4 f5 f6 hbx;generalize w4.drewN nd=w5 at *;obtain ⟨cc,hcl2,hM,hcc,hfr⟩:=Kd.R_elem HP.out.rC z48 (i:Int) (by omega) (by omega)
      have hce:cc=[Value.int .i64 c.f0,.int .i64 c.f1,.string c.f2,.int .i64 c.f3]:=by
        have:=k48_openM hM;rw [this,← HCc.out];rfl
      subst hce;have e0:w5.cell? ⟨gc,i * 4,none⟩=some (.int .i64 c.f0):=hcc 0 _ rfl;have e2:w5.cell? ⟨gc,i * 4+2,none⟩=some (.string c.f2):=hcc 2 _ rfl;have e3:w5.cell? ⟨gc,i * 4+3,none⟩=some (.int .i64 c.f3):=hcc 3 _ rfl;have g2_:w5.frozen? ⟨gc,i * 4+2,none⟩=false:=hfr 2;have g3_:w5.frozen? ⟨gc,i * 4+3,none⟩=false:=hfr 3;clear hcl2 hM hcc hfr;obtain ⟨z0,z1,z2,_,_,_⟩:=bk3 BX;by_cases ez:er1=0
      · have hh:=HN.out
        rw [if_pos ez] at hh;have HH:=sd hh;have qz:decide (er1=0)=true:=decide_eq_true ez;obtain ⟨qz3,qz4⟩:=eqI ez;clear hh HN;go_wp2_with fail
        replace HF:=sd (FP.far (o:=i * 4+3) HF.out HGC.out (Or.inl rfl) (.int .i64 n1));replace HP:=sd (elemC' hcl (j:=3) (u:=.int .i64 n1) (x':={ c with f3:=n1 }) HP.out HIC.out HCc.out (by decide) rfl);go_roundw
        case rel=>exact ⟨i+1,cs.set i ({ c with f3:=n1 }),by omega,(by rw [hw]),(by first|rfl|(rw [ez])),by rw [List.length_set];exact hcl,HH,HP,HF⟩
        case measure =>
          refine Nat.sub_lt_sub_left hlt ?_;rw [hw];exact Nat.lt_succ_self i
      have hh:=HN.out;rw [if_neg ez] at hh;obtain ⟨h1_,h2_⟩:=Prod.mk.inj (Option.some.inj hh);obtain ⟨h3_,h4_⟩:=Prod.mk.inj h2_;clear hh HN h2_;have qz:decide (er1=0)=false:=decide_eq_false ez;obtain ⟨qz3,qz4⟩:=neI ez;rw [← h1_,← h3_,← h4_] at HQ;clear h1_ h3_ h4_;go_wp2_with fail
      replace HF:=sd (FP.far (o:=i * 4+3) HF.out HGC.out (Or.inl rfl) (.int .i64 n1));replace HP:=sd (elemC' hcl (j:=3) (u:=.int .i64 n1) (x':={ c with f3:=n1 }) HP.out HIC.out HCc.out (by decide) rfl);rw [← HQ.out];exact ⟨by (try rfl),⟨_,_,_,HP.out⟩,HF.out⟩
    rw [if_neg ea] at hy;have qa:decide (c.f0=1)=false:=decide_eq_false ea;by_cases eb:c.f0=4
    · rw [if_pos eb] at hy
      obtain ⟨⟨n1,er1⟩,hq,hy⟩:=Option.bind_eq_some_iff.mp hy;obtain rfl:=Option.some.inj hy;have HNP:=sd (fun W (hG:Gl W)=>days_Parse.calls k x.f1 n1 er1 W hq hG);have qb:decide (c.f0=4)=true:=decide_eq_true eb;clear hy hq;go_wp2_with fail
      refine (HNP.out _ (HG.out _ HF.out.b)).mono ?_;rintro e w5 ⟨rfl,hbx⟩;replace BX:=sd (blk_below BX.out hbx);replace HP:=sd (HP.out.below hbx);replace HF:=sd (HF.out.below hbx hbd);clear e0 e2 e3 g2_ g3_ z0 z1 z2 k0 k1 k2 k3 k4 k5 k6 f0 f1 f2 f3 f4 f5 f6 hbx;obtain ⟨cc,hcl2,hM,hcc,hfr⟩:=Kd.R_elem HP.out.rC z48 (i:Int) (by omega) (by omega)
      have hce:cc=[Value.int .i64 c.f0,.int .i64 c.f1,.string c.f2,.int .i64 c.f3]:=by
        have:=k48_openM hM;rw [this,← HCc.out];rfl
      subst hce;have e0:w5.cell? ⟨gc,i * 4,none⟩=some (.int .i64 c.f0):=hcc 0 _ rfl;have e2:w5.cell? ⟨gc,i * 4+2,none⟩=some (.string c.f2):=hcc 2 _ rfl;have e3:w5.cell? ⟨gc,i * 4+3,none⟩=some (.int .i64 c.f3):=hcc 3 _ rfl;have g2_:w5.frozen? ⟨gc,i * 4+2,none⟩=false:=hfr 2;have g3_:w5.frozen? ⟨gc,i * 4+3,none⟩=false:=hfr 3;clear hcl2 hM hcc hfr;obtain ⟨z0,z1,z2,_,_,_⟩:=bk3 BX;by_cases ez:er1=0
      · have hh:=HN.out
        rw [if_pos ez] at hh;have HH:=sd hh;have qz:decide (er1=0)=true:=decide_eq_true ez;obtain ⟨qz3,qz4⟩:=eqI ez;clear hh HN;go_wp2_with fail
        replace HF:=sd (FP.far (o:=i * 4+3) HF.out HGC.out (Or.inl rfl) (.int .i64 n1));replace HP:=sd (elemC' hcl (j:=3) (u:=.int .i64 n1) (x':={ c with f3:=n1 }) HP.out HIC.out HCc.out (by decide) rfl);go_roundw
        case rel=>exact ⟨i+1,cs.set i ({ c with f3:=n1 }),by omega,(by rw [hw]),(by first|rfl|(rw [ez])),by rw [List.length_set];exact hcl,HH,HP,HF⟩
        case measure =>
          refine Nat.sub_lt_sub_left hlt ?_;rw [hw];exact Nat.lt_succ_self i
      have hh:=HN.out;rw [if_neg ez] at hh;obtain ⟨h1_,h2_⟩:=Prod.mk.inj (Option.some.inj hh);obtain ⟨h3_,h4_⟩:=Prod.mk.inj h2_;clear hh HN h2_;have qz:decide (er1=0)=false:=decide_eq_false ez;obtain ⟨qz3,qz4⟩:=neI ez;rw [← h1_,← h3_,← h4_] at HQ;clear h1_ h3_ h4_;go_wp2_with fail
      replace HF:=sd (FP.far (o:=i * 4+3) HF.out HGC.out (Or.inl rfl) (.int .i64 n1));replace HP:=sd (elemC' hcl (j:=3) (u:=.int .i64 n1) (x':={ c with f3:=n1 }) HP.out HIC.out HCc.out (by decide) rfl);rw [← HQ.out];exact ⟨by (try rfl),⟨_,_,_,HP.out⟩,HF.out⟩
    rw [if_neg eb] at hy;have qb:decide (c.f0=4)=false:=decide_eq_false eb;obtain rfl:=Option.some.inj hy;clear hy;have hh:=HN.out;rw [if_pos rfl] at hh;have HH:=sd hh;clear hh HN;go_wp2_with fail
    replace HF:=sd (FP.far (o:=i * 4+2) HF.out HGC.out (Or.inl rfl) (.string x.f1));replace HP:=sd (elemC' hcl (j:=2) (u:=.string x.f1) (x':={ c with f2:=x.f1 }) HP.out HIC.out HCc.out (by decide) rfl);go_roundw
    case rel=>exact ⟨i+1,cs.set i ({ c with f2:=x.f1 }),by omega,(by rw [hw]),rfl,by rw [List.length_set];exact hcl,HH,HP,HF⟩
    case measure =>
      refine Nat.sub_lt_sub_left hlt ?_;rw [hw];exact Nat.lt_succ_self i
theorem rf06_Cut.calls (k:Nat) (a0:ByteArray) (r1:List (S73)) (r2 r3:Int) (w:World) (h:rf06_Cut.f k a0=some (r1,r2,r3)) :
  Calls Tryz.prog 43 #[.string a0] w fun e w'=>∃ v0_:Value,e=.returned (.tuple #[v0_,.int .i64 r2,.int .i64 r3])∧Kd.R k73 73 w' w.heap.size (fun _=>True) v0_ r1∧Below w.heap.size w w':=by
 have hu73:=Tryz.underlying73;have HB:=sd (Below.refl w.heap.size w);have H:=h;clear h;unfold rf06_Cut.f at H;replace H:=ifI H;rcases H with ⟨c2,H⟩|⟨c2,H⟩
 ·have c2b0:decide (400 < (a0.size:Int))=true:=decide_eq_true c2;have c2b1:decide (400 < a0.size)=true:=decide_eq_true (by omega);clear c2;simp only [Option.some.injEq,Prod.mk.injEq] at H
  obtain ⟨rfl,rfl,rfl⟩:=H;go_enter Tryz.func43,Tryz.ntmps43
  go_wp2
  go_ret3
  exact ⟨_,zq4,zq5,zq6⟩
 have c2b0:decide (400 < (a0.size:Int))=false:=decide_eq_false c2;have c2b1:decide (400 < a0.size)=false:=decide_eq_false (by omega);clear c2;have H':=sd H;clear H;go_enter Tryz.func43,Tryz.ntmps43
 go_wp2
 go_loopg [5,6] k (fun kq v5 v6 w'=>∃ (x5_1:List (S73)) (x6_1:Int),v6=.int .i64 x6_1∧Aside0 (rf06_Cut.l0 kq a0 x5_1 x6_1=some (r1,r2,r3))∧Aside0 (kq≤k)∧Aside0 (Kd.R k73 73 w' w.heap.size (fun _=>True) v5 x5_1)∧Aside0 (Below w.heap.size w w'))
 case atStart=>exact ⟨(([]:List (S73))),(0),zq7,H',⟨Nat.le_refl _⟩,⟨zq5⟩,⟨zq6⟩⟩
 case round =>
  clear H';try clear c2
  obtain ⟨x5_1,x6_1,rfl,HA,HK1,HO_5,HB⟩:=hrel
  cases gk with
 |zero=>exact absurd HA.out (by simp [rf06_Cut.l0])
 |succ k1 =>
   have H:=HA.out;clear HA;simp only [rf06_Cut.l0] at H
   have HC3:=sd H;clear H;go_upto_region 5 with (fail)
   go_cut [23] (fun v23 wc=>∃ (kq:Nat) (x23_2:Bool),v23=.bool x23_2∧Aside0 (rf06_Cut.j1 kq a0 x5_1 x6_1 x23_2=some (r1,r2,r3))∧Aside0 (kq≤k1)∧Aside0 (Kd.R k73 73 wc w.heap.size (fun _=>True) u5 x5_1)∧Aside0 (Below w.heap.size w wc))
   case first =>
    have H:=HC3.out;clear HC3;replace H:=ifI H;rcases H with ⟨c4,H⟩|⟨c4,H⟩
    ·have c4b0:decide (x6_1 < (a0.size:Int))=true:=decide_eq_true c4;clear c4;(first|rw [c4b0]|(simp only [i64_w,i32_w];rw [c4b0])|skip)
     replace H:=ifI H;rcases H with ⟨c5,H⟩|⟨c5,H⟩
     ·have c5b0:decide (0≤x6_1)=true:=decide_eq_true c5;clear c5;have H':=sd H;clear H;have p6:0≤(x6_1:Int):=od;have q6:x6_1 < (a0.size:Int):=od;have hx6:=bt_at a0 x6_1;replace p6:=eq_true p6;replace q6:=eq_true q6;go_wp2
      go_meet
      case rel=>exact ⟨_,(((bt a0 x6_1) != 35)),zq7,H',⟨zq8⟩,⟨zq63⟩,⟨zq6⟩⟩
     exact absurd H (by simp)
    have c4b0:decide (x6_1 < (a0.size:Int))=false:=decide_eq_false c4;clear c4;(first|rw [c4b0]|(simp only [i64_w,i32_w];rw [c4b0])|skip)
    have H':=sd H;clear H;go_wp2
    go_meet
    case rel=>exact ⟨_,(false),zq7,H',⟨zq8⟩,⟨zq63⟩,⟨zq6⟩⟩
   case rest =>
    clear HC3;try clear c2
    obtain ⟨kq,x23_2,rfl,HA,HJ2,HO_5,HB⟩:=hcut
    cases kq with
   |zero=>exact absurd HA.out (by simp [rf06_Cut.j1])
   |succ kj2 =>
     have H:=HA.out;clear HA;simp only [rf06_Cut.j1] at H
     by_cases c7:x23_2=true
     ·subst c7;rw [if_pos rfl] at H;replace H:=ifI H;rcases H with ⟨c8,H⟩|⟨c8,H⟩
      ·have c8b0:decide (0≤x6_1)=true:=decide_eq_true c8;clear c8;replace H:=ifI H;rcases H with ⟨c9,H⟩|⟨c9,H⟩
       ·have c9b0:decide (x6_1 < (a0.size:Int))=true:=decide_eq_true c9;clear c9;replace H:=ifI H;rcases H with ⟨c11,H⟩|⟨c11,H⟩
        ·obtain ⟨c11b0,c11b1⟩:=eqI c11;clear c11;have H':=sd H;clear H;have p10:0≤(x6_1:Int):=od;have q10:x6_1 < (a0.size:Int):=od;have hx10:=bt_at a0 x6_1;replace p10:=eq_true p10;replace q10:=eq_true q10;go_wp2
         go_roundg kj2
         case measure=>have:=HK1.out;have:=HJ2.out;omega
         case rel=>exact ⟨(x5_1),(wrap64 (x6_1+1)),zq7,H',⟨zq10⟩,⟨zq63⟩,⟨zq6⟩⟩
        obtain ⟨c11b0,c11b1⟩:=neI c11;replace H:=bdI H;obtain ⟨⟨t415,t416,t417,t418,t419,t420⟩,A12,H⟩:=H;(try dsimp only at H)
        replace H:=ifI H;rcases H with ⟨c13,H⟩|⟨c13,H⟩
        ·obtain ⟨c13b0,c13b1⟩:=eqI c13;clear c13;replace H:=ifI H;rcases H with ⟨c14,H⟩|⟨c14,H⟩
         ·have LMc14:=sd c14;clear c14;obtain ⟨y422,hy422⟩:∃ y_:List (S73),y_=(x5_1++[(⟨t415,t416,t417⟩:S73)]):=⟨_,rfl⟩
          replace H:(rf06_Cut.l0 kj2 a0 y422 t418)=some (r1,r2,r3):=by first|(rw [hy422];with_reducible exact H)|(have H2_:=(Option.bind_some _ _).symm.trans H;rw [hy422];with_reducible exact H2_)|(have H2_:=(Option.bind_some _ _).symm.trans H;with_reducible exact H2_)|with_reducible exact H|(rw [hy422];exact H)|exact H
          have Ny422:=sd hy422;clear hy422;have H':=sd H;clear H;have p10:0≤(x6_1:Int):=od;have q10:x6_1 < (a0.size:Int):=od;have hx10:=bt_at a0 x6_1;replace p10:=eq_true p10;replace q10:=eq_true q10;go_wp2_with (first|((with_reducible refine gate_callee (f:=84) rfl ?_);refine gL 33 Tryz.func84 #[.string a0,.int .i64 x6_1] ?_;(with_reducible refine (rf06_word.calls kj2 a0 x6_1 t415 t416 t417 t418 t419 t420 _ A12.out).mono ?_);rintro e w15 ⟨rfl,hb⟩;refine ⟨_,rfl,?_⟩;replace HO_5:=rbm HO_5 hb;replace HB:=hbm HB hb;clear hb)|((with_reducible refine gate_dst (N:=7) rfl ?_);refine bxA 7 #[.int .i64 0,.string (⟨#[]⟩:ByteArray),.int .i64 0] 73 ?_;intro gb421 hg w16 hbox hb;have BK421:=sd (hbox);have GW421:=gem hg HB;have GE421:=GW421;replace HO_5:=sd (Kd.R_below (Kd.R_elderB zq63 gb421 (Nat.le_of_eq hg.symm)) hb);replace HB:=hbm HB hb;clear hb hbox hg;obtain ⟨_,_,_,_,_,_⟩:=bk3 BK421)|((with_reducible refine gate_builtin (b:=.append) (xs:=#[.tmp 42,.tmp 44]) rfl ?_);at_builtin;refine Kd.R_append k73 (w0:=w) w.heap.size rfl (.tmp 42) (.tmp 44) 66 73 (.agg #[(.int .i64 0),(.string ⟨#[]⟩),(.int .i64 0)]) 32 rfl Tryz.underlying66 info73 rfl (by decide) (by omega) u5 x5_1 (⟨t415,t416,t417⟩:S73) [.int .i64 t415,.string t416,.int .i64 t417] (fun k_=>k_≠gb421) (fun _=>False) rfl zq11 ?aP (fun _ hk=>hk.elim) ?aF ?aO ?aB ?aS ?aL ?_;(case aP=>exact k73_mkM _ _ _ (⟨t415,t416,t417⟩:S73));(case aB=>exact zq64);(case aF=>exact (fun k_ hk=>Kd.freshB (g:=gb421) (o:=.cells #[.int .i64 t415,.string t416,.int .i64 t417] 73 (0,0)) (by (with_reducible repeat (first|refine blk_drewN ?_ _|refine blk_drew ?_|refine blk_alloc ?_ _));refine blk_put (cs:=#[.int .i64 t415,.string t416,.int .i64 0]) ?_ 2 _ rfl;(with_reducible repeat (first|refine blk_drewN ?_ _|refine blk_drew ?_|refine blk_alloc ?_ _));refine blk_put (cs:=#[.int .i64 t415,.string (⟨#[]⟩:ByteArray),.int .i64 0]) ?_ 1 _ rfl;(with_reducible repeat (first|refine blk_drewN ?_ _|refine blk_drew ?_|refine blk_alloc ?_ _));refine blk_put (cs:=#[.int .i64 0,.string (⟨#[]⟩:ByteArray),.int .i64 0]) ?_ 0 _ rfl;(with_reducible repeat (first|refine blk_drewN ?_ _|refine blk_drew ?_|refine blk_alloc ?_ _));exact BK421.out) k_ hk));(case aO=>exact (by (with_reducible repeat (first|apply Kd.R_alloc|apply Kd.R_drewN|apply Kd.R_drew));exact Kd.R_mono (Kd.R_far (p:=⟨gb421,2,none⟩) (Kd.R_far (p:=⟨gb421,1,none⟩) (Kd.R_far (p:=⟨gb421,0,none⟩) (Kd.R_mono HO_5.out (fun k_ hk=>(⟨hk,hk.2⟩:_∧k_≠gb421))) (fun _ hk=>hk.2) (.int .i64 t415)) (fun _ hk=>hk.2) (.string t416)) (fun _ hk=>hk.2) (.int .i64 t417)) (fun _ hk=>hk.1.2)));(case aS=>exact (below_size zq64));(case aL=>have:=LMc14.out;omega);intro v423 w18 ho hb hg hat;rw [← Ny422.out] at ho;have HO424:=sd (ho);replace BK421:=sd (blk_grown (g:=gb421) (o:=.cells #[.int .i64 t415,.string t416,.int .i64 t417] 73 (0,0)) (by (with_reducible repeat (first|refine blk_drewN ?_ _|refine blk_drew ?_|refine blk_alloc ?_ _));refine blk_put (cs:=#[.int .i64 t415,.string t416,.int .i64 0]) ?_ 2 _ rfl;(with_reducible repeat (first|refine blk_drewN ?_ _|refine blk_drew ?_|refine blk_alloc ?_ _));refine blk_put (cs:=#[.int .i64 t415,.string (⟨#[]⟩:ByteArray),.int .i64 0]) ?_ 1 _ rfl;(with_reducible repeat (first|refine blk_drewN ?_ _|refine blk_drew ?_|refine blk_alloc ?_ _));refine blk_put (cs:=#[.int .i64 0,.string (⟨#[]⟩:ByteArray),.int .i64 0]) ?_ 0 _ rfl;(with_reducible repeat (first|refine blk_drewN ?_ _|refine blk_drew ?_|refine blk_alloc ?_ _));exact BK421.out) hg (Kd.R_away HO_5.out (fun _ hk=>hk.2)));replace HB:=sd (hb);clear HO_5;clear ho hb hg hat))
          go_roundg kj2
          case measure=>have:=HK1.out;have:=HJ2.out;omega
          case rel=>exact ⟨(y422),(t418),zq7,H',⟨zq10⟩,⟨by (with_reducible repeat (first|apply Kd.R_alloc|apply Kd.R_drewN|apply Kd.R_drew));exact Kd.R_mono HO424.out (fun _ hk=>trivial)⟩,⟨zq64⟩⟩
         exact absurd H (by simp)
        obtain ⟨c13b0,c13b1⟩:=neI c13;simp only [Option.some.injEq,Prod.mk.injEq] at H
        obtain ⟨rfl,rfl,rfl⟩:=H;have p10:0≤(x6_1:Int):=od;have q10:x6_1 < (a0.size:Int):=od;have hx10:=bt_at a0 x6_1;replace p10:=eq_true p10;replace q10:=eq_true q10;go_wp2_with (first|((with_reducible refine gate_callee (f:=84) rfl ?_);refine gL 33 Tryz.func84 #[.string a0,.int .i64 x6_1] ?_;(with_reducible refine (rf06_word.calls kj2 a0 x6_1 t415 t416 t417 t418 t419 t420 _ A12.out).mono ?_);rintro e w19 ⟨rfl,hb⟩;refine ⟨_,rfl,?_⟩;replace HO_5:=rbm HO_5 hb;replace HB:=hbm HB hb;clear hb)|((with_reducible refine gate_dst (N:=7) rfl ?_);refine bxA 7 #[.int .i64 0,.string (⟨#[]⟩:ByteArray),.int .i64 0] 73 ?_;intro gb421 hg w20 hbox hb;have BK421:=sd (hbox);have GW421:=gem hg HB;have GE421:=GW421;replace HO_5:=sd (Kd.R_below (Kd.R_elderB zq63 gb421 (Nat.le_of_eq hg.symm)) hb);replace HB:=hbm HB hb;clear hb hbox hg;obtain ⟨_,_,_,_,_,_⟩:=bk3 BK421))
        go_ret3
        exact ⟨_,zq4,zq5,zq64⟩
       exact absurd H (by simp)
      exact absurd H (by simp)
     replace c7:=Bool.eq_false_iff.mpr c7;subst c7;rw [if_neg Bool.false_ne_true] at H;simp only [Option.some.injEq,Prod.mk.injEq] at H
     obtain ⟨rfl,rfl,rfl⟩:=H;go_wp2
     go_ret3
     exact ⟨_,zq4,zq63,zq6⟩
end A

end Go.Proofs.YtkbgkekegjfkfaaGreatDoor