-- By pack.py, a program of this session's.
import Derived.Test.YtkbgkekegjfkfaaGreatDoorY5
import Derived.Test.YtkbgkekegjfkfaaGreatDoorY6
import Derived.Test.YtkbgkekegjfkfaaGreatDoorY7
set_option linter.unusedVariables false
set_option linter.unusedSimpArgs false
namespace Go.Proofs.YtkbgkekegjfkfaaGreatDoor.A
open Go.RowKit B WW WL WM
attribute [local go_sem] max2_int min2_int max_two min_two max_three min_three max_four min_four
set_option maxHeartbeats 8000000
set_option maxRecDepth 100000
theorem words_quoted.tab8:rtab .any (opsOf Tryz.f109 8)=words_quoted.T8:=by kernel_rfl
theorem words_quoted.calls (k:Nat) (a0:ByteArray) (a1:Int) (r1:ByteArray) (r2 r3 r4:Int) (w:World) (h:words_quoted.f k a0 a1=some (r1,r2,r3,r4)) :
  Calls Tryz.prog 109 #[.string a0,.int .i64 a1] w fun e w'=>e=.returned (.tuple #[.string r1,.int .i64 r2,.agg #[.int .i64 r3,.int .i64 r4]])∧Below w.heap.size w w':=by
 have hu116:=Tryz.underlying116;have HB:=sd (Below.refl w.heap.size w);have H:=h;clear h;unfold words_quoted.f at H;have H':=sd H;clear H;go_enter Tryz.func109,Tryz.ntmps109
 go_wp2_with (first | ((with_reducible refine gate_dst (N:=6) rfl ?_);refine bxA 6 #[.int .i64 0,.int .i64 0] 116 ?_;intro gb211 hg w3 hbox hb;have BK211:=sd (hbox);have GW211:=gem hg HB;have GE211:=GW211;replace HB:=hbm HB hb;clear hb hbox hg))
 go_loopg [7,8] k (fun kq v7 v8 w'=>∃ (x7_1:List Int) (x8_1:Int) (x212000_1:Int) (x212001_1:Int),v8=.int .i64 x8_1∧Aside0 (words_quoted.l0 kq a0 a1 x7_1 x8_1 x212000_1 x212001_1=some (r1,r2,r3,r4))∧Aside0 (kq≤k)∧Aside0 (Kd.R (Kd.int .u8) 5 w' w.heap.size (fun _=>True) v7 x7_1)∧Aside0 (w'.heap[gb211]?=some (.cells #[.int .i64 x212000_1,.int .i64 x212001_1] 116 (0,0)))∧Aside0 (Below w.heap.size w w'))
 case atStart=>exact ⟨(([]:List Int)),(wrap64 (a1+1)),(0),(0),zq7,H',⟨Nat.le_refl _⟩,⟨zq5⟩,⟨zq132⟩,⟨zq133⟩⟩
 case round =>
  clear H';try clear c1
  try clear p2
  obtain ⟨x7_1,x8_1,x212000_1,x212001_1,rfl,HA,HK1,HO_7,BK211,HB⟩:=hrel
  cases gk with
  | zero=>exact absurd HA.out (by simp [words_quoted.l0])
  | succ k1 =>
   have H:=HA.out;clear HA;simp only [words_quoted.l0] at H
   replace H:=ifI H;rcases H with ⟨c4,H⟩ | ⟨c4,H⟩
   ·have c4b0:decide (x8_1 < (a0.size:Int))=true:=decide_eq_true c4;clear c4;replace H:=ifI H;rcases H with ⟨c5,H⟩ | ⟨c5,H⟩
    ·have c5b0:decide (0≤x8_1)=true:=decide_eq_true c5;clear c5;replace H:=ifI H;rcases H with ⟨c7,H⟩ | ⟨c7,H⟩
     ·obtain ⟨c7b0,c7b1⟩:=eqI c7;clear c7;simp only [Option.some.injEq,Prod.mk.injEq] at H
      obtain ⟨rfl,rfl,rfl,rfl⟩:=H;have p6:0≤(x8_1:Int):=od;have q6:x8_1 < (a0.size:Int):=od;have hx6:=bt_at a0 x8_1;replace p6:=eq_true p6;replace q6:=eq_true q6;try go_wp2
      replace HO_7:=sd (Kd.R_drew HO_7.out);replace BK211:=sd (blk_drew BK211.out);replace HB:=sd (below_drew1 HB.out);have hcw9:=own_string (P:=Tryz.prog) Tryz.underlying102 Tryz.underlying5 Tryz.underlying9 (Kd.own_of_R HO_7.out);refine start_ (n:=8) (S:=fun w'=>w'.cell? ⟨gb211,0,none⟩=some (.int .i64 x212000_1)∧w'.cell? ⟨gb211,1,none⟩=some (.int .i64 x212001_1)∧(convert 102 9 u7).run Tryz.prog w'=.ok (.string (strOfNums x7_1)) w') (ds:=[7]) #[false,false,false,false,false,false,false,false] (by kernel_rfl) rfl rfl ⟨(blk_cell BK211.out 0).trans rfl,(blk_cell BK211.out 1).trans rfl,hcw9⟩ (fun hHeld=>?_);refine with_tabW words_quoted.tab8 words_quoted.bits8 (fun HT_ HW_=>?_);generalize wr.drew=w8 at HO_7 BK211 HB hHeld ⊢;refine pA 0 28 HT_.out ?_;refine tA 1 29 HT_.out HW_.out hHeld ?_;refine pA 2 30 HT_.out ?_;refine pA 3 31 HT_.out ?_;refine pA 5 4 HT_.out ?_;refine pA 6 5 HT_.out ?_;refine tA 4 32 HT_.out HW_.out hHeld ?_;refine last_ (i:=7) (N:=none) #[true,true,true,true,true,true,true,true] rfl rfl (one_of HT_.out (by kernel_rfl)) (by decide) (fun K hK=>?_);have hs10:w8.cell? ⟨gb211,0,none⟩=some (.int .i64 x212000_1):=(blk_cell BK211.out 0).trans rfl;have hfs10:=blk_frozen BK211.out 0;have hs11:w8.cell? ⟨gb211,1,none⟩=some (.int .i64 x212001_1):=(blk_cell BK211.out 1).trans rfl;have hfs11:=blk_frozen BK211.out 1;refine skip_ (w1:=?_) (by rfl) rfl ?_ ?_;rotate_left
      ·go_simp
       rfl
      refine hK.out _ _ ?_;clear hK K;refine done_ (done_of HT_.out (by kernel_rfl)) ?_;try go_wp2
      refine bodyPost_ret (results_list (rs:=[.tmp 4,.tmp 5,.cell 6 116]) rfl (by simp) (.tmp (.tmp (.cell gb211 116 #[.int .i64 x212000_1,.int .i64 x212001_1] (0,0) _ rfl (by (with_reducible repeat (first | refine blk_drewN ?_ _ | refine blk_drew ?_ | refine blk_alloc ?_ _));refine blk_put (cs:=#[.int .i64 x212000_1,.int .i64 x212001_1]) ?_ 1 _ rfl;(with_reducible repeat (first | refine blk_drewN ?_ _ | refine blk_drew ?_ | refine blk_alloc ?_ _));refine blk_put (cs:=#[.int .i64 x212000_1,.int .i64 x212001_1]) ?_ 0 _ rfl;(with_reducible repeat (first | refine blk_drewN ?_ _ | refine blk_drew ?_ | refine blk_alloc ?_ _));exact BK211.out) Tryz.underlying116 rfl (by kernel_rfl) .nil)))) rfl ?_;exact ⟨zq4,zq133⟩
     obtain ⟨c7b0,c7b1⟩:=neI c7;replace H:=ifI H;rcases H with ⟨c12,H⟩ | ⟨c12,H⟩
     ·obtain ⟨c12b0,c12b1⟩:=eqI c12;clear c12;replace H:=ifI H;rcases H with ⟨c13,H⟩ | ⟨c13,H⟩
      ·have c13b0:decide ((a0.size:Int)≤(wrap64 (x8_1+1)))=true:=decide_eq_true c13;clear c13;simp only [Option.some.injEq,Prod.mk.injEq] at H
       obtain ⟨rfl,rfl,rfl,rfl⟩:=H;have p6:0≤(x8_1:Int):=od;have q6:x8_1 < (a0.size:Int):=od;have hx6:=bt_at a0 x8_1;replace p6:=eq_true p6;replace q6:=eq_true q6;obtain ⟨_,_,_,_⟩:=bk2 BK211;go_wp2
       refine bodyPost_ret (results_list (rs:=[.tmp 4,.tmp 5,.cell 6 116]) rfl (by simp) (.tmp (.tmp (.cell gb211 116 #[.int .i64 (wrap64 ((wrap64 (x8_1+1)) - 1)),.int .i64 5] (0,0) _ rfl (by (with_reducible repeat (first | refine blk_drewN ?_ _ | refine blk_drew ?_ | refine blk_alloc ?_ _));refine blk_put (cs:=#[.int .i64 (wrap64 ((wrap64 (x8_1+1)) - 1)),.int .i64 x212001_1]) ?_ 1 _ rfl;(with_reducible repeat (first | refine blk_drewN ?_ _ | refine blk_drew ?_ | refine blk_alloc ?_ _));refine blk_put (cs:=#[.int .i64 x212000_1,.int .i64 x212001_1]) ?_ 0 _ rfl;(with_reducible repeat (first | refine blk_drewN ?_ _ | refine blk_drew ?_ | refine blk_alloc ?_ _));exact BK211.out) Tryz.underlying116 rfl (by kernel_rfl) .nil)))) rfl ?_;exact ⟨zq4,zq133⟩
      have c13b0:decide ((a0.size:Int)≤(wrap64 (x8_1+1)))=false:=decide_eq_false c13;clear c13;obtain ⟨ji15,hji15⟩:∃ j_:Int,(wrap64 (x8_1+1))=j_:=⟨_,rfl⟩
      replace H:(if 0≤(ji15) then (if (ji15) < (a0.size:Int) then (if (bt a0 (ji15))=34 then (if x7_1.length < 140737488355328 then (words_quoted.l0 k1 a0 a1 (x7_1++[bt a0 (ji15)]) (wrap64 ((ji15)+1)) x212000_1 x212001_1) else (none)) else (if (bt a0 (ji15))=92 then (if x7_1.length < 140737488355328 then (words_quoted.l0 k1 a0 a1 (x7_1++[bt a0 (ji15)]) (wrap64 ((ji15)+1)) x212000_1 x212001_1) else (none)) else (some ((⟨#[]⟩:ByteArray),0,wrap64 ((ji15) - 1),5)))) else (none)) else (none))=some (r1,r2,r3,r4):=by first | (rw [hji15] at H;exact H) | (simp only [hji15] at H ⊢;exact H)
      (try rw [hji15] at c13b0)
      have hji15w:(IntKind.i64.wrap (x8_1+1))=ji15:=(i64_w _).trans hji15;replace H:=ifI H;rcases H with ⟨c16,H⟩ | ⟨c16,H⟩
      ·have c16b0:decide (0≤(ji15))=true:=decide_eq_true c16;clear c16;replace H:=ifI H;rcases H with ⟨c17,H⟩ | ⟨c17,H⟩
       ·have c17b0:decide ((ji15) < (a0.size:Int))=true:=decide_eq_true c17;clear c17;replace H:=ifI H;rcases H with ⟨c19,H⟩ | ⟨c19,H⟩
        ·obtain ⟨c19b0,c19b1⟩:=eqI c19;clear c19;replace H:=ifI H;rcases H with ⟨c21,H⟩ | ⟨c21,H⟩
         ·have LMc21:=sd c21;clear c21;obtain ⟨y212,hy212⟩:∃ y_:List Int,y_=(x7_1++[bt a0 (ji15)]):=⟨_,rfl⟩
          replace H:(words_quoted.l0 k1 a0 a1 y212 (wrap64 ((ji15)+1)) x212000_1 x212001_1)=some (r1,r2,r3,r4):=by first | (rw [hy212];with_reducible exact H) | (have H2_:=(Option.bind_some _ _).symm.trans H;rw [hy212];with_reducible exact H2_) | (have H2_:=(Option.bind_some _ _).symm.trans H;with_reducible exact H2_) | with_reducible exact H | (rw [hy212];exact H) | exact H
          have Ny212:=sd hy212;clear hy212;have H':=sd H;clear H;have p6:0≤(x8_1:Int):=od;have q6:x8_1 < (a0.size:Int):=od;have hx6:=bt_at a0 x8_1;replace p6:=eq_true p6;replace q6:=eq_true q6;have p18:0≤((ji15):Int):=od;have q18:(ji15) < (a0.size:Int):=od;have hx18:=bt_at a0 (ji15);replace p18:=eq_true p18;replace q18:=eq_true q18;have p20:0≤((ji15):Int):=od;have q20:(ji15) < (a0.size:Int):=od;have hx20:=bt_at a0 (ji15);replace p20:=eq_true p20;replace q20:=eq_true q20;go_wp2_with (first | ((with_reducible refine gate_builtin (b:=.append) (xs:=#[.tmp 57,.tmp 61]) rfl ?_);at_builtin;refine Kd.R_append (Kd.int .u8) (w0:=w) w.heap.size rfl (.tmp 57) (.tmp 61) 102 5 (.int .u8 0) 1 rfl Tryz.underlying102 info5 rfl (by decide) (by omega) u7 x7_1 (bt a0 (ji15)) [.int .u8 (bt a0 (ji15))] (fun _=>True) (fun _=>False) rfl rfl ?aP (fun _ hk=>hk.elim) ?aF ?aO ?aB ?aS ?aL ?_;(case aP=>exact rfl);(case aB=>exact zq133);(case aF=>exact (fun _ _=>trivial));(case aO=>exact zq134);(case aS=>exact (below_size zq133));(case aL=>have:=LMc21.out;omega);intro v213 w22 ho hb hg hat;rw [← Ny212.out] at ho;have HO214:=sd (ho);replace BK211:=sd (blk_grown (g:=gb211) (o:=.cells #[.int .i64 x212000_1,.int .i64 x212001_1] 116 (0,0)) zq132 hg (Kd.R_ne HO_7.out BK211.out (by decide)));replace HB:=sd (hb);clear HO_7;clear ho hb hg hat))
          go_roundg k1
          case measure=>have:=HK1.out;omega
          case rel=>exact ⟨(y212),(wrap64 ((ji15)+1)),(x212000_1),(x212001_1),(by first | rfl | (simp;done) | (simp only [← hji15] <;> (first | rfl | simp)) | (simp [*];done)),H',⟨by have:=HK1.out;omega⟩,⟨by (with_reducible repeat (first | apply Kd.R_alloc | apply Kd.R_drewN | apply Kd.R_drew));exact HO214.out⟩,⟨zq132⟩,⟨zq133⟩⟩
         exact absurd H (by simp)
        obtain ⟨c19b0,c19b1⟩:=neI c19;replace H:=ifI H;rcases H with ⟨c24,H⟩ | ⟨c24,H⟩
        ·obtain ⟨c24b0,c24b1⟩:=eqI c24;clear c24;replace H:=ifI H;rcases H with ⟨c26,H⟩ | ⟨c26,H⟩
         ·have LMc26:=sd c26;clear c26;obtain ⟨y215,hy215⟩:∃ y_:List Int,y_=(x7_1++[bt a0 (ji15)]):=⟨_,rfl⟩
          replace H:(words_quoted.l0 k1 a0 a1 y215 (wrap64 ((ji15)+1)) x212000_1 x212001_1)=some (r1,r2,r3,r4):=by first | (rw [hy215];with_reducible exact H) | (have H2_:=(Option.bind_some _ _).symm.trans H;rw [hy215];with_reducible exact H2_) | (have H2_:=(Option.bind_some _ _).symm.trans H;with_reducible exact H2_) | with_reducible exact H | (rw [hy215];exact H) | exact H
          have Ny215:=sd hy215;clear hy215;have H':=sd H;clear H;have p6:0≤(x8_1:Int):=od;have q6:x8_1 < (a0.size:Int):=od;have hx6:=bt_at a0 x8_1;replace p6:=eq_true p6;replace q6:=eq_true q6;have p18:0≤((ji15):Int):=od;have q18:(ji15) < (a0.size:Int):=od;have hx18:=bt_at a0 (ji15);replace p18:=eq_true p18;replace q18:=eq_true q18;have p23:0≤((ji15):Int):=od;have q23:(ji15) < (a0.size:Int):=od;have hx23:=bt_at a0 (ji15);replace p23:=eq_true p23;replace q23:=eq_true q23;have p25:0≤((ji15):Int):=od;have q25:(ji15) < (a0.size:Int):=od;have hx25:=bt_at a0 (ji15);replace p25:=eq_true p25;replace q25:=eq_true q25;go_wp2_with (first | ((with_reducible refine gate_builtin (b:=.append) (xs:=#[.tmp 57,.tmp 61]) rfl ?_);at_builtin;refine Kd.R_append (Kd.int .u8) (w0:=w) w.heap.size rfl (.tmp 57) (.tmp 61) 102 5 (.int .u8 0) 1 rfl Tryz.underlying102 info5 rfl (by decide) (by omega) u7 x7_1 (bt a0 (ji15)) [.int .u8 (bt a0 (ji15))] (fun _=>True) (fun _=>False) rfl rfl ?aP (fun _ hk=>hk.elim) ?aF ?aO ?aB ?aS ?aL ?_;(case aP=>exact rfl);(case aB=>exact zq133);(case aF=>exact (fun _ _=>trivial));(case aO=>exact zq134);(case aS=>exact (below_size zq133));(case aL=>have:=LMc26.out;omega);intro v216 w27 ho hb hg hat;rw [← Ny215.out] at ho;have HO217:=sd (ho);replace BK211:=sd (blk_grown (g:=gb211) (o:=.cells #[.int .i64 x212000_1,.int .i64 x212001_1] 116 (0,0)) zq132 hg (Kd.R_ne HO_7.out BK211.out (by decide)));replace HB:=sd (hb);clear HO_7;clear ho hb hg hat))
          go_roundg k1
          case measure=>have:=HK1.out;omega
          case rel=>exact ⟨(y215),(wrap64 ((ji15)+1)),(x212000_1),(x212001_1),(by first | rfl | (simp;done) | (simp only [← hji15] <;> (first | rfl | simp)) | (simp [*];done)),H',⟨by have:=HK1.out;omega⟩,⟨by (with_reducible repeat (first | apply Kd.R_alloc | apply Kd.R_drewN | apply Kd.R_drew));exact HO217.out⟩,⟨zq132⟩,⟨zq133⟩⟩
         exact absurd H (by simp)
        obtain ⟨c24b0,c24b1⟩:=neI c24;simp only [Option.some.injEq,Prod.mk.injEq] at H
        obtain ⟨rfl,rfl,rfl,rfl⟩:=H;have p6:0≤(x8_1:Int):=od;have q6:x8_1 < (a0.size:Int):=od;have hx6:=bt_at a0 x8_1;replace p6:=eq_true p6;replace q6:=eq_true q6;have p18:0≤((ji15):Int):=od;have q18:(ji15) < (a0.size:Int):=od;have hx18:=bt_at a0 (ji15);replace p18:=eq_true p18;replace q18:=eq_true q18;have p23:0≤((ji15):Int):=od;have q23:(ji15) < (a0.size:Int):=od;have hx23:=bt_at a0 (ji15);replace p23:=eq_true p23;replace q23:=eq_true q23;obtain ⟨_,_,_,_⟩:=bk2 BK211;go_wp2
        refine bodyPost_ret (results_list (rs:=[.tmp 4,.tmp 5,.cell 6 116]) rfl (by simp) (.tmp (.tmp (.cell gb211 116 #[.int .i64 (wrap64 ((ji15) - 1)),.int .i64 5] (0,0) _ rfl (by (with_reducible repeat (first | refine blk_drewN ?_ _ | refine blk_drew ?_ | refine blk_alloc ?_ _));refine blk_put (cs:=#[.int .i64 (wrap64 ((ji15) - 1)),.int .i64 x212001_1]) ?_ 1 _ rfl;(with_reducible repeat (first | refine blk_drewN ?_ _ | refine blk_drew ?_ | refine blk_alloc ?_ _));refine blk_put (cs:=#[.int .i64 x212000_1,.int .i64 x212001_1]) ?_ 0 _ rfl;(with_reducible repeat (first | refine blk_drewN ?_ _ | refine blk_drew ?_ | refine blk_alloc ?_ _));exact BK211.out) Tryz.underlying116 rfl (by kernel_rfl) .nil)))) rfl ?_;exact ⟨by first | rfl | (simp [errW_none,errW_some] <;> rfl) | (simp only [← hji15];first | rfl | (simp [errW_none,errW_some] <;> rfl)) | (simp [*,errW_none,errW_some] <;> rfl),zq133⟩
       exact absurd H (by simp)
      exact absurd H (by simp)
     obtain ⟨c12b0,c12b1⟩:=neI c12;replace H:=bdI H;obtain ⟨t218,A29,H⟩:=H;(try dsimp only at H)
     by_cases c30:t218=true
     ·subst c30;rw [if_pos rfl] at H;replace H:=ifI H;rcases H with ⟨c31,H⟩ | ⟨c31,H⟩
      ·have LMc31:=sd c31;clear c31;obtain ⟨y219,hy219⟩:∃ y_:List Int,y_=(x7_1++[bt a0 x8_1]):=⟨_,rfl⟩
       replace H:(words_quoted.l0 k1 a0 a1 y219 (wrap64 (x8_1+1)) x212000_1 x212001_1)=some (r1,r2,r3,r4):=by first | (rw [hy219];with_reducible exact H) | (have H2_:=(Option.bind_some _ _).symm.trans H;rw [hy219];with_reducible exact H2_) | (have H2_:=(Option.bind_some _ _).symm.trans H;with_reducible exact H2_) | with_reducible exact H | (rw [hy219];exact H) | exact H
       have Ny219:=sd hy219;clear hy219;have H':=sd H;clear H;have p6:0≤(x8_1:Int):=od;have q6:x8_1 < (a0.size:Int):=od;have hx6:=bt_at a0 x8_1;replace p6:=eq_true p6;replace q6:=eq_true q6;go_wp2_with (first | ((with_reducible refine gate_callee (f:=95) rfl ?_);refine gL 65 Tryz.func95 #[.int .u8 (bt a0 x8_1)] ?_;(with_reducible refine (words_printable.calls (bt a0 x8_1) true _ A29.out).mono ?_);rintro e w' ⟨rfl,⟨nd,rfl⟩⟩;refine ⟨_,rfl,?_⟩) | ((with_reducible refine gate_builtin (b:=.append) (xs:=#[.tmp 21,.tmp 23]) rfl ?_);at_builtin;refine Kd.R_append (Kd.int .u8) (w0:=w) w.heap.size rfl (.tmp 21) (.tmp 23) 102 5 (.int .u8 0) 1 rfl Tryz.underlying102 info5 rfl (by decide) (by omega) u7 x7_1 (bt a0 x8_1) [.int .u8 (bt a0 x8_1)] (fun _=>True) (fun _=>False) rfl rfl ?aP (fun _ hk=>hk.elim) ?aF ?aO ?aB ?aS ?aL ?_;(case aP=>exact rfl);(case aB=>exact zq133);(case aF=>exact (fun _ _=>trivial));(case aO=>exact zq134);(case aS=>exact (below_size zq133));(case aL=>have:=LMc31.out;omega);intro v220 w32 ho hb hg hat;rw [← Ny219.out] at ho;have HO221:=sd (ho);replace BK211:=sd (blk_grown (g:=gb211) (o:=.cells #[.int .i64 x212000_1,.int .i64 x212001_1] 116 (0,0)) zq132 hg (Kd.R_ne HO_7.out BK211.out (by decide)));replace HB:=sd (hb);clear HO_7;clear ho hb hg hat))
       go_roundg k1
       case measure=>have:=HK1.out;omega
       case rel=>exact ⟨(y219),(wrap64 (x8_1+1)),(x212000_1),(x212001_1),zq7,H',⟨by have:=HK1.out;omega⟩,⟨by (with_reducible repeat (first | apply Kd.R_alloc | apply Kd.R_drewN | apply Kd.R_drew));exact HO221.out⟩,⟨zq132⟩,⟨zq133⟩⟩
      exact absurd H (by simp)
     replace c30:=Bool.eq_false_iff.mpr c30;subst c30;rw [if_neg Bool.false_ne_true] at H;simp only [Option.some.injEq,Prod.mk.injEq] at H
     obtain ⟨rfl,rfl,rfl,rfl⟩:=H;have p6:0≤(x8_1:Int):=od;have q6:x8_1 < (a0.size:Int):=od;have hx6:=bt_at a0 x8_1;replace p6:=eq_true p6;replace q6:=eq_true q6;go_wp2_with (first | ((with_reducible refine gate_callee (f:=95) rfl ?_);refine gL 65 Tryz.func95 #[.int .u8 (bt a0 x8_1)] ?_;(with_reducible refine (words_printable.calls (bt a0 x8_1) false _ A29.out).mono ?_);rintro e w' ⟨rfl,⟨nd,rfl⟩⟩;refine ⟨_,rfl,?_⟩;(try (rw [drewN_self wr];generalize hq_:World.drewN wr _=wr;have n0_:Aside0 (Kd.R (Kd.int .u8) 5 wr w.heap.size (fun _=>True) u7 x7_1):=⟨by rw [← hq_];exact zq134⟩;have n1_:Aside0 (wr.heap[gb211]?=some (.cells #[.int .i64 x212000_1,.int .i64 x212001_1] 116 (0,0))):=⟨by rw [← hq_];exact zq132⟩;have n2_:Aside0 (Below w.heap.size w wr):=⟨by rw [← hq_];exact zq133⟩;clear HO_7 BK211 HB hq_;have HO_7:=n0_;have BK211:=n1_;have HB:=n2_;clear n0_ n1_ n2_;(try (have hdBK211_0:=(blk_cell BK211.out 0).trans rfl;have heBK211_0:=blk_frozen BK211.out 0;have hdBK211_1:=(blk_cell BK211.out 1).trans rfl;have heBK211_1:=blk_frozen BK211.out 1))));obtain ⟨_,_,_,_⟩:=bk2 BK211))
     refine bodyPost_ret (results_list (rs:=[.tmp 4,.tmp 5,.cell 6 116]) rfl (by simp) (.tmp (.tmp (.cell gb211 116 #[.int .i64 x8_1,.int .i64 5] (0,0) _ rfl (by (with_reducible repeat (first | refine blk_drewN ?_ _ | refine blk_drew ?_ | refine blk_alloc ?_ _));refine blk_put (cs:=#[.int .i64 x8_1,.int .i64 x212001_1]) ?_ 1 _ rfl;(with_reducible repeat (first | refine blk_drewN ?_ _ | refine blk_drew ?_ | refine blk_alloc ?_ _));refine blk_put (cs:=#[.int .i64 x212000_1,.int .i64 x212001_1]) ?_ 0 _ rfl;(with_reducible repeat (first | refine blk_drewN ?_ _ | refine blk_drew ?_ | refine blk_alloc ?_ _));exact BK211.out) Tryz.underlying116 rfl (by kernel_rfl) .nil)))) rfl ?_;exact ⟨zq4,zq133⟩
    exact absurd H (by simp)
   have c4b0:decide (x8_1 < (a0.size:Int))=false:=decide_eq_false c4;clear c4;simp only [Option.some.injEq,Prod.mk.injEq] at H
   obtain ⟨rfl,rfl,rfl,rfl⟩:=H;obtain ⟨_,_,_,_⟩:=bk2 BK211;go_wp2
   refine bodyPost_ret (results_list (rs:=[.tmp 4,.tmp 5,.cell 6 116]) rfl (by simp) (.tmp (.tmp (.cell gb211 116 #[.int .i64 a1,.int .i64 6] (0,0) _ rfl (by (with_reducible repeat (first | refine blk_drewN ?_ _ | refine blk_drew ?_ | refine blk_alloc ?_ _));refine blk_put (cs:=#[.int .i64 a1,.int .i64 x212001_1]) ?_ 1 _ rfl;(with_reducible repeat (first | refine blk_drewN ?_ _ | refine blk_drew ?_ | refine blk_alloc ?_ _));refine blk_put (cs:=#[.int .i64 x212000_1,.int .i64 x212001_1]) ?_ 0 _ rfl;(with_reducible repeat (first | refine blk_drewN ?_ _ | refine blk_drew ?_ | refine blk_alloc ?_ _));exact BK211.out) Tryz.underlying116 rfl (by kernel_rfl) .nil)))) rfl ?_;exact ⟨zq4,zq133⟩
theorem rf04_Date.calls (k:Nat) (a0 r1 r2 r3 r4:Int) (w:World) (h:rf04_Date.f k a0=some (r1,r2,r3,r4)) :
  Calls Tryz.prog 78 #[.int .i64 a0] w fun e w'=>e=.returned (.tuple #[.agg #[.int .i64 r1,.int .i64 r2,.int .i64 r3],.int .i64 r4])∧Below w.heap.size w w':=by
 have hu112:=Tryz.underlying112;have HB:=sd (Below.refl w.heap.size w);have H:=h;clear h;unfold rf04_Date.f at H;replace H:=bdI H;obtain ⟨t298,A2,H⟩:=H;(try dsimp only at H)
 by_cases c3:t298=true
 ·subst c3;rw [if_pos rfl] at H;have H':=sd H;clear H;go_enter Tryz.func78,Tryz.ntmps78
  go_wp2_with (first | ((with_reducible refine gate_dst (N:=2) rfl ?_);refine bxA 2 #[.int .i64 0,.int .i64 0,.int .i64 0] 112 ?_;intro gb297 hg w4 hbox hb;have BK297:=sd (hbox);have GW297:=gem hg HB;have GE297:=GW297;replace HB:=hbm HB hb;clear hb hbox hg) | ((with_reducible refine gate_callee (f:=57) rfl ?_);refine gL 7 Tryz.func57 #[.int .i64 a0] ?_;(with_reducible refine (rf04_Is.calls a0 true _ A2.out).mono ?_);rintro e w' ⟨rfl,⟨nd,rfl⟩⟩;refine ⟨_,rfl,?_⟩))
  go_loopg [4,5] k (fun kq v4 v5 w'=>∃ (x4_1:Int) (x5_1:Int),v4=.int .i64 x4_1∧v5=.int .i64 x5_1∧Aside0 (rf04_Date.l0 kq x4_1 x5_1=some (r1,r2,r3,r4))∧Aside0 (kq≤k)∧Aside0 (w'.heap[gb297]?=some (.cells #[.int .i64 0,.int .i64 0,.int .i64 0] 112 (0,0)))∧Aside0 (Below w.heap.size w w'))
  case atStart=>exact ⟨(0),(a0),zq7,zq7,H',⟨Nat.le_refl _⟩,⟨zq51⟩,⟨zq52⟩⟩
  case round =>
   clear H';try clear p2
   try clear c3
   obtain ⟨x4_1,x5_1,rfl,rfl,HA,HK1,BK297,HB⟩:=hrel
   cases gk with
   | zero=>exact absurd HA.out (by simp [rf04_Date.l0])
   | succ k1 =>
    have H:=HA.out;clear HA;simp only [rf04_Date.l0] at H
    replace H:=bdI H;obtain ⟨t299,A5,H⟩:=H;(try dsimp only at H)
    replace H:=ifI H;rcases H with ⟨c6,H⟩ | ⟨c6,H⟩
    ·have c6b0:decide (t299≤x5_1)=true:=decide_eq_true c6;clear c6;replace H:=bdI H;obtain ⟨t300,A7,H⟩:=H;(try dsimp only at H)
     have H':=sd H;clear H;go_wp2_with (first | ((with_reducible refine gate_callee (f:=105) rfl ?_);refine gL 18 Tryz.func105 #[.int .i64 (wrap64 (1900+(wrap64 (Int.tdiv x4_1 12)))),.int .i64 (wrap64 ((Int.tmod x4_1 12)+1))] ?_;(with_reducible refine (rf04_Length.calls k1 (wrap64 (1900+(wrap64 (Int.tdiv x4_1 12)))) (wrap64 ((Int.tmod x4_1 12)+1)) t299 _ A5.out).mono ?_);rintro e w8 ⟨rfl,hb⟩;refine ⟨_,rfl,?_⟩;replace BK297:=bkm BK297 hb;replace HB:=hbm HB hb;clear hb) | ((with_reducible refine gate_callee (f:=105) rfl ?_);refine gL 27 Tryz.func105 #[.int .i64 (wrap64 (1900+(wrap64 (Int.tdiv x4_1 12)))),.int .i64 (wrap64 ((Int.tmod x4_1 12)+1))] ?_;(with_reducible refine (rf04_Length.calls k1 (wrap64 (1900+(wrap64 (Int.tdiv x4_1 12)))) (wrap64 ((Int.tmod x4_1 12)+1)) t300 _ A7.out).mono ?_);rintro e w9 ⟨rfl,hb⟩;refine ⟨_,rfl,?_⟩;replace BK297:=bkm BK297 hb;replace HB:=hbm HB hb;clear hb))
     go_roundg k1
     case measure=>have:=HK1.out;omega
     case rel=>exact ⟨(wrap64 (x4_1+1)),(wrap64 (x5_1 - t300)),zq7,zq7,H',⟨by have:=HK1.out;omega⟩,⟨zq51⟩,⟨zq52⟩⟩
    have c6b0:decide (t299≤x5_1)=false:=decide_eq_false c6;clear c6;simp only [Option.some.injEq,Prod.mk.injEq] at H
    obtain ⟨rfl,rfl,rfl,rfl⟩:=H;go_wp2_with (first | ((with_reducible refine gate_callee (f:=105) rfl ?_);refine gL 18 Tryz.func105 #[.int .i64 (wrap64 (1900+(wrap64 (Int.tdiv x4_1 12)))),.int .i64 (wrap64 ((Int.tmod x4_1 12)+1))] ?_;(with_reducible refine (rf04_Length.calls k1 (wrap64 (1900+(wrap64 (Int.tdiv x4_1 12)))) (wrap64 ((Int.tmod x4_1 12)+1)) t299 _ A5.out).mono ?_);rintro e w10 ⟨rfl,hb⟩;refine ⟨_,rfl,?_⟩;replace BK297:=bkm BK297 hb;replace HB:=hbm HB hb;clear hb;obtain ⟨_,_,_,_,_,_⟩:=bk3 BK297))
    refine bodyPost_ret (results_ct rfl _ _ gb297 112 #[.int .i64 (wrap64 (1900+(wrap64 (Int.tdiv x4_1 12)))),.int .i64 (wrap64 ((Int.tmod x4_1 12)+1)),.int .i64 (wrap64 (x5_1+1))] (0,0) _ rfl (by (with_reducible repeat (first | refine blk_drewN ?_ _ | refine blk_drew ?_ | refine blk_alloc ?_ _));refine blk_put (cs:=#[.int .i64 (wrap64 (1900+(wrap64 (Int.tdiv x4_1 12)))),.int .i64 (wrap64 ((Int.tmod x4_1 12)+1)),.int .i64 0]) ?_ 2 _ rfl;(with_reducible repeat (first | refine blk_drewN ?_ _ | refine blk_drew ?_ | refine blk_alloc ?_ _));refine blk_put (cs:=#[.int .i64 (wrap64 (1900+(wrap64 (Int.tdiv x4_1 12)))),.int .i64 0,.int .i64 0]) ?_ 1 _ rfl;(with_reducible repeat (first | refine blk_drewN ?_ _ | refine blk_drew ?_ | refine blk_alloc ?_ _));refine blk_put (cs:=#[.int .i64 0,.int .i64 0,.int .i64 0]) ?_ 0 _ rfl;(with_reducible repeat (first | refine blk_drewN ?_ _ | refine blk_drew ?_ | refine blk_alloc ?_ _));exact BK297.out) Tryz.underlying112 rfl (by kernel_rfl)) rfl ?_;exact ⟨zq4,zq52⟩
 replace c3:=Bool.eq_false_iff.mpr c3;subst c3;rw [if_neg Bool.false_ne_true] at H;simp only [Option.some.injEq,Prod.mk.injEq] at H
 obtain ⟨rfl,rfl,rfl,rfl⟩:=H;go_enter Tryz.func78,Tryz.ntmps78
 go_wp2_with (first | ((with_reducible refine gate_dst (N:=2) rfl ?_);refine bxA 2 #[.int .i64 0,.int .i64 0,.int .i64 0] 112 ?_;intro gb297 hg w12 hbox hb;have BK297:=sd (hbox);have GW297:=gem hg HB;have GE297:=GW297;replace HB:=hbm HB hb;clear hb hbox hg) | ((with_reducible refine gate_callee (f:=57) rfl ?_);refine gL 7 Tryz.func57 #[.int .i64 a0] ?_;(with_reducible refine (rf04_Is.calls a0 false _ A2.out).mono ?_);rintro e w' ⟨rfl,⟨nd,rfl⟩⟩;refine ⟨_,rfl,?_⟩;(try (rw [drewN_self w12];generalize hq_:World.drewN w12 _=w12;have n0_:Aside0 (w12.heap[gb297]?=some (.cells #[.int .i64 0,.int .i64 0,.int .i64 0] 112 (0,0))):=⟨by rw [← hq_];exact zq51⟩;have n1_:Aside0 (Below w.heap.size w w12):=⟨by rw [← hq_];exact zq52⟩;clear BK297 HB hq_;have BK297:=n0_;have HB:=n1_;clear n0_ n1_;(try (have hdBK297_0:=(blk_cell BK297.out 0).trans rfl;have heBK297_0:=blk_frozen BK297.out 0;have hdBK297_1:=(blk_cell BK297.out 1).trans rfl;have heBK297_1:=blk_frozen BK297.out 1;have hdBK297_2:=(blk_cell BK297.out 2).trans rfl;have heBK297_2:=blk_frozen BK297.out 2))));obtain ⟨_,_,_,_,_,_⟩:=bk3 BK297))
 refine bodyPost_ret (results_ct rfl _ _ gb297 112 #[.int .i64 0,.int .i64 0,.int .i64 0] (0,0) _ rfl (by (with_reducible repeat (first | refine blk_drewN ?_ _ | refine blk_drew ?_ | refine blk_alloc ?_ _));refine blk_put (cs:=#[.int .i64 0,.int .i64 0,.int .i64 0]) ?_ 2 _ rfl;(with_reducible repeat (first | refine blk_drewN ?_ _ | refine blk_drew ?_ | refine blk_alloc ?_ _));refine blk_put (cs:=#[.int .i64 0,.int .i64 0,.int .i64 0]) ?_ 1 _ rfl;(with_reducible repeat (first | refine blk_drewN ?_ _ | refine blk_drew ?_ | refine blk_alloc ?_ _));refine blk_put (cs:=#[.int .i64 0,.int .i64 0,.int .i64 0]) ?_ 0 _ rfl;(with_reducible repeat (first | refine blk_drewN ?_ _ | refine blk_drew ?_ | refine blk_alloc ?_ _));exact BK297.out) Tryz.underlying112 rfl (by kernel_rfl)) rfl ?_;exact ⟨zq4,zq52⟩
end Go.Proofs.YtkbgkekegjfkfaaGreatDoor.A
namespace Go.Proofs.YtkbgkekegjfkfaaGreatDoor.A
open Go.RowKit B WW WL WM
attribute [local go_sem] max2_int min2_int max_two min_two max_three min_three max_four min_four
set_option maxHeartbeats 8000000
set_option maxRecDepth 100000
attribute [local go_sem high] eqA50
theorem rf48_Check.calls (k:Nat) (a0_0:ByteArray) (A0_1:Option Addr) (c0_1:Nat) (l0_1:List (S48)) (a0_2 a0_3:ByteArray) (A0_4:Option Addr) (c0_4:Nat) (l0_4:List (S50)) (r:Int) (w:World) (hr0_1:Kd.C k48 w A0_1 l0_1.length l0_1) (hc0_1:l0_1.length≤c0_1) (hr0_4:Kd.C k50 w A0_4 l0_4.length l0_4) (hc0_4:l0_4.length≤c0_4) (h:rf48_Check.f k a0_0 l0_1 a0_2 a0_3 l0_4=some r) :
  Calls Tryz.prog 10 #[.agg #[.string a0_0,.slice A0_1 l0_1.length c0_1,.string a0_2,.string a0_3,.slice A0_4 l0_4.length c0_4]] w fun e w'=>e=.returned (.int .i64 r)∧Below w.heap.size w w':=by
 have hu25:=Tryz.underlying25;have hu48:=Tryz.underlying48;have HR0_1:=sd hr0_1;have HC0_1:=sd hc0_1;clear hr0_1 hc0_1;have HR0_4:=sd hr0_4;have HC0_4:=sd hc0_4;clear hr0_4 hc0_4;have HB:=sd (Below.refl w.heap.size w);have H:=h;clear h;unfold rf48_Check.f at H;have HC2:=sd H;clear H;go_enter Tryz.func10,Tryz.ntmps10
 go_upto_region 1 with (first | ((with_reducible refine gate_dst (N:=1) rfl ?_);refine bxA 1 #[.string a0_0,.slice A0_1 l0_1.length c0_1,.string a0_2,.string a0_3,.slice A0_4 l0_4.length c0_4] 25 ?_;intro gb149 hg w3 hbox hb;have BK149:=sd (hbox);have GW149:=gem hg HB;have GE149:=GW149;replace HB:=hbm HB hb;clear hb hbox hg))
 (try simp only [Act.put,List.setIfInBounds_toArray,List.set_cons_zero,List.set_cons_succ])
 go_cut [25] (fun v25 wc=>∃ (kq:Nat) (x25_1:Bool),v25=.bool x25_1∧Aside0 (rf48_Check.j0 kq x25_1 a0_0 l0_1 a0_2 a0_3 l0_4=some r)∧Aside0 (kq≤k)∧Aside0 (wc.heap[gb149]?=some (.cells #[.string a0_0,(.slice A0_1 l0_1.length c0_1),.string a0_2,.string a0_3,(.slice A0_4 l0_4.length c0_4)] 25 (0,0)))∧Aside0 (Below w.heap.size w wc))
 case first =>
  have H:=HC2.out;clear HC2;replace H:=bdI H;obtain ⟨t150,A4,H⟩:=H;(try dsimp only at H)
  by_cases c5:t150=true
  ·subst c5;rw [if_pos rfl] at H;replace H:=bdI H;obtain ⟨t151,A6,H⟩:=H;(try dsimp only at H)
   by_cases c7:t151=true
   ·subst c7;rw [if_pos rfl] at H;replace H:=ifI H;rcases H with ⟨c8,H⟩ | ⟨c8,H⟩
    ·obtain ⟨c8b0,c8b1⟩:=eqI c8;clear c8;(first | rw [c8b0] | (simp only [i64_w,i32_w];rw [c8b0]) | skip)
     have H':=sd H;clear H;obtain ⟨_,_,_,_,_,_,_,_,_,_⟩:=bk5 BK149;go_wp2_with (first | ((with_reducible refine gate_callee (f:=24) rfl ?_);refine gL 7 Tryz.func24 #[.string a0_0] ?_;(with_reducible refine (rf06_Code.calls k a0_0 true _ A4.out).mono ?_);rintro e w' ⟨rfl,⟨nd,rfl⟩⟩;refine ⟨_,rfl,?_⟩) | (go_at_call 24;(with_reducible refine (rf06_Code.calls k a0_2 true _ A6.out).mono ?_);rintro e w' ⟨rfl,⟨nd,rfl⟩⟩))
     go_meet
     case rel=>exact ⟨_,(false),zq7,H',⟨by first | omega | exact Nat.le_refl _⟩,⟨zq38⟩,⟨zq39⟩⟩
    obtain ⟨c8b0,c8b1⟩:=neI c8;(first | rw [c8b0] | (simp only [i64_w,i32_w];rw [c8b0]) | skip)
    replace H:=bdI H;obtain ⟨t152,A10,H⟩:=H;(try dsimp only at H)
    have H':=sd H;clear H;obtain ⟨_,_,_,_,_,_,_,_,_,_⟩:=bk5 BK149;go_wp2_with (first | ((with_reducible refine gate_callee (f:=24) rfl ?_);refine gL 7 Tryz.func24 #[.string a0_0] ?_;(with_reducible refine (rf06_Code.calls k a0_0 true _ A4.out).mono ?_);rintro e w' ⟨rfl,⟨nd,rfl⟩⟩;refine ⟨_,rfl,?_⟩) | (go_at_call 24;(with_reducible refine (rf06_Code.calls k a0_2 true _ A6.out).mono ?_);rintro e w' ⟨rfl,⟨nd,rfl⟩⟩) | (go_at_call 24;(with_reducible refine (rf06_Code.calls k a0_3 t152 _ A10.out).mono ?_);rintro e w' ⟨rfl,⟨nd,rfl⟩⟩))
    go_meet
    case rel=>exact ⟨_,(!t152),zq7,H',⟨by first | omega | exact Nat.le_refl _⟩,⟨zq38⟩,⟨zq39⟩⟩
   replace c7:=Bool.eq_false_iff.mpr c7;subst c7;rw [if_neg Bool.false_ne_true] at H;have H':=sd H;clear H;obtain ⟨_,_,_,_,_,_,_,_,_,_⟩:=bk5 BK149;go_wp2_with (first | ((with_reducible refine gate_callee (f:=24) rfl ?_);refine gL 7 Tryz.func24 #[.string a0_0] ?_;(with_reducible refine (rf06_Code.calls k a0_0 true _ A4.out).mono ?_);rintro e w' ⟨rfl,⟨nd,rfl⟩⟩;refine ⟨_,rfl,?_⟩) | (go_at_call 24;(with_reducible refine (rf06_Code.calls k a0_2 false _ A6.out).mono ?_);rintro e w' ⟨rfl,⟨nd,rfl⟩⟩))
   go_meet
   case rel=>exact ⟨_,(true),zq7,H',⟨by first | omega | exact Nat.le_refl _⟩,⟨zq38⟩,⟨zq39⟩⟩
  replace c5:=Bool.eq_false_iff.mpr c5;subst c5;rw [if_neg Bool.false_ne_true] at H;have H':=sd H;clear H;obtain ⟨_,_,_,_,_,_,_,_,_,_⟩:=bk5 BK149;go_wp2_with (first | ((with_reducible refine gate_callee (f:=24) rfl ?_);refine gL 7 Tryz.func24 #[.string a0_0] ?_;(with_reducible refine (rf06_Code.calls k a0_0 false _ A4.out).mono ?_);rintro e w' ⟨rfl,⟨nd,rfl⟩⟩;refine ⟨_,rfl,?_⟩))
  go_meet
  case rel=>exact ⟨_,(true),zq7,H',⟨by first | omega | exact Nat.le_refl _⟩,⟨zq38⟩,⟨zq39⟩⟩
 case rest =>
  clear HC2;try clear c1
  try clear c2
  try clear p2
  try clear c5
  try clear c7
  try clear c8
  try clear c8b0
  try clear c8b1
  try clear c10
  try clear hcz11_0
  try clear hcz11_1
  try clear hcz11_2
  try clear hcz11_3
  try clear hcz11_4
  try clear hcz12_0
  try clear hcz12_1
  try clear hcz12_2
  try clear hcz12_3
  try clear hcz12_4
  try clear hcz13_0
  try clear hcz13_1
  try clear hcz13_2
  try clear hcz13_3
  try clear hcz13_4
  try clear hcz9_0
  try clear hcz9_1
  try clear hcz9_2
  try clear hcz9_3
  try clear hcz9_4
  try clear hfz11_0
  try clear hfz11_1
  try clear hfz11_2
  try clear hfz11_3
  try clear hfz11_4
  try clear hfz12_0
  try clear hfz12_1
  try clear hfz12_2
  try clear hfz12_3
  try clear hfz12_4
  try clear hfz13_0
  try clear hfz13_1
  try clear hfz13_2
  try clear hfz13_3
  try clear hfz13_4
  try clear hfz9_0
  try clear hfz9_1
  try clear hfz9_2
  try clear hfz9_3
  try clear hfz9_4
  obtain ⟨kq,x25_1,rfl,HA,HJ1,BK149,HB⟩:=hcut
  cases kq with
  | zero=>exact absurd HA.out (by simp [rf48_Check.j0])
  | succ kj1 =>
   have H:=HA.out;clear HA;simp only [rf48_Check.j0] at H
   by_cases c14:x25_1=true
   ·subst c14;rw [if_pos rfl] at H;obtain rfl:=Option.some.inj H;go_wp2
    go_ret
    exact ⟨zq4,zq39⟩
   replace c14:=Bool.eq_false_iff.mpr c14;subst c14;rw [if_neg Bool.false_ne_true] at H;replace H:=bdI H;obtain ⟨t153,A15,H⟩:=H;(try dsimp only at H)
   by_cases c16:t153=true
   ·subst c16;rw [if_pos rfl] at H;replace H:=ifI H;rcases H with ⟨c17,H⟩ | ⟨c17,H⟩
    ·obtain ⟨c17b0,c17b1⟩:=eqI c17;clear c17;obtain rfl:=Option.some.inj H;obtain ⟨_,_,_,_,_,_,_,_,_,_⟩:=bk5 BK149;go_wp2_with (first | ((with_reducible refine gate_callee (f:=25) rfl ?_);refine gL 28 Tryz.func25 #[.slice A0_4 l0_4.length c0_4] ?_;(with_reducible refine (rf09_Right.calls kj1 _ _ l0_4 true _ ?side1 ?side2 A15.out).mono ?_);(case side1=>exact zq40);(case side2=>exact HC0_4.out);rintro e w19 ⟨rfl,hb⟩;refine ⟨_,rfl,?_⟩;replace BK149:=bkm BK149 hb;replace HB:=hbm HB hb;clear hb;obtain ⟨_,_,_,_,_,_,_,_,_,_⟩:=bk5 BK149))
     go_ret
     exact ⟨zq4,zq39⟩
    obtain ⟨c17b0,c17b1⟩:=neI c17;have c17b2:¬ (l0_1=[]):=fun h_=>c17 (by rw [h_];rfl)
    replace H:=ifI H;rcases H with ⟨c21,H⟩ | ⟨c21,H⟩
    ·have c21b0:decide (8 < (l0_1.length:Int))=true:=decide_eq_true c21;have c21b1:decide (8 < l0_1.length)=true:=decide_eq_true (by omega);clear c21;obtain rfl:=Option.some.inj H;obtain ⟨_,_,_,_,_,_,_,_,_,_⟩:=bk5 BK149;go_wp2_with (first | ((with_reducible refine gate_callee (f:=25) rfl ?_);refine gL 28 Tryz.func25 #[.slice A0_4 l0_4.length c0_4] ?_;(with_reducible refine (rf09_Right.calls kj1 _ _ l0_4 true _ ?side1 ?side2 A15.out).mono ?_);(case side1=>exact zq40);(case side2=>exact HC0_4.out);rintro e w23 ⟨rfl,hb⟩;refine ⟨_,rfl,?_⟩;replace BK149:=bkm BK149 hb;replace HB:=hbm HB hb;clear hb;obtain ⟨_,_,_,_,_,_,_,_,_,_⟩:=bk5 BK149))
     go_ret
     exact ⟨zq4,zq39⟩
    have c21b0:decide (8 < (l0_1.length:Int))=false:=decide_eq_false c21;have c21b1:decide (8 < l0_1.length)=false:=decide_eq_false (by omega);clear c21;have H':=sd H;clear H;obtain ⟨_,_,_,_,_,_,_,_,_,_⟩:=bk5 BK149;go_wp2_with (first | ((with_reducible refine gate_callee (f:=25) rfl ?_);refine gL 28 Tryz.func25 #[.slice A0_4 l0_4.length c0_4] ?_;(with_reducible refine (rf09_Right.calls kj1 _ _ l0_4 true _ ?side1 ?side2 A15.out).mono ?_);(case side1=>exact zq40);(case side2=>exact HC0_4.out);rintro e w26 ⟨rfl,hb⟩;refine ⟨_,rfl,?_⟩;replace BK149:=bkm BK149 hb;replace HB:=hbm HB hb;clear hb;obtain ⟨_,_,_,_,_,_,_,_,_,_⟩:=bk5 BK149))
    go_loopg [3] kj1 (fun kq v3 w'=>∃ (x3_2:Int),v3=.int .i64 x3_2∧Aside0 (rf48_Check.l0 kq x3_2 a0_0 l0_1 a0_2 a0_3 l0_4=some r)∧Aside0 (kq≤kj1)∧Aside0 (w'.heap[gb149]?=some (.cells #[.string a0_0,(.slice A0_1 l0_1.length c0_1),.string a0_2,.string a0_3,(.slice A0_4 l0_4.length c0_4)] 25 (0,0)))∧Aside0 (Below w.heap.size w w'))
    case atStart=>exact ⟨(0),zq7,H',⟨Nat.le_refl _⟩,⟨zq38⟩,⟨zq39⟩⟩
    case round =>
     clear H';try clear c1
     try clear c2
     try clear p2
     try clear c5
     try clear c7
     try clear c8
     try clear c8b0
     try clear c8b1
     try clear c10
     try clear c14
     try clear c16
     try clear c17
     try clear c17b0
     try clear c17b1
     try clear c17b2
     try clear c21
     try clear c21b0
     try clear c21b1
     try clear c24
     try clear c25
     try clear hcz11_0
     try clear hcz11_1
     try clear hcz11_2
     try clear hcz11_3
     try clear hcz11_4
     try clear hcz12_0
     try clear hcz12_1
     try clear hcz12_2
     try clear hcz12_3
     try clear hcz12_4
     try clear hcz13_0
     try clear hcz13_1
     try clear hcz13_2
     try clear hcz13_3
     try clear hcz13_4
     try clear hcz18_0
     try clear hcz18_1
     try clear hcz18_2
     try clear hcz18_3
     try clear hcz18_4
     try clear hcz20_0
     try clear hcz20_1
     try clear hcz20_2
     try clear hcz20_3
     try clear hcz20_4
     try clear hcz22_0
     try clear hcz22_1
     try clear hcz22_2
     try clear hcz22_3
     try clear hcz22_4
     try clear hcz24_0
     try clear hcz24_1
     try clear hcz24_2
     try clear hcz24_3
     try clear hcz24_4
     try clear hcz25_0
     try clear hcz25_1
     try clear hcz25_2
     try clear hcz25_3
     try clear hcz25_4
     try clear hcz27_0
     try clear hcz27_1
     try clear hcz27_2
     try clear hcz27_3
     try clear hcz27_4
     try clear hcz9_0
     try clear hcz9_1
     try clear hcz9_2
     try clear hcz9_3
     try clear hcz9_4
     try clear hfz11_0
     try clear hfz11_1
     try clear hfz11_2
     try clear hfz11_3
     try clear hfz11_4
     try clear hfz12_0
     try clear hfz12_1
     try clear hfz12_2
     try clear hfz12_3
     try clear hfz12_4
     try clear hfz13_0
     try clear hfz13_1
     try clear hfz13_2
     try clear hfz13_3
     try clear hfz13_4
     try clear hfz18_0
     try clear hfz18_1
     try clear hfz18_2
     try clear hfz18_3
     try clear hfz18_4
     try clear hfz20_0
     try clear hfz20_1
     try clear hfz20_2
     try clear hfz20_3
     try clear hfz20_4
     try clear hfz22_0
     try clear hfz22_1
     try clear hfz22_2
     try clear hfz22_3
     try clear hfz22_4
     try clear hfz24_0
     try clear hfz24_1
     try clear hfz24_2
     try clear hfz24_3
     try clear hfz24_4
     try clear hfz25_0
     try clear hfz25_1
     try clear hfz25_2
     try clear hfz25_3
     try clear hfz25_4
     try clear hfz27_0
     try clear hfz27_1
     try clear hfz27_2
     try clear hfz27_3
     try clear hfz27_4
     try clear hfz9_0
     try clear hfz9_1
     try clear hfz9_2
     try clear hfz9_3
     try clear hfz9_4
     try clear p2
     obtain ⟨x3_2,rfl,HA,HK2,BK149,HB⟩:=hrel
     cases gk with
     | zero=>exact absurd HA.out (by simp [rf48_Check.l0])
     | succ k2 =>
      have H:=HA.out;clear HA;simp only [rf48_Check.l0] at H
      replace H:=ifI H;rcases H with ⟨c28,H⟩ | ⟨c28,H⟩
      ·have c28b0:decide (x3_2 < (l0_1.length:Int))=true:=decide_eq_true c28;clear c28;replace H:=ifI H;rcases H with ⟨c29,H⟩ | ⟨c29,H⟩
       ·have c29b0:decide (0≤x3_2)=true:=decide_eq_true c29;clear c29;replace H:=bdI H;obtain ⟨t155,A30,H⟩:=H;(try dsimp only at H)
        replace H:=ifI H;rcases H with ⟨c31,H⟩ | ⟨c31,H⟩
        ·obtain ⟨c31b0,c31b1⟩:=eqI c31;clear c31;have H':=sd H;clear H;obtain ⟨_,_,_,_,_,_,_,_,_,_⟩:=bk5 BK149;have p154:0≤(x3_2:Int):=od;have q154:x3_2 < (l0_1.length:Int):=od;obtain ⟨ad154,e154,hx154_0,hx154_1,hx154_2,hx154_3⟩:=at_T48 HR0_1.out x3_2 p154 q154
         cases e154
         replace hx154_0:=(HB.out.cell (World.block_lt_of_cell? w _ hx154_0)).trans hx154_0;replace hx154_1:=(HB.out.cell (World.block_lt_of_cell? w _ hx154_1)).trans hx154_1;replace hx154_2:=(HB.out.cell (World.block_lt_of_cell? w _ hx154_2)).trans hx154_2;replace hx154_3:=(HB.out.cell (World.block_lt_of_cell? w _ hx154_3)).trans hx154_3;replace p154:=eq_true p154;replace q154:=eq_true q154;go_wp2_with (first | ((with_reducible refine gate_callee (f:=26) rfl ?_);refine gL 50 Tryz.func26 #[.agg #[.int .i64 ((rd_T48 l0_1 x3_2).f0),.int .i64 ((rd_T48 l0_1 x3_2).f1),.string ((rd_T48 l0_1 x3_2).f2),.int .i64 ((rd_T48 l0_1 x3_2).f3)]] ?_;(with_reducible refine (rf48_condition.calls k2 ((rd_T48 l0_1 x3_2).f0) ((rd_T48 l0_1 x3_2).f1) ((rd_T48 l0_1 x3_2).f2) ((rd_T48 l0_1 x3_2).f3) t155 _ A30.out).mono ?_);rintro e w33 ⟨rfl,hb⟩;refine ⟨_,rfl,?_⟩;replace BK149:=bkm BK149 hb;replace HB:=hbm HB hb;clear hb))
         go_roundg k2
         case measure=>have:=HJ1.out;have:=HK2.out;omega
         case rel=>exact ⟨(wrap64 (x3_2+1)),zq7,H',⟨zq23⟩,⟨zq38⟩,⟨zq39⟩⟩
        obtain ⟨c31b0,c31b1⟩:=neI c31;obtain rfl:=Option.some.inj H;obtain ⟨_,_,_,_,_,_,_,_,_,_⟩:=bk5 BK149;have p154:0≤(x3_2:Int):=od;have q154:x3_2 < (l0_1.length:Int):=od;obtain ⟨ad154,e154,hx154_0,hx154_1,hx154_2,hx154_3⟩:=at_T48 HR0_1.out x3_2 p154 q154
        cases e154
        replace hx154_0:=(HB.out.cell (World.block_lt_of_cell? w _ hx154_0)).trans hx154_0;replace hx154_1:=(HB.out.cell (World.block_lt_of_cell? w _ hx154_1)).trans hx154_1;replace hx154_2:=(HB.out.cell (World.block_lt_of_cell? w _ hx154_2)).trans hx154_2;replace hx154_3:=(HB.out.cell (World.block_lt_of_cell? w _ hx154_3)).trans hx154_3;replace p154:=eq_true p154;replace q154:=eq_true q154;go_wp2_with (first | ((with_reducible refine gate_callee (f:=26) rfl ?_);refine gL 50 Tryz.func26 #[.agg #[.int .i64 ((rd_T48 l0_1 x3_2).f0),.int .i64 ((rd_T48 l0_1 x3_2).f1),.string ((rd_T48 l0_1 x3_2).f2),.int .i64 ((rd_T48 l0_1 x3_2).f3)]] ?_;(with_reducible refine (rf48_condition.calls k2 ((rd_T48 l0_1 x3_2).f0) ((rd_T48 l0_1 x3_2).f1) ((rd_T48 l0_1 x3_2).f2) ((rd_T48 l0_1 x3_2).f3) t155 _ A30.out).mono ?_);rintro e w35 ⟨rfl,hb⟩;refine ⟨_,rfl,?_⟩;replace BK149:=bkm BK149 hb;replace HB:=hbm HB hb;clear hb))
        go_ret
        exact ⟨zq4,zq39⟩
       exact absurd H (by simp)
      have c28b0:decide (x3_2 < (l0_1.length:Int))=false:=decide_eq_false c28;clear c28;obtain rfl:=Option.some.inj H;obtain ⟨_,_,_,_,_,_,_,_,_,_⟩:=bk5 BK149;go_wp2
      go_ret
      exact ⟨zq4,zq39⟩
   replace c16:=Bool.eq_false_iff.mpr c16;subst c16;rw [if_neg Bool.false_ne_true] at H;obtain rfl:=Option.some.inj H;obtain ⟨_,_,_,_,_,_,_,_,_,_⟩:=bk5 BK149;go_wp2_with (first | ((with_reducible refine gate_callee (f:=25) rfl ?_);refine gL 28 Tryz.func25 #[.slice A0_4 l0_4.length c0_4] ?_;(with_reducible refine (rf09_Right.calls kj1 _ _ l0_4 false _ ?side1 ?side2 A15.out).mono ?_);(case side1=>exact zq40);(case side2=>exact HC0_4.out);rintro e w38 ⟨rfl,hb⟩;refine ⟨_,rfl,?_⟩;replace BK149:=bkm BK149 hb;replace HB:=hbm HB hb;clear hb))
   go_ret
   exact ⟨zq4,zq39⟩
end Go.Proofs.YtkbgkekegjfkfaaGreatDoor.A
