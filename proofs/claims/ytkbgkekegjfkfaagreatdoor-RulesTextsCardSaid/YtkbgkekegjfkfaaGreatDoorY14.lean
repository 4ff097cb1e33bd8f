-- By pack.py, a program of this session's.
import Derived.Test.YtkbgkekegjfkfaaGreatDoorY9
import Derived.Test.YtkbgkekegjfkfaaGreatDoorY10
import Derived.Test.YtkbgkekegjfkfaaGreatDoorY11
set_option linter.unusedVariables false
set_option linter.unusedSimpArgs false
namespace Go.Proofs.YtkbgkekegjfkfaaGreatDoor.A
open Go.RowKit B WW WL WM
attribute [local go_sem] max2_int min2_int max_two min_two max_three min_three max_four min_four
set_option maxHeartbeats 8000000
set_option maxRecDepth 100000
theorem rf48_Text.calls (k:Nat) (a0_0:ByteArray) (A0_1:Option Addr) (c0_1:Nat) (l0_1:List (S48)) (a0_2 a0_3:ByteArray) (A0_4:Option Addr) (c0_4:Nat) (l0_4:List (S50)) (r1:ByteArray) (r2:Int) (w:World) (hr0_1:Kd.C k48 w A0_1 l0_1.length l0_1) (hc0_1:l0_1.length≤c0_1) (hr0_4:Kd.C k50 w A0_4 l0_4.length l0_4) (hc0_4:l0_4.length≤c0_4) (h:rf48_Text.f k a0_0 l0_1 a0_2 a0_3 l0_4=some (r1,r2)) :
  Calls Tryz.prog 17 #[.agg #[.string a0_0,.slice A0_1 l0_1.length c0_1,.string a0_2,.string a0_3,.slice A0_4 l0_4.length c0_4]] w fun e w'=>e=.returned (.tuple #[.string r1,.int .i64 r2])∧Below w.heap.size w w':=by
 have hu25:=Tryz.underlying25;have hu48:=Tryz.underlying48;have HR0_1:=sd hr0_1;have HC0_1:=sd hc0_1;clear hr0_1 hc0_1;have HR0_4:=sd hr0_4;have HC0_4:=sd hc0_4;clear hr0_4 hc0_4;have HB:=sd (Below.refl w.heap.size w);have H:=h;clear h;unfold rf48_Text.f at H;replace H:=bdI H;obtain ⟨t342,A2,H⟩:=H;(try dsimp only at H)
 replace H:=ifI H;rcases H with ⟨c3,H⟩ | ⟨c3,H⟩
 ·obtain ⟨c3b0,c3b1⟩:=eqI c3;try (change ByteArray.toList _=[] at c3;obtain ⟨c3e0,c3e1⟩:=isE_t c3;(try rw [c3e0]))
  clear c3;replace H:=ifI H;rcases H with ⟨c4,H⟩ | ⟨c4,H⟩
  ·have c4b0:=eq_true c4;have c4b1:decide (5+a0_0.size≤9223372036854775807)=true:=decide_eq_true c4;try have c4b2:(9223372036854775807 < 5+a0_0.size)=False:=eq_false (Nat.not_lt.2 c4)
   replace H:=ifI H;rcases H with ⟨c5,H⟩ | ⟨c5,H⟩
   ·have c5b0:=eq_true c5;have c5b1:decide (((⟨#[114,117,108,101,32]⟩:ByteArray)++a0_0).size+3≤9223372036854775807)=true:=decide_eq_true c5;try have c5b2:(9223372036854775807 < ((⟨#[114,117,108,101,32]⟩:ByteArray)++a0_0).size+3)=False:=eq_false (Nat.not_lt.2 c5)
    try have c5y:(9223372036854775807 < 5+a0_0.size+3)=False:=by have h_:=c5b2;simp only [ByteArray.size_append] at h_;exact h_
    have H':=sd H;clear H;go_enter Tryz.func17,Tryz.ntmps17
    go_wp2_with (first | ((with_reducible refine gate_dst (N:=1) rfl ?_);refine bxA 1 #[.string a0_0,.slice A0_1 l0_1.length c0_1,.string a0_2,.string a0_3,.slice A0_4 l0_4.length c0_4] 25 ?_;intro gb341 hg w6 hbox hb;have BK341:=sd (hbox);have GW341:=gem hg HB;have GE341:=GW341;replace HB:=hbm HB hb;clear hb hbox hg;obtain ⟨_,_,_,_,_,_,_,_,_,_⟩:=bk5 BK341) | ((with_reducible refine gate_callee (f:=10) rfl ?_);refine gL 11 Tryz.func10 #[.agg #[.string a0_0,.slice A0_1 l0_1.length c0_1,.string a0_2,.string a0_3,.slice A0_4 l0_4.length c0_4]] ?_;(with_reducible refine (rf48_Check.calls k a0_0 _ _ l0_1 a0_2 a0_3 _ _ l0_4 t342 _ ?side1 ?side2 ?side3 ?side4 A2.out).mono ?_);(case side1=>exact zq48);(case side2=>exact HC0_1.out);(case side3=>exact zq40);(case side4=>exact HC0_4.out);rintro e w8 ⟨rfl,hb⟩;refine ⟨_,rfl,?_⟩;replace BK341:=bkm BK341 hb;replace HB:=hbm HB hb;clear hb;obtain ⟨_,_,_,_,_,_,_,_,_,_⟩:=bk5 BK341))
    go_loopg [5,6] k (fun kq v5 v6 w'=>∃ (x5_1:ByteArray) (x6_1:Int),v5=.string x5_1∧v6=.int .i64 x6_1∧Aside0 (rf48_Text.l0 kq x5_1 x6_1 a0_0 l0_1 a0_2 a0_3 l0_4=some (r1,r2))∧Aside0 (kq≤k)∧Aside0 (w'.heap[gb341]?=some (.cells #[.string a0_0,(.slice A0_1 l0_1.length c0_1),.string a0_2,.string a0_3,(.slice A0_4 l0_4.length c0_4)] 25 (0,0)))∧Aside0 (Below w.heap.size w w'))
    case atStart=>exact ⟨(((⟨#[114,117,108,101,32]⟩:ByteArray)++a0_0)++(⟨#[32,105,102]⟩:ByteArray)),(0),zq7,zq7,H',⟨Nat.le_refl _⟩,⟨zq54⟩,⟨zq55⟩⟩
    case round =>
     clear H';try clear c1
     try clear p2
     try clear c3
     try clear c3b0
     try clear c3b1
     try clear c4
     try clear c4b0
     try clear c4b1
     try clear c4b2
     try clear c5
     try clear c5b0
     try clear c5b1
     try clear c5b2
     try clear hcz7_0
     try clear hcz7_1
     try clear hcz7_2
     try clear hcz7_3
     try clear hcz7_4
     try clear hcz9_0
     try clear hcz9_1
     try clear hcz9_2
     try clear hcz9_3
     try clear hcz9_4
     try clear hfz7_0
     try clear hfz7_1
     try clear hfz7_2
     try clear hfz7_3
     try clear hfz7_4
     try clear hfz9_0
     try clear hfz9_1
     try clear hfz9_2
     try clear hfz9_3
     try clear hfz9_4
     obtain ⟨x5_1,x6_1,rfl,rfl,HA,HK1,BK341,HB⟩:=hrel
     cases gk with
     | zero=>exact absurd HA.out (by simp [rf48_Text.l0])
     | succ k1 =>
      have H:=HA.out;clear HA;simp only [rf48_Text.l0] at H
      replace H:=ifI H;rcases H with ⟨c10,H⟩ | ⟨c10,H⟩
      ·have c10b0:decide (x6_1 < (l0_1.length:Int))=true:=decide_eq_true c10;clear c10;replace H:=ifI H;rcases H with ⟨c11,H⟩ | ⟨c11,H⟩
       ·have c11b0:decide (0≤x6_1)=true:=decide_eq_true c11;clear c11;have HC12:=sd H;clear H;obtain ⟨_,_,_,_,_,_,_,_,_,_⟩:=bk5 BK341;have p343:0≤(x6_1:Int):=od;have q343:x6_1 < (l0_1.length:Int):=od;obtain ⟨ad343,e343,hx343_0,hx343_1,hx343_2,hx343_3⟩:=at_T48 HR0_1.out x6_1 p343 q343
        cases e343
        replace hx343_0:=(HB.out.cell (World.block_lt_of_cell? w _ hx343_0)).trans hx343_0;replace hx343_1:=(HB.out.cell (World.block_lt_of_cell? w _ hx343_1)).trans hx343_1;replace hx343_2:=(HB.out.cell (World.block_lt_of_cell? w _ hx343_2)).trans hx343_2;replace hx343_3:=(HB.out.cell (World.block_lt_of_cell? w _ hx343_3)).trans hx343_3;replace p343:=eq_true p343;replace q343:=eq_true q343;go_upto_if 32 with (first | ((with_reducible refine gate_dst (N:=7) rfl ?_);refine bxA 7 #[.int .i64 0,.int .i64 0,.string (⟨#[]⟩:ByteArray),.int .i64 0] 48 ?_;intro gb344 hg w14 hbox hb;have BK344:=sd (hbox);have GW344:=gem hg HB;have GE344:=GW344;have NB341_344:=nlm hg BK341;have NB344_341:=ngm hg BK341;replace BK341:=bkm BK341 hb;replace HB:=hbm HB hb;clear hb hbox hg;have hnb15:=NB344_341.out;have hnc15:=NB341_344.out;obtain ⟨_,_,_,_,_,_,_,_⟩:=bk4 BK344))
        (try simp only [Act.put,List.setIfInBounds_toArray,List.set_cons_zero,List.set_cons_succ])
        go_cut [5] (fun v5 wc=>∃ (kq:Nat) (x5_11:ByteArray),v5=.string x5_11∧Aside0 (rf48_Text.j1 kq x5_11 x6_1 a0_0 l0_1 a0_2 a0_3 l0_4 ((rd_T48 l0_1 x6_1).f0) ((rd_T48 l0_1 x6_1).f1) ((rd_T48 l0_1 x6_1).f2) ((rd_T48 l0_1 x6_1).f3)=some (r1,r2))∧Aside0 (kq≤k1)∧Aside0 (wc.heap[gb341]?=some (.cells #[.string a0_0,(.slice (some ad343) l0_1.length c0_1),.string a0_2,.string a0_3,(.slice A0_4 l0_4.length c0_4)] 25 (0,0)))∧Aside0 (wc.heap[gb344]?=some (.cells #[.int .i64 ((rd_T48 l0_1 x6_1).f0),.int .i64 ((rd_T48 l0_1 x6_1).f1),.string ((rd_T48 l0_1 x6_1).f2),.int .i64 ((rd_T48 l0_1 x6_1).f3)] 48 (0,0)))∧Aside0 (Below w.heap.size w wc))
        case first =>
         have H:=HC12.out;clear HC12;replace H:=ifI H;rcases H with ⟨c17,H⟩ | ⟨c17,H⟩
         ·have c17b0:decide (0 < x6_1)=true:=decide_eq_true c17;clear c17;(first | rw [c17b0] | (simp only [i64_w,i32_w];rw [c17b0]) | skip)
          replace H:=ifI H;rcases H with ⟨c18,H⟩ | ⟨c18,H⟩
          ·have c18b0:=eq_true c18;have c18b1:decide (x5_1.size+4≤9223372036854775807)=true:=decide_eq_true c18;try have c18b2:(9223372036854775807 < x5_1.size+4)=False:=eq_false (Nat.not_lt.2 c18)
           have H':=sd H;clear H;go_wp2
           go_meet
           case rel=>exact ⟨_,(x5_1++(⟨#[32,97,110,100]⟩:ByteArray)),zq7,H',⟨zq8⟩,⟨by (with_reducible repeat (first | refine blk_drewN ?_ _ | refine blk_drew ?_ | refine blk_alloc ?_ _));refine blk_far ?_ NB341_344.out _;(with_reducible repeat (first | refine blk_drewN ?_ _ | refine blk_drew ?_ | refine blk_alloc ?_ _));refine blk_far ?_ NB341_344.out _;(with_reducible repeat (first | refine blk_drewN ?_ _ | refine blk_drew ?_ | refine blk_alloc ?_ _));refine blk_far ?_ NB341_344.out _;(with_reducible repeat (first | refine blk_drewN ?_ _ | refine blk_drew ?_ | refine blk_alloc ?_ _));refine blk_far ?_ NB341_344.out _;(with_reducible repeat (first | refine blk_drewN ?_ _ | refine blk_drew ?_ | refine blk_alloc ?_ _));exact BK341.out⟩,⟨by (with_reducible repeat (first | refine blk_drewN ?_ _ | refine blk_drew ?_ | refine blk_alloc ?_ _));refine blk_put (cs:=#[.int .i64 ((rd_T48 l0_1 x6_1).f0),.int .i64 ((rd_T48 l0_1 x6_1).f1),.string ((rd_T48 l0_1 x6_1).f2),.int .i64 0]) ?_ 3 _ rfl;(with_reducible repeat (first | refine blk_drewN ?_ _ | refine blk_drew ?_ | refine blk_alloc ?_ _));refine blk_put (cs:=#[.int .i64 ((rd_T48 l0_1 x6_1).f0),.int .i64 ((rd_T48 l0_1 x6_1).f1),.string (⟨#[]⟩:ByteArray),.int .i64 0]) ?_ 2 _ rfl;(with_reducible repeat (first | refine blk_drewN ?_ _ | refine blk_drew ?_ | refine blk_alloc ?_ _));refine blk_put (cs:=#[.int .i64 ((rd_T48 l0_1 x6_1).f0),.int .i64 0,.string (⟨#[]⟩:ByteArray),.int .i64 0]) ?_ 1 _ rfl;(with_reducible repeat (first | refine blk_drewN ?_ _ | refine blk_drew ?_ | refine blk_alloc ?_ _));refine blk_put (cs:=#[.int .i64 0,.int .i64 0,.string (⟨#[]⟩:ByteArray),.int .i64 0]) ?_ 0 _ rfl;(with_reducible repeat (first | refine blk_drewN ?_ _ | refine blk_drew ?_ | refine blk_alloc ?_ _));exact BK344.out⟩,⟨zq56⟩⟩
          exact absurd H (by simp)
         have c17b0:decide (0 < x6_1)=false:=decide_eq_false c17;clear c17;(first | rw [c17b0] | (simp only [i64_w,i32_w];rw [c17b0]) | skip)
         have H':=sd H;clear H;go_wp2
         go_meet
         case rel=>exact ⟨_,(x5_1),zq7,H',⟨zq8⟩,⟨by (with_reducible repeat (first | refine blk_drewN ?_ _ | refine blk_drew ?_ | refine blk_alloc ?_ _));refine blk_far ?_ NB341_344.out _;(with_reducible repeat (first | refine blk_drewN ?_ _ | refine blk_drew ?_ | refine blk_alloc ?_ _));refine blk_far ?_ NB341_344.out _;(with_reducible repeat (first | refine blk_drewN ?_ _ | refine blk_drew ?_ | refine blk_alloc ?_ _));refine blk_far ?_ NB341_344.out _;(with_reducible repeat (first | refine blk_drewN ?_ _ | refine blk_drew ?_ | refine blk_alloc ?_ _));refine blk_far ?_ NB341_344.out _;(with_reducible repeat (first | refine blk_drewN ?_ _ | refine blk_drew ?_ | refine blk_alloc ?_ _));exact BK341.out⟩,⟨by (with_reducible repeat (first | refine blk_drewN ?_ _ | refine blk_drew ?_ | refine blk_alloc ?_ _));refine blk_put (cs:=#[.int .i64 ((rd_T48 l0_1 x6_1).f0),.int .i64 ((rd_T48 l0_1 x6_1).f1),.string ((rd_T48 l0_1 x6_1).f2),.int .i64 0]) ?_ 3 _ rfl;(with_reducible repeat (first | refine blk_drewN ?_ _ | refine blk_drew ?_ | refine blk_alloc ?_ _));refine blk_put (cs:=#[.int .i64 ((rd_T48 l0_1 x6_1).f0),.int .i64 ((rd_T48 l0_1 x6_1).f1),.string (⟨#[]⟩:ByteArray),.int .i64 0]) ?_ 2 _ rfl;(with_reducible repeat (first | refine blk_drewN ?_ _ | refine blk_drew ?_ | refine blk_alloc ?_ _));refine blk_put (cs:=#[.int .i64 ((rd_T48 l0_1 x6_1).f0),.int .i64 0,.string (⟨#[]⟩:ByteArray),.int .i64 0]) ?_ 1 _ rfl;(with_reducible repeat (first | refine blk_drewN ?_ _ | refine blk_drew ?_ | refine blk_alloc ?_ _));refine blk_put (cs:=#[.int .i64 0,.int .i64 0,.string (⟨#[]⟩:ByteArray),.int .i64 0]) ?_ 0 _ rfl;(with_reducible repeat (first | refine blk_drewN ?_ _ | refine blk_drew ?_ | refine blk_alloc ?_ _));exact BK344.out⟩,⟨zq56⟩⟩
        case rest =>
         clear HC12;try clear c1
         try clear p2
         try clear c3
         try clear c3b0
         try clear c3b1
         try clear p3
         try clear q3
         try clear hx3
         try clear c4
         try clear c4b0
         try clear c4b1
         try clear c4b2
         try clear c5
         try clear c5b0
         try clear c5b1
         try clear c5b2
         try clear c10
         try clear c10b0
         try clear c11
         try clear c11b0
         try clear c15
         try clear c17
         try clear c17b0
         try clear c18
         try clear c18b0
         try clear c18b1
         try clear c18b2
         try clear hcz13_0
         try clear hcz13_1
         try clear hcz13_2
         try clear hcz13_3
         try clear hcz13_4
         try clear hcz16_0
         try clear hcz16_1
         try clear hcz16_2
         try clear hcz16_3
         try clear hcz7_0
         try clear hcz7_1
         try clear hcz7_2
         try clear hcz7_3
         try clear hcz7_4
         try clear hcz9_0
         try clear hcz9_1
         try clear hcz9_2
         try clear hcz9_3
         try clear hcz9_4
         try clear hfz13_0
         try clear hfz13_1
         try clear hfz13_2
         try clear hfz13_3
         try clear hfz13_4
         try clear hfz16_0
         try clear hfz16_1
         try clear hfz16_2
         try clear hfz16_3
         try clear hfz7_0
         try clear hfz7_1
         try clear hfz7_2
         try clear hfz7_3
         try clear hfz7_4
         try clear hfz9_0
         try clear hfz9_1
         try clear hfz9_2
         try clear hfz9_3
         try clear hfz9_4
         try clear hx343_0
         try clear hx343_1
         try clear hx343_2
         try clear hx343_3
         try clear p2
         try clear p343
         try clear q343
         obtain ⟨kq,x5_11,rfl,HA,HJ11,BK341,BK344,HB⟩:=hcut
         cases kq with
         | zero=>exact absurd HA.out (by simp [rf48_Text.j1])
         | succ kj11 =>
          have H:=HA.out;clear HA;simp only [rf48_Text.j1] at H
          replace H:=bdI H;obtain ⟨t345,A19,H⟩:=H;(try dsimp only at H)
          have HC20:=sd H;clear H;have hnb21:=NB344_341.out;have hnc21:=NB341_344.out;obtain ⟨_,_,_,_,_,_,_,_⟩:=bk4 BK344;go_upto_if 40 with (first | ((with_reducible refine gate_callee (f:=33) rfl ?_);refine gL 37 Tryz.func33 #[.int .i64 ((rd_T48 l0_1 x6_1).f3)] ?_;(with_reducible refine (rf01_Text.calls kj11 ((rd_T48 l0_1 x6_1).f3) t345 _ A19.out).mono ?_);rintro e w' ⟨rfl,⟨nd,rfl⟩⟩;refine ⟨_,rfl,?_⟩))
          (try simp only [Act.put,List.setIfInBounds_toArray,List.set_cons_zero,List.set_cons_succ])
          go_cut [8] (fun v8 wc=>∃ (kq:Nat) (x8_19:ByteArray),v8=.string x8_19∧Aside0 (rf48_Text.j2 kq x5_11 x6_1 x8_19 a0_0 l0_1 a0_2 a0_3 l0_4 ((rd_T48 l0_1 x6_1).f0) ((rd_T48 l0_1 x6_1).f1) ((rd_T48 l0_1 x6_1).f2) ((rd_T48 l0_1 x6_1).f3)=some (r1,r2))∧Aside0 (kq≤kj11)∧Aside0 (wc.heap[gb341]?=some (.cells #[.string a0_0,(.slice (some ad343) l0_1.length c0_1),.string a0_2,.string a0_3,(.slice A0_4 l0_4.length c0_4)] 25 (0,0)))∧Aside0 (wc.heap[gb344]?=some (.cells #[.int .i64 ((rd_T48 l0_1 x6_1).f0),.int .i64 ((rd_T48 l0_1 x6_1).f1),.string ((rd_T48 l0_1 x6_1).f2),.int .i64 ((rd_T48 l0_1 x6_1).f3)] 48 (0,0)))∧Aside0 (Below w.heap.size w wc))
          case first =>
           have H:=HC20.out;clear HC20;replace H:=ifI H;rcases H with ⟨c23,H⟩ | ⟨c23,H⟩
           ·obtain ⟨c23b0,c23b1⟩:=eqI c23;try (change ByteArray.toList _=[] at c23;obtain ⟨c23e0,c23e1⟩:=isE_t c23;(try rw [c23e0]))
            clear c23;(first | rw [c23b0] | (simp only [i64_w,i32_w];rw [c23b0]) | skip)
            replace H:=bdI H;obtain ⟨⟨t346,t347⟩,A24,H⟩:=H;(try dsimp only at H)
            have H':=sd H;clear H;have hnb25:=NB344_341.out;have hnc25:=NB341_344.out;obtain ⟨_,_,_,_,_,_,_,_⟩:=bk4 BK344;go_wp2_with (first | ((with_reducible refine gate_callee (f:=34) rfl ?_);refine gL 44 Tryz.func34 #[.int .i64 ((rd_T48 l0_1 x6_1).f3)] ?_;(with_reducible refine (rf04_Text.calls kj11 ((rd_T48 l0_1 x6_1).f3) t346 t347 _ A24.out).mono ?_);rintro e w27 ⟨rfl,hb⟩;refine ⟨_,rfl,?_⟩;replace BK341:=bkm BK341 hb;replace BK344:=bkm BK344 hb;replace HB:=hbm HB hb;clear hb))
            go_meet
            case rel=>exact ⟨_,(t346),zq7,H',⟨by have:=HK1.out;have:=HJ11.out;first | omega | exact Nat.le_refl _⟩,⟨zq54⟩,⟨zq57⟩,⟨zq56⟩⟩
           obtain ⟨c23b0,c23b1⟩:=neI c23;try (change ¬ ByteArray.toList _=[] at c23;obtain ⟨c23e0,c23e1⟩:=isE_f c23;(try rw [c23e0]))
           (first | rw [c23b0] | (simp only [i64_w,i32_w];rw [c23b0]) | skip)
           have H':=sd H;clear H;go_wp2
           go_meet
           case rel=>exact ⟨_,(t345),zq7,H',⟨by have:=HK1.out;have:=HJ11.out;first | omega | exact Nat.le_refl _⟩,⟨zq54⟩,⟨zq57⟩,⟨zq56⟩⟩
          case rest =>
           clear HC20;try clear c1
           try clear c2
           try clear p2
           try clear c3
           try clear c3b0
           try clear c3b1
           try clear p3
           try clear q3
           try clear hx3
           try clear c4
           try clear c4b0
           try clear c4b1
           try clear c4b2
           try clear c5
           try clear c5b0
           try clear c5b1
           try clear c5b2
           try clear c10
           try clear c10b0
           try clear c11
           try clear c11b0
           try clear c15
           try clear c17
           try clear c17b0
           try clear c18
           try clear c18b0
           try clear c18b1
           try clear c18b2
           try clear c21
           try clear c23
           try clear c23b0
           try clear c23b1
           try clear c25
           try clear hcz13_0
           try clear hcz13_1
           try clear hcz13_2
           try clear hcz13_3
           try clear hcz13_4
           try clear hcz16_0
           try clear hcz16_1
           try clear hcz16_2
           try clear hcz16_3
           try clear hcz22_0
           try clear hcz22_1
           try clear hcz22_2
           try clear hcz22_3
           try clear hcz26_0
           try clear hcz26_1
           try clear hcz26_2
           try clear hcz26_3
           try clear hcz7_0
           try clear hcz7_1
           try clear hcz7_2
           try clear hcz7_3
           try clear hcz7_4
           try clear hcz9_0
           try clear hcz9_1
           try clear hcz9_2
           try clear hcz9_3
           try clear hcz9_4
           try clear hfz13_0
           try clear hfz13_1
           try clear hfz13_2
           try clear hfz13_3
           try clear hfz13_4
           try clear hfz16_0
           try clear hfz16_1
           try clear hfz16_2
           try clear hfz16_3
           try clear hfz22_0
           try clear hfz22_1
           try clear hfz22_2
           try clear hfz22_3
           try clear hfz26_0
           try clear hfz26_1
           try clear hfz26_2
           try clear hfz26_3
           try clear hfz7_0
           try clear hfz7_1
           try clear hfz7_2
           try clear hfz7_3
           try clear hfz7_4
           try clear hfz9_0
           try clear hfz9_1
           try clear hfz9_2
           try clear hfz9_3
           try clear hfz9_4
           try clear hx343_0
           try clear hx343_1
           try clear hx343_2
           try clear hx343_3
           try clear p2
           try clear p3
           try clear p343
           try clear q3
           try clear q343
           obtain ⟨kq,x8_19,rfl,HA,HJ19,BK341,BK344,HB⟩:=hcut
           cases kq with
           | zero=>exact absurd HA.out (by simp [rf48_Text.j2])
           | succ kj19 =>
            have H:=HA.out;clear HA;simp only [rf48_Text.j2] at H
            replace H:=bdI H;obtain ⟨t348,A28,H⟩:=H;(try dsimp only at H)
            by_cases c29:t348=true
            ·subst c29;rw [if_pos rfl] at H;replace H:=ifI H;rcases H with ⟨c30,H⟩ | ⟨c30,H⟩
             ·have c30b0:=eq_true c30;have c30b1:decide (x5_11.size+1≤9223372036854775807)=true:=decide_eq_true c30;try have c30b2:(9223372036854775807 < x5_11.size+1)=False:=eq_false (Nat.not_lt.2 c30)
              replace H:=bdI H;obtain ⟨t349,A31,H⟩:=H;(try dsimp only at H)
              replace H:=ifI H;rcases H with ⟨c32,H⟩ | ⟨c32,H⟩
              ·have c32b0:=eq_true c32;have c32b1:decide ((x5_11++(⟨#[32]⟩:ByteArray)).size+t349.size≤9223372036854775807)=true:=decide_eq_true c32;try have c32b2:(9223372036854775807 < (x5_11++(⟨#[32]⟩:ByteArray)).size+t349.size)=False:=eq_false (Nat.not_lt.2 c32)
               try have c32y:(9223372036854775807 < x5_11.size+1+t349.size)=False:=by have h_:=c32b2;simp only [ByteArray.size_append] at h_;exact h_
               replace H:=ifI H;rcases H with ⟨c33,H⟩ | ⟨c33,H⟩
               ·have c33b0:=eq_true c33;have c33b1:decide (((x5_11++(⟨#[32]⟩:ByteArray))++t349).size+1≤9223372036854775807)=true:=decide_eq_true c33;try have c33b2:(9223372036854775807 < ((x5_11++(⟨#[32]⟩:ByteArray))++t349).size+1)=False:=eq_false (Nat.not_lt.2 c33)
                try have c33y:(9223372036854775807 < x5_11.size+1+t349.size+1)=False:=by have h_:=c33b2;simp only [ByteArray.size_append] at h_;exact h_
                replace H:=bdI H;obtain ⟨t350,A34,H⟩:=H;(try dsimp only at H)
                replace H:=ifI H;rcases H with ⟨c35,H⟩ | ⟨c35,H⟩
                ·have c35b0:=eq_true c35;have c35b1:decide ((((x5_11++(⟨#[32]⟩:ByteArray))++t349)++(⟨#[32]⟩:ByteArray)).size+t350.size≤9223372036854775807)=true:=decide_eq_true c35;try have c35b2:(9223372036854775807 < (((x5_11++(⟨#[32]⟩:ByteArray))++t349)++(⟨#[32]⟩:ByteArray)).size+t350.size)=False:=eq_false (Nat.not_lt.2 c35)
                 try have c35y:(9223372036854775807 < x5_11.size+1+t349.size+1+t350.size)=False:=by have h_:=c35b2;simp only [ByteArray.size_append] at h_;exact h_
                 replace H:=ifI H;rcases H with ⟨c36,H⟩ | ⟨c36,H⟩
                 ·have c36b0:=eq_true c36;have c36b1:decide (((((x5_11++(⟨#[32]⟩:ByteArray))++t349)++(⟨#[32]⟩:ByteArray))++t350).size+1≤9223372036854775807)=true:=decide_eq_true c36;try have c36b2:(9223372036854775807 < ((((x5_11++(⟨#[32]⟩:ByteArray))++t349)++(⟨#[32]⟩:ByteArray))++t350).size+1)=False:=eq_false (Nat.not_lt.2 c36)
                  try have c36y:(9223372036854775807 < x5_11.size+1+t349.size+1+t350.size+1)=False:=by have h_:=c36b2;simp only [ByteArray.size_append] at h_;exact h_
                  replace H:=ifI H;rcases H with ⟨c37,H⟩ | ⟨c37,H⟩
                  ·have c37b0:=eq_true c37;have c37b1:decide ((((((x5_11++(⟨#[32]⟩:ByteArray))++t349)++(⟨#[32]⟩:ByteArray))++t350)++(⟨#[32]⟩:ByteArray)).size+x8_19.size≤9223372036854775807)=true:=decide_eq_true c37;try have c37b2:(9223372036854775807 < (((((x5_11++(⟨#[32]⟩:ByteArray))++t349)++(⟨#[32]⟩:ByteArray))++t350)++(⟨#[32]⟩:ByteArray)).size+x8_19.size)=False:=eq_false (Nat.not_lt.2 c37)
                   try have c37y:(9223372036854775807 < x5_11.size+1+t349.size+1+t350.size+1+x8_19.size)=False:=by have h_:=c37b2;simp only [ByteArray.size_append] at h_;exact h_
                   have H':=sd H;clear H;have hnb38:=NB344_341.out;have hnc38:=NB341_344.out;obtain ⟨_,_,_,_,_,_,_,_⟩:=bk4 BK344;try go_wp2_with (first | ((with_reducible refine gate_callee (f:=35) rfl ?_);refine gL 49 Tryz.func35 #[.int .i64 ((rd_T48 l0_1 x6_1).f0)] ?_;(with_reducible refine (rf48_number.calls ((rd_T48 l0_1 x6_1).f0) true _ A28.out).mono ?_);rintro e w' ⟨rfl,⟨nd,rfl⟩⟩;refine ⟨_,rfl,?_⟩))
                   (try (rw [drewN_self wc];generalize hq_:World.drewN wc _=wc;have n0_:Aside0 (wc.heap[gb341]?=some (.cells #[.string a0_0,.slice (some ad343) l0_1.length c0_1,.string a0_2,.string a0_3,.slice A0_4 l0_4.length c0_4] 25 (0,0))):=⟨by rw [← hq_];exact zq54⟩;have n1_:Aside0 (wc.heap[gb344]?=some (.cells #[.int .i64 ((rd_T48 l0_1 x6_1).f0),.int .i64 ((rd_T48 l0_1 x6_1).f1),.string ((rd_T48 l0_1 x6_1).f2),.int .i64 ((rd_T48 l0_1 x6_1).f3)] 48 (0,0))):=⟨by rw [← hq_];exact zq57⟩;have n2_:Aside0 (Below w.heap.size w wc):=⟨by rw [← hq_];exact zq56⟩;clear BK341 BK344 HB hq_;have BK341:=n0_;have BK344:=n1_;have HB:=n2_;clear n0_ n1_ n2_;(try (have hdBK341_0:=(blk_cell BK341.out 0).trans rfl;have heBK341_0:=blk_frozen BK341.out 0;have hdBK341_1:=(blk_cell BK341.out 1).trans rfl;have heBK341_1:=blk_frozen BK341.out 1;have hdBK341_2:=(blk_cell BK341.out 2).trans rfl;have heBK341_2:=blk_frozen BK341.out 2;have hdBK341_3:=(blk_cell BK341.out 3).trans rfl;have heBK341_3:=blk_frozen BK341.out 3;have hdBK341_4:=(blk_cell BK341.out 4).trans rfl;have heBK341_4:=blk_frozen BK341.out 4;have hdBK344_0:=(blk_cell BK344.out 0).trans rfl;have heBK344_0:=blk_frozen BK344.out 0;have hdBK344_1:=(blk_cell BK344.out 1).trans rfl;have heBK344_1:=blk_frozen BK344.out 1;have hdBK344_2:=(blk_cell BK344.out 2).trans rfl;have heBK344_2:=blk_frozen BK344.out 2;have hdBK344_3:=(blk_cell BK344.out 3).trans rfl;have heBK344_3:=blk_frozen BK344.out 3))))
                   replace BK341:=sd (blk_drew BK341.out);replace BK344:=sd (blk_drew BK344.out);replace HB:=sd (below_drew1 HB.out);refine start_ (n:=15) (S:=fun w'=>w'.cell? ⟨gb344,0,none⟩=some (.int .i64 ((rd_T48 l0_1 x6_1).f0))∧w'.cell? ⟨gb344,1,none⟩=some (.int .i64 ((rd_T48 l0_1 x6_1).f1))∧w'.cell? ⟨gb344,2,none⟩=some (.string ((rd_T48 l0_1 x6_1).f2))∧w'.cell? ⟨gb344,3,none⟩=some (.int .i64 ((rd_T48 l0_1 x6_1).f3))) (ds:=[]) #[false,false,false,false,false,false,false,false,false,false,false,false,false,false,false] (by kernel_rfl) rfl rfl ⟨(blk_cell BK344.out 0).trans rfl,(blk_cell BK344.out 1).trans rfl,(blk_cell BK344.out 2).trans rfl,(blk_cell BK344.out 3).trans rfl⟩ (fun hHeld=>?_);refine with_tabW rf48_Text.tab16 rf48_Text.bits16 (fun HT_ HW_=>?_);generalize wc.drew=w40 at BK341 BK344 HB hHeld ⊢;refine pA 0 57 HT_.out ?_;refine pA 1 58 HT_.out ?_;refine pA 2 59 HT_.out ?_;refine pA 7 64 HT_.out ?_;refine pA 12 69 HT_.out ?_;refine tA 3 60 HT_.out HW_.out hHeld ?_;refine tA 8 65 HT_.out HW_.out hHeld ?_;refine one_ (i:=4) (N:=some 61) #[true,true,true,true,true,false,false,true,true,false,false,false,true,false,false] rfl rfl (one_of HT_.out (by kernel_rfl)) (by decide) (fun K hK=>?_);refine goes_ Tryz.func37 (by kernel_rfl) rfl #[.int .i64 ((rd_T48 l0_1 x6_1).f0)] (by rfl) rfl rfl zq34 ?_;with_reducible refine (rf48_field.calls ((rd_T48 l0_1 x6_1).f0) t349 _ A31.out).mono ?_
                   rintro e w41 ⟨rfl,hb⟩;refine ⟨_,rfl,?_⟩;replace BK341:=bkm BK341 hb;replace BK344:=bkm BK344 hb;replace HB:=hbm HB hb;clear hb;refine hK.out _ _ ⟨(blk_cell BK344.out 0).trans rfl,(blk_cell BK344.out 1).trans rfl,(blk_cell BK344.out 2).trans rfl,(blk_cell BK344.out 3).trans rfl⟩ (fun hHeld=>?_);clear hK K;refine nA 61 ?_;refine pA 5 62 HT_.out ?_;refine pA 6 63 HT_.out ?_;refine one_ (i:=9) (N:=some 66) #[true,true,true,true,true,true,true,true,true,true,false,false,true,false,false] rfl rfl (one_of HT_.out (by kernel_rfl)) (by decide) (fun K hK=>?_);refine goes_ Tryz.func38 (by kernel_rfl) rfl #[.int .i64 ((rd_T48 l0_1 x6_1).f1)] (by rfl) rfl rfl zq34 ?_;with_reducible refine (rf48_operator.calls ((rd_T48 l0_1 x6_1).f1) t350 _ A34.out).mono ?_
                   rintro e w42 ⟨rfl,hb⟩;refine ⟨_,rfl,?_⟩;replace BK341:=bkm BK341 hb;replace BK344:=bkm BK344 hb;replace HB:=hbm HB hb;clear hb;refine hK.out _ _ ⟨(blk_cell BK344.out 0).trans rfl,(blk_cell BK344.out 1).trans rfl,(blk_cell BK344.out 2).trans rfl,(blk_cell BK344.out 3).trans rfl⟩ (fun hHeld=>?_);clear hK K;refine nA 66 ?_;refine pA 10 67 HT_.out ?_;refine pA 11 68 HT_.out ?_;refine pA 13 70 HT_.out ?_;refine pA 14 5 HT_.out ?_;refine done_ (done_of HT_.out (by kernel_rfl)) ?_;try go_wp2
                   go_roundg kj19
                   case measure=>have:=HK1.out;have:=HJ11.out;have:=HJ19.out;omega
                   case rel=>exact ⟨((((((x5_11++(⟨#[32]⟩:ByteArray))++t349)++(⟨#[32]⟩:ByteArray))++t350)++(⟨#[32]⟩:ByteArray))++x8_19),(wrap64 (x6_1+1)),zq7,zq7,H',⟨by have:=HK1.out;have:=HJ11.out;have:=HJ19.out;omega⟩,⟨zq54⟩,⟨zq56⟩⟩
                  exact absurd H (by simp)
                 exact absurd H (by simp)
                exact absurd H (by simp)
               exact absurd H (by simp)
              exact absurd H (by simp)
             exact absurd H (by simp)
            replace c29:=Bool.eq_false_iff.mpr c29;subst c29;rw [if_neg Bool.false_ne_true] at H;replace H:=bdI H;obtain ⟨⟨t351,t352⟩,A43,H⟩:=H;(try dsimp only at H)
            replace H:=ifI H;rcases H with ⟨c44,H⟩ | ⟨c44,H⟩
            ·have c44b0:=eq_true c44;have c44b1:decide (x5_11.size+1≤9223372036854775807)=true:=decide_eq_true c44;try have c44b2:(9223372036854775807 < x5_11.size+1)=False:=eq_false (Nat.not_lt.2 c44)
             replace H:=bdI H;obtain ⟨t353,A45,H⟩:=H;(try dsimp only at H)
             replace H:=ifI H;rcases H with ⟨c46,H⟩ | ⟨c46,H⟩
             ·have c46b0:=eq_true c46;have c46b1:decide ((x5_11++(⟨#[32]⟩:ByteArray)).size+t353.size≤9223372036854775807)=true:=decide_eq_true c46;try have c46b2:(9223372036854775807 < (x5_11++(⟨#[32]⟩:ByteArray)).size+t353.size)=False:=eq_false (Nat.not_lt.2 c46)
              try have c46y:(9223372036854775807 < x5_11.size+1+t353.size)=False:=by have h_:=c46b2;simp only [ByteArray.size_append] at h_;exact h_
              replace H:=ifI H;rcases H with ⟨c47,H⟩ | ⟨c47,H⟩
              ·have c47b0:=eq_true c47;have c47b1:decide (((x5_11++(⟨#[32]⟩:ByteArray))++t353).size+1≤9223372036854775807)=true:=decide_eq_true c47;try have c47b2:(9223372036854775807 < ((x5_11++(⟨#[32]⟩:ByteArray))++t353).size+1)=False:=eq_false (Nat.not_lt.2 c47)
               try have c47y:(9223372036854775807 < x5_11.size+1+t353.size+1)=False:=by have h_:=c47b2;simp only [ByteArray.size_append] at h_;exact h_
               replace H:=bdI H;obtain ⟨t354,A48,H⟩:=H;(try dsimp only at H)
               replace H:=ifI H;rcases H with ⟨c49,H⟩ | ⟨c49,H⟩
               ·have c49b0:=eq_true c49;have c49b1:decide ((((x5_11++(⟨#[32]⟩:ByteArray))++t353)++(⟨#[32]⟩:ByteArray)).size+t354.size≤9223372036854775807)=true:=decide_eq_true c49;try have c49b2:(9223372036854775807 < (((x5_11++(⟨#[32]⟩:ByteArray))++t353)++(⟨#[32]⟩:ByteArray)).size+t354.size)=False:=eq_false (Nat.not_lt.2 c49)
                try have c49y:(9223372036854775807 < x5_11.size+1+t353.size+1+t354.size)=False:=by have h_:=c49b2;simp only [ByteArray.size_append] at h_;exact h_
                replace H:=ifI H;rcases H with ⟨c50,H⟩ | ⟨c50,H⟩
                ·have c50b0:=eq_true c50;have c50b1:decide (((((x5_11++(⟨#[32]⟩:ByteArray))++t353)++(⟨#[32]⟩:ByteArray))++t354).size+1≤9223372036854775807)=true:=decide_eq_true c50;try have c50b2:(9223372036854775807 < ((((x5_11++(⟨#[32]⟩:ByteArray))++t353)++(⟨#[32]⟩:ByteArray))++t354).size+1)=False:=eq_false (Nat.not_lt.2 c50)
                 try have c50y:(9223372036854775807 < x5_11.size+1+t353.size+1+t354.size+1)=False:=by have h_:=c50b2;simp only [ByteArray.size_append] at h_;exact h_
                 replace H:=ifI H;rcases H with ⟨c51,H⟩ | ⟨c51,H⟩
                 ·have c51b0:=eq_true c51;have c51b1:decide ((((((x5_11++(⟨#[32]⟩:ByteArray))++t353)++(⟨#[32]⟩:ByteArray))++t354)++(⟨#[32]⟩:ByteArray)).size+t351.size≤9223372036854775807)=true:=decide_eq_true c51;try have c51b2:(9223372036854775807 < (((((x5_11++(⟨#[32]⟩:ByteArray))++t353)++(⟨#[32]⟩:ByteArray))++t354)++(⟨#[32]⟩:ByteArray)).size+t351.size)=False:=eq_false (Nat.not_lt.2 c51)
                  try have c51y:(9223372036854775807 < x5_11.size+1+t353.size+1+t354.size+1+t351.size)=False:=by have h_:=c51b2;simp only [ByteArray.size_append] at h_;exact h_
                  have H':=sd H;clear H;have hnb52:=NB344_341.out;have hnc52:=NB341_344.out;obtain ⟨_,_,_,_,_,_,_,_⟩:=bk4 BK344;try go_wp2_with (first | ((with_reducible refine gate_callee (f:=35) rfl ?_);refine gL 49 Tryz.func35 #[.int .i64 ((rd_T48 l0_1 x6_1).f0)] ?_;(with_reducible refine (rf48_number.calls ((rd_T48 l0_1 x6_1).f0) false _ A28.out).mono ?_);rintro e w' ⟨rfl,⟨nd,rfl⟩⟩;refine ⟨_,rfl,?_⟩) | ((with_reducible refine gate_callee (f:=36) rfl ?_);refine gL 54 Tryz.func36 #[.string ((rd_T48 l0_1 x6_1).f2)] ?_;(with_reducible refine (rf06_Quote.calls kj19 ((rd_T48 l0_1 x6_1).f2) t351 t352 _ A43.out).mono ?_);rintro e w54 ⟨rfl,hb⟩;refine ⟨_,rfl,?_⟩;replace BK341:=bkm BK341 hb;replace BK344:=bkm BK344 hb;replace HB:=hbm HB hb;clear hb))
                  replace BK341:=sd (blk_drew BK341.out);replace BK344:=sd (blk_drew BK344.out);replace HB:=sd (below_drew1 HB.out);refine start_ (n:=15) (S:=fun w'=>w'.cell? ⟨gb344,0,none⟩=some (.int .i64 ((rd_T48 l0_1 x6_1).f0))∧w'.cell? ⟨gb344,1,none⟩=some (.int .i64 ((rd_T48 l0_1 x6_1).f1))∧w'.cell? ⟨gb344,2,none⟩=some (.string ((rd_T48 l0_1 x6_1).f2))∧w'.cell? ⟨gb344,3,none⟩=some (.int .i64 ((rd_T48 l0_1 x6_1).f3))) (ds:=[]) #[false,false,false,false,false,false,false,false,false,false,false,false,false,false,false] (by kernel_rfl) rfl rfl ⟨(blk_cell BK344.out 0).trans rfl,(blk_cell BK344.out 1).trans rfl,(blk_cell BK344.out 2).trans rfl,(blk_cell BK344.out 3).trans rfl⟩ (fun hHeld=>?_);refine with_tabW rf48_Text.tab16 rf48_Text.bits16 (fun HT_ HW_=>?_);generalize w54.drew=w55 at BK341 BK344 HB hHeld ⊢;refine pA 0 57 HT_.out ?_;refine pA 1 58 HT_.out ?_;refine pA 2 59 HT_.out ?_;refine pA 7 64 HT_.out ?_;refine pA 12 69 HT_.out ?_;refine tA 3 60 HT_.out HW_.out hHeld ?_;refine tA 8 65 HT_.out HW_.out hHeld ?_;refine one_ (i:=4) (N:=some 61) #[true,true,true,true,true,false,false,true,true,false,false,false,true,false,false] rfl rfl (one_of HT_.out (by kernel_rfl)) (by decide) (fun K hK=>?_);refine goes_ Tryz.func37 (by kernel_rfl) rfl #[.int .i64 ((rd_T48 l0_1 x6_1).f0)] (by rfl) rfl rfl zq34 ?_;with_reducible refine (rf48_field.calls ((rd_T48 l0_1 x6_1).f0) t353 _ A45.out).mono ?_
                  rintro e w56 ⟨rfl,hb⟩;refine ⟨_,rfl,?_⟩;replace BK341:=bkm BK341 hb;replace BK344:=bkm BK344 hb;replace HB:=hbm HB hb;clear hb;refine hK.out _ _ ⟨(blk_cell BK344.out 0).trans rfl,(blk_cell BK344.out 1).trans rfl,(blk_cell BK344.out 2).trans rfl,(blk_cell BK344.out 3).trans rfl⟩ (fun hHeld=>?_);clear hK K;refine nA 61 ?_;refine pA 5 62 HT_.out ?_;refine pA 6 63 HT_.out ?_;refine one_ (i:=9) (N:=some 66) #[true,true,true,true,true,true,true,true,true,true,false,false,true,false,false] rfl rfl (one_of HT_.out (by kernel_rfl)) (by decide) (fun K hK=>?_);refine goes_ Tryz.func38 (by kernel_rfl) rfl #[.int .i64 ((rd_T48 l0_1 x6_1).f1)] (by rfl) rfl rfl zq34 ?_;with_reducible refine (rf48_operator.calls ((rd_T48 l0_1 x6_1).f1) t354 _ A48.out).mono ?_
                  rintro e w57 ⟨rfl,hb⟩;refine ⟨_,rfl,?_⟩;replace BK341:=bkm BK341 hb;replace BK344:=bkm BK344 hb;replace HB:=hbm HB hb;clear hb;refine hK.out _ _ ⟨(blk_cell BK344.out 0).trans rfl,(blk_cell BK344.out 1).trans rfl,(blk_cell BK344.out 2).trans rfl,(blk_cell BK344.out 3).trans rfl⟩ (fun hHeld=>?_);clear hK K;refine nA 66 ?_;refine pA 10 67 HT_.out ?_;refine pA 11 68 HT_.out ?_;refine pA 13 70 HT_.out ?_;refine pA 14 5 HT_.out ?_;refine done_ (done_of HT_.out (by kernel_rfl)) ?_;try go_wp2
                  go_roundg kj19
                  case measure=>have:=HK1.out;have:=HJ11.out;have:=HJ19.out;omega
                  case rel=>exact ⟨((((((x5_11++(⟨#[32]⟩:ByteArray))++t353)++(⟨#[32]⟩:ByteArray))++t354)++(⟨#[32]⟩:ByteArray))++t351),(wrap64 (x6_1+1)),zq7,zq7,H',⟨by have:=HK1.out;have:=HJ11.out;have:=HJ19.out;omega⟩,⟨zq54⟩,⟨zq56⟩⟩
                 exact absurd H (by simp)
                exact absurd H (by simp)
               exact absurd H (by simp)
              exact absurd H (by simp)
             exact absurd H (by simp)
            exact absurd H (by simp)
       exact absurd H (by simp)
      have c10b0:decide (x6_1 < (l0_1.length:Int))=false:=decide_eq_false c10;clear c10;replace H:=ifI H;rcases H with ⟨c58,H⟩ | ⟨c58,H⟩
      ·have c58b0:=eq_true c58;have c58b1:decide (x5_1.size+6≤9223372036854775807)=true:=decide_eq_true c58;try have c58b2:(9223372036854775807 < x5_1.size+6)=False:=eq_false (Nat.not_lt.2 c58)
       replace H:=ifI H;rcases H with ⟨c59,H⟩ | ⟨c59,H⟩
       ·have c59b0:=eq_true c59;have c59b1:decide ((x5_1++(⟨#[32,116,104,101,110,32]⟩:ByteArray)).size+a0_2.size≤9223372036854775807)=true:=decide_eq_true c59;try have c59b2:(9223372036854775807 < (x5_1++(⟨#[32,116,104,101,110,32]⟩:ByteArray)).size+a0_2.size)=False:=eq_false (Nat.not_lt.2 c59)
        try have c59y:(9223372036854775807 < x5_1.size+6+a0_2.size)=False:=by have h_:=c59b2;simp only [ByteArray.size_append] at h_;exact h_
        have HC60:=sd H;clear H;obtain ⟨_,_,_,_,_,_,_,_,_,_⟩:=bk5 BK341;go_upto_if 78 with (fail)
        go_cut [5] (fun v5 wc=>∃ (kq:Nat) (x5_59:ByteArray),v5=.string x5_59∧Aside0 (rf48_Text.j3 kq x5_59 a0_0 l0_1 a0_2 a0_3 l0_4=some (r1,r2))∧Aside0 (kq≤k1)∧Aside0 (wc.heap[gb341]?=some (.cells #[.string a0_0,(.slice A0_1 l0_1.length c0_1),.string a0_2,.string a0_3,(.slice A0_4 l0_4.length c0_4)] 25 (0,0)))∧Aside0 (Below w.heap.size w wc))
        case first =>
         have H:=HC60.out;clear HC60;replace H:=ifI H;rcases H with ⟨c62,H⟩ | ⟨c62,H⟩
         ·obtain ⟨c62b0,c62b1⟩:=eqI c62;try (change ByteArray.toList _=[] at c62;obtain ⟨c62e0,c62e1⟩:=isE_t c62;(try rw [c62e0]))
          clear c62;(first | rw [c62b0] | (simp only [i64_w,i32_w];rw [c62b0]) | skip)
          have H':=sd H;clear H;go_wp2
          go_meet
          case rel=>exact ⟨_,((x5_1++(⟨#[32,116,104,101,110,32]⟩:ByteArray))++a0_2),zq7,H',⟨zq8⟩,⟨zq54⟩,⟨zq55⟩⟩
         obtain ⟨c62b0,c62b1⟩:=neI c62;try (change ¬ ByteArray.toList _=[] at c62;obtain ⟨c62e0,c62e1⟩:=isE_f c62;(try rw [c62e0]))
         (first | rw [c62b0] | (simp only [i64_w,i32_w];rw [c62b0]) | skip)
         replace H:=ifI H;rcases H with ⟨c63,H⟩ | ⟨c63,H⟩
         ·have c63b0:=eq_true c63;have c63b1:decide (((x5_1++(⟨#[32,116,104,101,110,32]⟩:ByteArray))++a0_2).size+7≤9223372036854775807)=true:=decide_eq_true c63;try have c63b2:(9223372036854775807 < ((x5_1++(⟨#[32,116,104,101,110,32]⟩:ByteArray))++a0_2).size+7)=False:=eq_false (Nat.not_lt.2 c63)
          try have c63y:(9223372036854775807 < x5_1.size+6+a0_2.size+7)=False:=by have h_:=c63b2;simp only [ByteArray.size_append] at h_;exact h_
          replace H:=ifI H;rcases H with ⟨c64,H⟩ | ⟨c64,H⟩
          ·have c64b0:=eq_true c64;have c64b1:decide ((((x5_1++(⟨#[32,116,104,101,110,32]⟩:ByteArray))++a0_2)++(⟨#[32,112,97,114,116,121,32]⟩:ByteArray)).size+a0_3.size≤9223372036854775807)=true:=decide_eq_true c64;try have c64b2:(9223372036854775807 < (((x5_1++(⟨#[32,116,104,101,110,32]⟩:ByteArray))++a0_2)++(⟨#[32,112,97,114,116,121,32]⟩:ByteArray)).size+a0_3.size)=False:=eq_false (Nat.not_lt.2 c64)
           try have c64y:(9223372036854775807 < x5_1.size+6+a0_2.size+7+a0_3.size)=False:=by have h_:=c64b2;simp only [ByteArray.size_append] at h_;exact h_
           have H':=sd H;clear H;obtain ⟨_,_,_,_,_,_,_,_,_,_⟩:=bk5 BK341;go_wp2
           go_meet
           case rel=>exact ⟨_,((((x5_1++(⟨#[32,116,104,101,110,32]⟩:ByteArray))++a0_2)++(⟨#[32,112,97,114,116,121,32]⟩:ByteArray))++a0_3),zq7,H',⟨zq8⟩,⟨zq54⟩,⟨zq55⟩⟩
          exact absurd H (by simp)
         exact absurd H (by simp)
        case rest =>
         clear HC60;try clear c1
         try clear c2
         try clear p2
         try clear c3
         try clear p3
         try clear q3
         try clear hx3
         try clear c4
         try clear c5
         try clear c6
         try clear p6
         try clear c10
         try clear c10b0
         try clear c11
         try clear c29
         try clear c30
         try clear c30b0
         try clear c30b1
         try clear c30b2
         try clear c32
         try clear c32b0
         try clear c32b1
         try clear c32b2
         try clear c33
         try clear c33b0
         try clear c33b1
         try clear c33b2
         try clear p34
         try clear q34
         try clear hx34
         try clear c35
         try clear c35b0
         try clear c35b1
         try clear c35b2
         try clear c36
         try clear c36b0
         try clear c36b1
         try clear c36b2
         try clear c37
         try clear c37b0
         try clear c37b1
         try clear c37b2
         try clear c38
         try clear c44
         try clear c44b0
         try clear c44b1
         try clear c44b2
         try clear c46
         try clear c46b0
         try clear c46b1
         try clear c46b2
         try clear c47
         try clear c47b0
         try clear c47b1
         try clear c47b2
         try clear c49
         try clear c49b0
         try clear c49b1
         try clear c49b2
         try clear c50
         try clear c50b0
         try clear c50b1
         try clear c50b2
         try clear c51
         try clear c51b0
         try clear c51b1
         try clear c51b2
         try clear c52
         try clear c58
         try clear c58b0
         try clear c58b1
         try clear c58b2
         try clear c59
         try clear c59b0
         try clear c59b1
         try clear c59b2
         try clear c62
         try clear c62b0
         try clear c62b1
         try clear c63
         try clear c63b0
         try clear c63b1
         try clear c63b2
         try clear c64
         try clear c64b0
         try clear c64b1
         try clear c64b2
         try clear p64
         try clear hcz39_0
         try clear hcz39_1
         try clear hcz39_2
         try clear hcz39_3
         try clear hcz53_0
         try clear hcz53_1
         try clear hcz53_2
         try clear hcz53_3
         try clear hcz61_0
         try clear hcz61_1
         try clear hcz61_2
         try clear hcz61_3
         try clear hcz61_4
         try clear hcz65_0
         try clear hcz65_1
         try clear hcz65_2
         try clear hcz65_3
         try clear hcz65_4
         try clear hfz39_0
         try clear hfz39_1
         try clear hfz39_2
         try clear hfz39_3
         try clear hfz53_0
         try clear hfz53_1
         try clear hfz53_2
         try clear hfz53_3
         try clear hfz61_0
         try clear hfz61_1
         try clear hfz61_2
         try clear hfz61_3
         try clear hfz61_4
         try clear hfz65_0
         try clear hfz65_1
         try clear hfz65_2
         try clear hfz65_3
         try clear hfz65_4
         try clear hfz7_3
         try clear hfz7_4
         try clear hfz9_0
         try clear hfz9_1
         try clear hfz9_2
         try clear hfz9_3
         try clear hfz9_4
         try clear hx343_0
         try clear hx343_1
         try clear hx343_2
         try clear hx343_3
         try clear p2
         try clear p3
         try clear p343
         try clear q3
         try clear q343
         obtain ⟨kq,x5_59,rfl,HA,HJ59,BK341,HB⟩:=hcut
         cases kq with
         | zero=>exact absurd HA.out (by simp [rf48_Text.j3])
         | succ kj59 =>
          have H:=HA.out;clear HA;simp only [rf48_Text.j3] at H
          have H':=sd H;clear H;go_wp2
          go_loopg [5,9] kj59 (fun kq v5 v9 w'=>∃ (x5_3:ByteArray) (x9_3:Int),v5=.string x5_3∧v9=.int .i64 x9_3∧Aside0 (rf48_Text.l1 kq x5_3 x9_3 a0_0 l0_1 a0_2 a0_3 l0_4=some (r1,r2))∧Aside0 (kq≤kj59)∧Aside0 (w'.heap[gb341]?=some (.cells #[.string a0_0,(.slice A0_1 l0_1.length c0_1),.string a0_2,.string a0_3,(.slice A0_4 l0_4.length c0_4)] 25 (0,0)))∧Aside0 (Below w.heap.size w w'))
          case atStart=>exact ⟨(x5_59),(0),zq7,zq7,H',⟨Nat.le_refl _⟩,⟨zq54⟩,⟨zq55⟩⟩
          case round =>
           clear H';try clear c1
           try clear c2
           try clear p2
           try clear c3
           try clear p3
           try clear q3
           try clear hx3
           try clear c4
           try clear c5
           try clear c6
           try clear p6
           try clear c10
           try clear c10b0
           try clear c11
           try clear c29
           try clear c30
           try clear c30b0
           try clear c30b1
           try clear c30b2
           try clear c32
           try clear c32b0
           try clear c32b1
           try clear c32b2
           try clear c33
           try clear c33b0
           try clear c33b1
           try clear c33b2
           try clear p34
           try clear q34
           try clear hx34
           try clear c35
           try clear c35b0
           try clear c35b1
           try clear c35b2
           try clear c36
           try clear c36b0
           try clear c36b1
           try clear c36b2
           try clear c37
           try clear c37b0
           try clear c37b1
           try clear c37b2
           try clear c38
           try clear c44
           try clear c44b0
           try clear c44b1
           try clear c44b2
           try clear c46
           try clear c46b0
           try clear c46b1
           try clear c46b2
           try clear c47
           try clear c47b0
           try clear c47b1
           try clear c47b2
           try clear c49
           try clear c49b0
           try clear c49b1
           try clear c49b2
           try clear c50
           try clear c50b0
           try clear c50b1
           try clear c50b2
           try clear c51
           try clear c51b0
           try clear c51b1
           try clear c51b2
           try clear c52
           try clear c58
           try clear c58b0
           try clear c58b1
           try clear c58b2
           try clear c59
           try clear c59b0
           try clear c59b1
           try clear c59b2
           try clear c62
           try clear c62b0
           try clear c62b1
           try clear c63
           try clear c63b0
           try clear c63b1
           try clear c63b2
           try clear c64
           try clear c64b0
           try clear c64b1
           try clear c64b2
           try clear p64
           try clear hcz39_0
           try clear hcz39_1
           try clear hcz39_2
           try clear hcz39_3
           try clear hcz53_0
           try clear hcz53_1
           try clear hcz53_2
           try clear hcz53_3
           try clear hcz61_0
           try clear hcz61_1
           try clear hcz61_2
           try clear hcz61_3
           try clear hcz61_4
           try clear hcz65_0
           try clear hcz65_1
           try clear hcz65_2
           try clear hcz65_3
           try clear hcz65_4
           try clear hfz39_0
           try clear hfz39_1
           try clear hfz39_2
           try clear hfz39_3
           try clear hfz53_0
           try clear hfz53_1
           try clear hfz53_2
           try clear hfz53_3
           try clear hfz61_0
           try clear hfz61_1
           try clear hfz61_2
           try clear hfz61_3
           try clear hfz61_4
           try clear hfz65_0
           try clear hfz65_1
           try clear hfz65_2
           try clear hfz65_3
           try clear hfz65_4
           try clear hfz7_3
           try clear hfz7_4
           try clear hfz9_0
           try clear hfz9_1
           try clear hfz9_2
           try clear hfz9_3
           try clear hfz9_4
           try clear hx343_0
           try clear hx343_1
           try clear hx343_2
           try clear hx343_3
           try clear p2
           try clear p3
           try clear p34
           try clear p343
           try clear p6
           try clear p64
           try clear q3
           try clear q34
           try clear q343
           obtain ⟨x5_3,x9_3,rfl,rfl,HA,HK3,BK341,HB⟩:=hrel
           cases gk with
           | zero=>exact absurd HA.out (by simp [rf48_Text.l1])
           | succ k3 =>
            have H:=HA.out;clear HA;simp only [rf48_Text.l1] at H
            replace H:=ifI H;rcases H with ⟨c66,H⟩ | ⟨c66,H⟩
            ·have c66b0:decide (x9_3 < (l0_4.length:Int))=true:=decide_eq_true c66;clear c66;replace H:=ifI H;rcases H with ⟨c67,H⟩ | ⟨c67,H⟩
             ·have c67b0:=eq_true c67;have c67b1:decide (x5_3.size+5≤9223372036854775807)=true:=decide_eq_true c67;try have c67b2:(9223372036854775807 < x5_3.size+5)=False:=eq_false (Nat.not_lt.2 c67)
              replace H:=ifI H;rcases H with ⟨c68,H⟩ | ⟨c68,H⟩
              ·have c68b0:decide (0≤x9_3)=true:=decide_eq_true c68;clear c68;replace H:=ifI H;rcases H with ⟨c69,H⟩ | ⟨c69,H⟩
               ·have c69b0:=eq_true c69;have c69b1:decide ((x5_3++(⟨#[32,116,97,103,32]⟩:ByteArray)).size+((rd_T50 l0_4 x9_3).f0).size≤9223372036854775807)=true:=decide_eq_true c69;try have c69b2:(9223372036854775807 < (x5_3++(⟨#[32,116,97,103,32]⟩:ByteArray)).size+((rd_T50 l0_4 x9_3).f0).size)=False:=eq_false (Nat.not_lt.2 c69)
                try have c69y:(9223372036854775807 < x5_3.size+5+((rd_T50 l0_4 x9_3).f0).size)=False:=by have h_:=c69b2;simp only [ByteArray.size_append] at h_;exact h_
                replace H:=ifI H;rcases H with ⟨c70,H⟩ | ⟨c70,H⟩
                ·have c70b0:=eq_true c70;have c70b1:decide (((x5_3++(⟨#[32,116,97,103,32]⟩:ByteArray))++((rd_T50 l0_4 x9_3).f0)).size+3≤9223372036854775807)=true:=decide_eq_true c70;try have c70b2:(9223372036854775807 < ((x5_3++(⟨#[32,116,97,103,32]⟩:ByteArray))++((rd_T50 l0_4 x9_3).f0)).size+3)=False:=eq_false (Nat.not_lt.2 c70)
                 try have c70y:(9223372036854775807 < (x5_3.size+5+(rd_T50 l0_4 x9_3).f0.size)+3)=False:=by have h_:=c70b2;simp only [ByteArray.size_append] at h_;exact h_
                 replace H:=ifI H;rcases H with ⟨c71,H⟩ | ⟨c71,H⟩
                 ·have c71b0:=eq_true c71;have c71b1:decide ((((x5_3++(⟨#[32,116,97,103,32]⟩:ByteArray))++((rd_T50 l0_4 x9_3).f0))++(⟨#[32,61,32]⟩:ByteArray)).size+((rd_T50 l0_4 x9_3).f1).size≤9223372036854775807)=true:=decide_eq_true c71;try have c71b2:(9223372036854775807 < (((x5_3++(⟨#[32,116,97,103,32]⟩:ByteArray))++((rd_T50 l0_4 x9_3).f0))++(⟨#[32,61,32]⟩:ByteArray)).size+((rd_T50 l0_4 x9_3).f1).size)=False:=eq_false (Nat.not_lt.2 c71)
                  try have c71y:(9223372036854775807 < (x5_3.size+5+(rd_T50 l0_4 x9_3).f0.size+3)+((rd_T50 l0_4 x9_3).f1).size)=False:=by have h_:=c71b2;simp only [ByteArray.size_append] at h_;exact h_
                  have H':=sd H;clear H;obtain ⟨_,_,_,_,_,_,_,_,_,_⟩:=bk5 BK341;try go_wp2
                  replace BK341:=sd (blk_drew BK341.out);replace HB:=sd (below_drew1 HB.out);have p355:0≤(x9_3:Int):=od;have q355:x9_3 < (l0_4.length:Int):=od;obtain ⟨ad355,e355,hx355_0,hx355_1⟩:=at_T50 HR0_4.out x9_3 p355 q355;have hw355_1:=hx355_1;have hw355_0:=hx355_0
                  cases e355
                  replace hx355_0:=(HB.out.cell (World.block_lt_of_cell? w _ hx355_0)).trans hx355_0;replace hx355_1:=(HB.out.cell (World.block_lt_of_cell? w _ hx355_1)).trans hx355_1;replace p355:=eq_true p355;replace q355:=eq_true q355;have p356:0≤(x9_3:Int):=od;have q356:x9_3 < (l0_4.length:Int):=od;obtain ⟨ad356,e356,hx356_0,hx356_1⟩:=at_T50 HR0_4.out x9_3 p356 q356;have hw356_1:=hx356_1;have hw356_0:=hx356_0;obtain rfl:ad355=ad356:=(by injection e356)
                  replace hx356_0:=(HB.out.cell (World.block_lt_of_cell? w _ hx356_0)).trans hx356_0;replace hx356_1:=(HB.out.cell (World.block_lt_of_cell? w _ hx356_1)).trans hx356_1;replace p356:=eq_true p356;replace q356:=eq_true q356;refine start_ (n:=18) (S:=fun w'=>w'.cell? ⟨gb341,0,none⟩=some (.string a0_0)∧w'.cell? ⟨gb341,1,none⟩=some (.slice A0_1 l0_1.length c0_1)∧w'.cell? ⟨gb341,2,none⟩=some (.string a0_2)∧w'.cell? ⟨gb341,3,none⟩=some (.string a0_3)∧w'.cell? ⟨gb341,4,none⟩=some (.slice (some ad355) l0_4.length c0_4)∧w'.cell? (ad355.add ((x9_3).toNat * 2))=some (.string ((rd_T50 l0_4 x9_3).f0))∧w'.cell? ⟨(ad355.add ((x9_3).toNat * 2)).block,(ad355.add ((x9_3).toNat * 2)).off+1,none⟩=some (.string ((rd_T50 l0_4 x9_3).f1))∧w'.cell? (ad355.add ((x9_3).toNat * 2))=some (.string ((rd_T50 l0_4 x9_3).f0))∧w'.cell? ⟨(ad355.add ((x9_3).toNat * 2)).block,(ad355.add ((x9_3).toNat * 2)).off+1,none⟩=some (.string ((rd_T50 l0_4 x9_3).f1))) (ds:=[]) #[false,false,false,false,false,false,false,false,false,false,false,false,false,false,false,false,false,false] (by kernel_rfl) rfl rfl ⟨(blk_cell BK341.out 0).trans rfl,(blk_cell BK341.out 1).trans rfl,(blk_cell BK341.out 2).trans rfl,(blk_cell BK341.out 3).trans rfl,(blk_cell BK341.out 4).trans rfl,((HB.out.cell (World.block_lt_of_cell? w _ hw355_0)).trans hw355_0),((HB.out.cell (World.block_lt_of_cell? w _ hw355_1)).trans hw355_1),((HB.out.cell (World.block_lt_of_cell? w _ hw356_0)).trans hw356_0),((HB.out.cell (World.block_lt_of_cell? w _ hw356_1)).trans hw356_1)⟩ (fun hHeld=>?_);refine with_tabW rf48_Text.tab23 rf48_Text.bits23 (fun HT_ HW_=>?_);generalize wr.drew=w73 at BK341 HB hx355_0 hx355_1 hx356_0 hx356_1 hHeld ⊢;refine pA 0 91 HT_.out ?_;refine pA 1 92 HT_.out ?_;refine pA 2 93 HT_.out ?_;refine pA 4 95 HT_.out ?_;refine pA 10 101 HT_.out ?_;refine pA 12 103 HT_.out ?_;refine tA 3 94 HT_.out HW_.out hHeld ?_;refine pA 5 96 HT_.out ?_;refine pA 6 97 HT_.out ?_;refine tA 7 98 HT_.out HW_.out hHeld ?_;refine pA 8 99 HT_.out ?_;refine pA 9 100 HT_.out ?_;refine tA 11 102 HT_.out HW_.out hHeld ?_;refine pA 13 104 HT_.out ?_;refine pA 14 105 HT_.out ?_;refine tA 15 106 HT_.out HW_.out hHeld ?_;refine pA 16 107 HT_.out ?_;refine pA 17 5 HT_.out ?_;refine done_ (done_of HT_.out (by kernel_rfl)) ?_;try go_wp2
                  go_roundg k3
                  case measure=>have:=HK1.out;have:=HJ59.out;have:=HK3.out;omega
                  case rel=>exact ⟨((((x5_3++(⟨#[32,116,97,103,32]⟩:ByteArray))++((rd_T50 l0_4 x9_3).f0))++(⟨#[32,61,32]⟩:ByteArray))++((rd_T50 l0_4 x9_3).f1)),(wrap64 (x9_3+1)),zq7,zq7,H',⟨by have:=HK1.out;have:=HJ59.out;have:=HK3.out;omega⟩,⟨zq54⟩,⟨zq55⟩⟩
                 exact absurd H (by simp)
                exact absurd H (by simp)
               exact absurd H (by simp)
              exact absurd H (by simp)
             exact absurd H (by simp)
            have c66b0:decide (x9_3 < (l0_4.length:Int))=false:=decide_eq_false c66;clear c66;replace H:=ifI H;rcases H with ⟨c74,H⟩ | ⟨c74,H⟩
            ·have c74b0:decide (400 < (x5_3.size:Int))=true:=decide_eq_true c74;have c74b1:decide (400 < x5_3.size)=true:=decide_eq_true (by omega);clear c74;simp only [Option.some.injEq,Prod.mk.injEq] at H
             obtain ⟨rfl,rfl⟩:=H;obtain ⟨_,_,_,_,_,_,_,_,_,_⟩:=bk5 BK341;go_wp2
             go_ret2
             exact ⟨zq4,zq55⟩
            have c74b0:decide (400 < (x5_3.size:Int))=false:=decide_eq_false c74;have c74b1:decide (400 < x5_3.size)=false:=decide_eq_false (by omega);clear c74;simp only [Option.some.injEq,Prod.mk.injEq] at H
            obtain ⟨rfl,rfl⟩:=H;obtain ⟨_,_,_,_,_,_,_,_,_,_⟩:=bk5 BK341;go_wp2
            go_ret2
            exact ⟨zq4,zq55⟩
       exact absurd H (by simp)
      exact absurd H (by simp)
   exact absurd H (by simp)
  exact absurd H (by simp)
 obtain ⟨c3b0,c3b1⟩:=neI c3;try (change ¬ ByteArray.toList _=[] at c3;obtain ⟨c3e0,c3e1⟩:=isE_f c3;(try rw [c3e0]))
 simp only [Option.some.injEq,Prod.mk.injEq] at H
 obtain ⟨rfl,rfl⟩:=H;go_enter Tryz.func17,Tryz.ntmps17
 go_wp2_with (first | ((with_reducible refine gate_dst (N:=1) rfl ?_);refine bxA 1 #[.string a0_0,.slice A0_1 l0_1.length c0_1,.string a0_2,.string a0_3,.slice A0_4 l0_4.length c0_4] 25 ?_;intro gb341 hg w77 hbox hb;have BK341:=sd (hbox);have GW341:=gem hg HB;have GE341:=GW341;replace HB:=hbm HB hb;clear hb hbox hg;obtain ⟨_,_,_,_,_,_,_,_,_,_⟩:=bk5 BK341) | ((with_reducible refine gate_callee (f:=10) rfl ?_);refine gL 11 Tryz.func10 #[.agg #[.string a0_0,.slice A0_1 l0_1.length c0_1,.string a0_2,.string a0_3,.slice A0_4 l0_4.length c0_4]] ?_;(with_reducible refine (rf48_Check.calls k a0_0 _ _ l0_1 a0_2 a0_3 _ _ l0_4 t342 _ ?side1 ?side2 ?side3 ?side4 A2.out).mono ?_);(case side1=>exact zq48);(case side2=>exact HC0_1.out);(case side3=>exact zq40);(case side4=>exact HC0_4.out);rintro e w79 ⟨rfl,hb⟩;refine ⟨_,rfl,?_⟩;replace BK341:=bkm BK341 hb;replace HB:=hbm HB hb;clear hb))
 go_ret2
 exact ⟨zq4,zq55⟩
end Go.Proofs.YtkbgkekegjfkfaaGreatDoor.A
