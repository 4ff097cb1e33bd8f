-- By pack.py, a program of this session's.
import Derived.Test.YtkbgkekegjfkfaaGreatDoorZ13
import Derived.Test.YtkbgkekegjfkfaaGreatDoorZ14
import Derived.Test.YtkbgkekegjfkfaaGreatDoorZ16
import Derived.Test.YtkbgkekegjfkfaaGreatDoorZ17
set_option linter.unusedVariables false
set_option linter.unusedSimpArgs false
namespace Go.Proofs.YtkbgkekegjfkfaaGreatDoor
namespace A
open Go.RowKit B WW WL WM
attribute [local go_sem] max2_int min2_int max_two min_two max_three min_three max_four min_four
set_option maxHeartbeats 8000000
set_option maxRecDepth 100000
theorem days_Text.calls (k:Nat) (a0:Int) (r1:ByteArray) (r2:Int) (w:World) (h:days_Text.f k a0=some (r1,r2)) (hG:Gl w) :
  Calls Tryz.prog 73 #[.int .i64 a0] w fun e w'=>e=.returned (.tuple #[.string r1,.int .i64 r2])∧Below w.heap.size w w':=by
 have HG:=sd hG;clear hG;have hu112:=Tryz.underlying112;have HB:=sd (Below.refl w.heap.size w);have H:=h;clear h;unfold days_Text.f at H;replace H:=bdI H;obtain ⟨⟨t171,t172,t173,t174⟩,A2,H⟩:=H;(try dsimp only at H)
 replace H:=ifI H;rcases H with ⟨c3,H⟩|⟨c3,H⟩
 ·obtain ⟨c3b0,c3b1⟩:=eqI c3;clear c3;replace H:=bdI H;obtain ⟨t176,A4,H⟩:=H;(try dsimp only at H)
  replace H:=ifI H;rcases H with ⟨c5,H⟩|⟨c5,H⟩
  ·have c5b0:=eq_true c5;have c5b1:decide (t176.size+1≤9223372036854775807)=true:=decide_eq_true c5;try have c5b2:(9223372036854775807 < t176.size+1)=False:=eq_false (Nat.not_lt.2 c5)
   replace H:=bdI H;obtain ⟨t177,A6,H⟩:=H;(try dsimp only at H)
   replace H:=ifI H;rcases H with ⟨c7,H⟩|⟨c7,H⟩
   ·have c7b0:=eq_true c7;have c7b1:decide ((t176++(⟨#[45]⟩:ByteArray)).size+t177.size≤9223372036854775807)=true:=decide_eq_true c7;try have c7b2:(9223372036854775807 < (t176++(⟨#[45]⟩:ByteArray)).size+t177.size)=False:=eq_false (Nat.not_lt.2 c7)
    try have c7y:(9223372036854775807 < t176.size+1+t177.size)=False:=by have h_:=c7b2;simp only [ByteArray.size_append] at h_;exact h_
    replace H:=ifI H;rcases H with ⟨c8,H⟩|⟨c8,H⟩
    ·have c8b0:=eq_true c8;have c8b1:decide (((t176++(⟨#[45]⟩:ByteArray))++t177).size+1≤9223372036854775807)=true:=decide_eq_true c8;try have c8b2:(9223372036854775807 < ((t176++(⟨#[45]⟩:ByteArray))++t177).size+1)=False:=eq_false (Nat.not_lt.2 c8)
     try have c8y:(9223372036854775807 < t176.size+1+t177.size+1)=False:=by have h_:=c8b2;simp only [ByteArray.size_append] at h_;exact h_
     replace H:=bdI H;obtain ⟨t178,A9,H⟩:=H;(try dsimp only at H)
     replace H:=ifI H;rcases H with ⟨c10,H⟩|⟨c10,H⟩
     ·have c10b0:=eq_true c10;have c10b1:decide ((((t176++(⟨#[45]⟩:ByteArray))++t177)++(⟨#[45]⟩:ByteArray)).size+t178.size≤9223372036854775807)=true:=decide_eq_true c10;try have c10b2:(9223372036854775807 < (((t176++(⟨#[45]⟩:ByteArray))++t177)++(⟨#[45]⟩:ByteArray)).size+t178.size)=False:=eq_false (Nat.not_lt.2 c10)
      try have c10y:(9223372036854775807 < t176.size+1+t177.size+1+t178.size)=False:=by have h_:=c10b2;simp only [ByteArray.size_append] at h_;exact h_
      simp only [Option.some.injEq,Prod.mk.injEq] at H
      obtain ⟨rfl,rfl⟩:=H;go_enter Tryz.func73,Tryz.ntmps73
      try go_wp2_with (first|((with_reducible refine gate_callee (f:=101) rfl ?_);refine gL 7 Tryz.func101 #[.int .i64 a0] ?_;(with_reducible refine (days_Date.calls k a0 t171 t172 t173 t174 _ A2.out (gl_below HG.out zq22)).mono ?_);rintro e w11 ⟨rfl,hb⟩;refine ⟨_,rfl,?_⟩;replace HB:=hbm HB hb;clear hb)|((with_reducible refine gate_dst (N:=4) rfl ?_);refine bxA 4 #[.int .i64 0,.int .i64 0,.int .i64 0] 112 ?_;intro gb175 hg w12 hbox hb;have BK175:=sd (hbox);have GW175:=gem hg HB;have GE175:=GW175;replace HB:=hbm HB hb;clear hb hbox hg;obtain ⟨_,_,_,_,_,_⟩:=bk3 BK175))
      have n0_:Aside0 ((((w12.setCell ⟨gb175,0,none⟩ (.int .i64 t171)).setCell ⟨gb175,1,none⟩ (.int .i64 t172)).setCell ⟨gb175,2,none⟩ (.int .i64 t173)).heap[gb175]?=some (.cells #[.int .i64 t171,.int .i64 t172,.int .i64 t173] 112 (0,0))):=⟨by (with_reducible repeat (first|refine blk_drewN ?_ _|refine blk_drew ?_|refine blk_alloc ?_ _));refine blk_put (cs:=#[.int .i64 t171,.int .i64 t172,.int .i64 0]) ?_ 2 _ rfl;(with_reducible repeat (first|refine blk_drewN ?_ _|refine blk_drew ?_|refine blk_alloc ?_ _));refine blk_put (cs:=#[.int .i64 t171,.int .i64 0,.int .i64 0]) ?_ 1 _ rfl;(with_reducible repeat (first|refine blk_drewN ?_ _|refine blk_drew ?_|refine blk_alloc ?_ _));refine blk_put (cs:=#[.int .i64 0,.int .i64 0,.int .i64 0]) ?_ 0 _ rfl;(with_reducible repeat (first|refine blk_drewN ?_ _|refine blk_drew ?_|refine blk_alloc ?_ _));exact BK175.out⟩
      have n1_:Aside0 (Below w.heap.size w (((w12.setCell ⟨gb175,0,none⟩ (.int .i64 t171)).setCell ⟨gb175,1,none⟩ (.int .i64 t172)).setCell ⟨gb175,2,none⟩ (.int .i64 t173))):=⟨zq128⟩
      (try clear BK175)
      (try clear HB)
      generalize (((w12.setCell ⟨gb175,0,none⟩ (.int .i64 t171)).setCell ⟨gb175,1,none⟩ (.int .i64 t172)).setCell ⟨gb175,2,none⟩ (.int .i64 t173))=w14 at n0_ n1_ ⊢;have BK175:=n0_;have HB:=n1_;clear n0_ n1_;replace BK175:=sd (blk_drew BK175.out);replace HB:=sd (below_drew1 HB.out);refine start_ (n:=15) (S:=fun w'=>w'.cell? ⟨gb175,0,none⟩=some (.int .i64 t171)∧w'.cell? ⟨gb175,1,none⟩=some (.int .i64 t172)∧w'.cell? ⟨gb175,2,none⟩=some (.int .i64 t173)) (ds:=[]) #[false,false,false,false,false,false,false,false,false,false,false,false,false,false,false] (by kernel_rfl) rfl rfl ⟨(blk_cell BK175.out 0).trans rfl,(blk_cell BK175.out 1).trans rfl,(blk_cell BK175.out 2).trans rfl⟩ (fun hHeld=>?_);refine with_tabW days_Text.tab4 days_Text.bits4 (fun HT_ HW_=>?_);generalize w14.drew=w15 at BK175 HB hHeld ⊢;refine pA 0 13 HT_.out ?_;refine pA 4 17 HT_.out ?_;refine pA 9 22 HT_.out ?_;refine tA 1 14 HT_.out HW_.out hHeld ?_;refine tA 5 18 HT_.out HW_.out hHeld ?_;refine tA 10 23 HT_.out HW_.out hHeld ?_;refine one_ (i:=2) (N:=some 15) #[true,true,true,false,true,true,false,false,false,true,true,false,false,false,false] rfl rfl (one_of HT_.out (by kernel_rfl)) (by decide) (fun K hK=>?_);refine goes_ Tryz.func72 (by kernel_rfl) rfl #[.int .i64 t171] (by rfl) rfl rfl zq34 ?_;with_reducible refine (num_Text.calls t171 t176 _ A4.out).mono ?_
      rintro e w16 ⟨rfl,hb⟩;refine ⟨_,rfl,?_⟩;replace BK175:=bkm BK175 hb;replace HB:=hbm HB hb;clear hb;refine hK.out _ _ ⟨(blk_cell BK175.out 0).trans rfl,(blk_cell BK175.out 1).trans rfl,(blk_cell BK175.out 2).trans rfl⟩ (fun hHeld=>?_);clear hK K;refine nA 15 ?_;refine pA 3 16 HT_.out ?_;refine one_ (i:=6) (N:=some 19) #[true,true,true,true,true,true,true,false,false,true,true,false,false,false,false] rfl rfl (one_of HT_.out (by kernel_rfl)) (by decide) (fun K hK=>?_);refine goes_ Tryz.func102 (by kernel_rfl) rfl #[.int .i64 t172] (by rfl) rfl rfl zq34 ?_;with_reducible refine (days_padded.calls t172 t177 _ A6.out).mono ?_
      rintro e w17 ⟨rfl,hb⟩;refine ⟨_,rfl,?_⟩;replace BK175:=bkm BK175 hb;replace HB:=hbm HB hb;clear hb;refine hK.out _ _ ⟨(blk_cell BK175.out 0).trans rfl,(blk_cell BK175.out 1).trans rfl,(blk_cell BK175.out 2).trans rfl⟩ (fun hHeld=>?_);clear hK K;refine nA 19 ?_;refine pA 7 20 HT_.out ?_;refine pA 8 21 HT_.out ?_;refine one_ (i:=11) (N:=some 24) #[true,true,true,true,true,true,true,true,true,true,true,true,false,false,false] rfl rfl (one_of HT_.out (by kernel_rfl)) (by decide) (fun K hK=>?_);refine goes_ Tryz.func102 (by kernel_rfl) rfl #[.int .i64 t173] (by rfl) rfl rfl zq34 ?_;with_reducible refine (days_padded.calls t173 t178 _ A9.out).mono ?_
      rintro e w18 ⟨rfl,hb⟩;refine ⟨_,rfl,?_⟩;replace BK175:=bkm BK175 hb;replace HB:=hbm HB hb;clear hb;refine hK.out _ _ ⟨(blk_cell BK175.out 0).trans rfl,(blk_cell BK175.out 1).trans rfl,(blk_cell BK175.out 2).trans rfl⟩ (fun hHeld=>?_);clear hK K;refine nA 24 ?_;refine pA 12 25 HT_.out ?_;refine pA 13 2 HT_.out ?_;refine pA 14 3 HT_.out ?_;refine done_ (done_of HT_.out (by kernel_rfl)) ?_;try go_wp2
      go_ret2
      exact ⟨zq4,zq128⟩
     exact absurd H (by simp)
    exact absurd H (by simp)
   exact absurd H (by simp)
  exact absurd H (by simp)
 obtain ⟨c3b0,c3b1⟩:=neI c3;simp only [Option.some.injEq,Prod.mk.injEq] at H
 obtain ⟨rfl,rfl⟩:=H;go_enter Tryz.func73,Tryz.ntmps73
 go_wp2_with (first|((with_reducible refine gate_callee (f:=101) rfl ?_);refine gL 7 Tryz.func101 #[.int .i64 a0] ?_;(with_reducible refine (days_Date.calls k a0 t171 t172 t173 t174 _ A2.out (gl_below HG.out zq22)).mono ?_);rintro e w19 ⟨rfl,hb⟩;refine ⟨_,rfl,?_⟩;replace HB:=hbm HB hb;clear hb)|((with_reducible refine gate_dst (N:=4) rfl ?_);refine bxA 4 #[.int .i64 0,.int .i64 0,.int .i64 0] 112 ?_;intro gb175 hg w20 hbox hb;have BK175:=sd (hbox);have GW175:=gem hg HB;have GE175:=GW175;replace HB:=hbm HB hb;clear hb hbox hg;obtain ⟨_,_,_,_,_,_⟩:=bk3 BK175))
 go_ret2
 exact ⟨zq4,zq128⟩
theorem words_Quote.calls (k:Nat) (a0 r1:ByteArray) (r2:Int) (w:World) (h:words_Quote.f k a0=some (r1,r2)) :
  Calls Tryz.prog 74 #[.string a0] w fun e w'=>e=.returned (.tuple #[.string r1,.int .i64 r2])∧Below w.heap.size w w':=by
 have HB:=sd (Below.refl w.heap.size w);have H:=h;clear h;unfold words_Quote.f at H;replace H:=bdI H;obtain ⟨t179,A2,H⟩:=H;(try dsimp only at H)
 by_cases c3:t179=true
 ·subst c3;rw [if_pos rfl] at H;obtain ⟨y180,hy180⟩:∃ y_:List Int,y_=(([34]:List Int)):=⟨_,rfl⟩
  replace H:(words_Quote.l0 k a0 y180 (a0.size:Int) 0)=some (r1,r2):=by first|(rw [hy180];with_reducible exact H)|(have H2_:=(Option.bind_some _ _).symm.trans H;rw [hy180];with_reducible exact H2_)|(have H2_:=(Option.bind_some _ _).symm.trans H;with_reducible exact H2_)|with_reducible exact H|(rw [hy180];exact H)|exact H
  have Ny180:=sd hy180;clear hy180;have H':=sd H;clear H;go_enter Tryz.func74,Tryz.ntmps74
  go_wp2_with (first|((with_reducible refine gate_callee (f:=53) rfl ?_);refine gL 7 Tryz.func53 #[.string a0] ?_;(with_reducible refine (words_Plain.calls a0 true _ A2.out).mono ?_);rintro e w' ⟨rfl,⟨nd,rfl⟩⟩;refine ⟨_,rfl,?_⟩)|((with_reducible refine gate_dst (N:=9) rfl ?_);refine Kd.R_lit (Kd.int .u8) _ 5 ?hg (N:=9) ?hd (xs:=([34]:List Int)) (inner:=[.int .u8 34]) (ok:=fun _=>True) (okp:=fun _=>True) ?hr ?hp (fun _ hk=>hk) trivial (Below.refl _ _) (Nat.le_refl _) (by simp) ?_;(case hd=>rfl);(case hg=>rfl);(case hr=>first|(go_simp;done)|(go_simp;rfl));(case hp=>exact (Reps.one (show Kd.M (Kd.int .u8) _ _ _ 34 [.int .u8 34] from rfl) (Reps.none _ _)));intro v181 w4 ho5 hb hg_ hnew_;clear hg_ hnew_;(first|rw [← Ny180.out] at ho5|(simp only [Int.reduceToNat] at ho5;rw [← Ny180.out] at ho5));have HO182:=sd (Kd.R_lower ho5 (below_size zq6));replace HB:=hbm HB hb;clear hb ho5))
  go_loopg [4,12] k (fun kq v4 v12 w'=>∃ (x4_1:List Int) (x12_1:Int),v12=.int .i64 x12_1∧Aside0 (words_Quote.l0 kq a0 x4_1 (a0.size:Int) x12_1=some (r1,r2))∧Aside0 (kq≤k)∧Aside0 (Kd.R (Kd.int .u8) 5 w' w.heap.size (fun _=>True) v4 x4_1)∧Aside0 (Below w.heap.size w w'))
  case atStart=>exact ⟨(y180),(0),zq7,H',⟨Nat.le_refl _⟩,⟨by (with_reducible repeat (first|apply Kd.R_alloc|apply Kd.R_drewN|apply Kd.R_drew));exact HO182.out⟩,⟨zq6⟩⟩
  case round =>
   clear H';try clear p2
   obtain ⟨x4_1,x12_1,rfl,HA,HK1,HO_4,HB⟩:=hrel
   cases gk with
  |zero=>exact absurd HA.out (by simp [words_Quote.l0])
  |succ k1 =>
    have H:=HA.out;clear HA;simp only [words_Quote.l0] at H
    replace H:=ifI H;rcases H with ⟨c6,H⟩|⟨c6,H⟩
    ·have c6b0:decide (x12_1 < (a0.size:Int))=true:=decide_eq_true c6;clear c6;replace H:=ifI H;rcases H with ⟨c7,H⟩|⟨c7,H⟩
     ·have c7b0:decide (0≤x12_1)=true:=decide_eq_true c7;clear c7;replace H:=ifI H;rcases H with ⟨c8,H⟩|⟨c8,H⟩
      ·have c8b0:decide (x12_1 < (a0.size:Int))=true:=decide_eq_true c8;clear c8;replace H:=ifI H;rcases H with ⟨c10,H⟩|⟨c10,H⟩
       ·obtain ⟨c10b0,c10b1⟩:=eqI c10;clear c10;replace H:=ifI H;rcases H with ⟨c11,H⟩|⟨c11,H⟩
        ·have LMc11:=sd c11;clear c11;obtain ⟨y183,hy183⟩:∃ y_:List Int,y_=(x4_1++[92]):=⟨_,rfl⟩
         replace H:(if y183.length < 140737488355328 then (words_Quote.l0 k1 a0 (y183++[bt a0 x12_1]) (a0.size:Int) (wrap64 (x12_1+1))) else (none))=some (r1,r2):=by first|(rw [hy183];with_reducible exact H)|(have H2_:=(Option.bind_some _ _).symm.trans H;rw [hy183];with_reducible exact H2_)|(have H2_:=(Option.bind_some _ _).symm.trans H;with_reducible exact H2_)|with_reducible exact H|(rw [hy183];exact H)|exact H
         have Ny183:=sd hy183;clear hy183;replace H:=ifI H;rcases H with ⟨c13,H⟩|⟨c13,H⟩
         ·have LMc13:=sd c13;clear c13;obtain ⟨y186,hy186⟩:∃ y_:List Int,y_=(y183++[bt a0 x12_1]):=⟨_,rfl⟩
          replace H:(words_Quote.l0 k1 a0 y186 (a0.size:Int) (wrap64 (x12_1+1)))=some (r1,r2):=by first|(rw [hy186];with_reducible exact H)|(have H2_:=(Option.bind_some _ _).symm.trans H;rw [hy186];with_reducible exact H2_)|(have H2_:=(Option.bind_some _ _).symm.trans H;with_reducible exact H2_)|with_reducible exact H|(rw [hy186];exact H)|exact H
          have Ny186:=sd hy186;clear hy186;have H':=sd H;clear H;have p9:0≤(x12_1:Int):=od;have q9:x12_1 < (a0.size:Int):=od;have hx9:=bt_at a0 x12_1;replace p9:=eq_true p9;replace q9:=eq_true q9;go_wp2_with (first|((with_reducible refine gate_builtin (b:=.append) (xs:=#[.tmp 25,.tmp 26]) rfl ?_);at_builtin;refine Kd.R_append (Kd.int .u8) (w0:=w) w.heap.size rfl (.tmp 25) (.tmp 26) 102 5 (.int .u8 0) 1 rfl Tryz.underlying102 info5 rfl (by decide) (by omega) u4 x4_1 92 [.int .u8 92] (fun _=>True) (fun _=>False) rfl rfl ?aP (fun _ hk=>hk.elim) ?aF ?aO ?aB ?aS ?aL ?_;(case aP=>exact rfl);(case aB=>exact zq6);(case aF=>exact (fun _ _=>trivial));(case aO=>exact zq53);(case aS=>exact (below_size zq6));(case aL=>have:=LMc11.out;omega);intro v184 w14 ho hb hg hat;rw [← Ny183.out] at ho;have HO185:=sd (ho);replace HB:=sd (hb);clear HO_4;clear ho hb hg hat;have p12:0≤(x12_1:Int):=od;have q12:x12_1 < (a0.size:Int):=od;have hx12:=bt_at a0 x12_1;replace p12:=eq_true p12;replace q12:=eq_true q12)|((with_reducible refine gate_builtin (b:=.append) (xs:=#[.tmp 28,.tmp 32]) rfl ?_);at_builtin;refine Kd.R_append (Kd.int .u8) (w0:=w) w.heap.size rfl (.tmp 28) (.tmp 32) 102 5 (.int .u8 0) 1 rfl Tryz.underlying102 info5 rfl (by decide) (by omega) v184 y183 (bt a0 x12_1) [.int .u8 (bt a0 x12_1)] (fun _=>True) (fun _=>False) rfl rfl ?aP (fun _ hk=>hk.elim) ?aF ?aO ?aB ?aS ?aL ?_;(case aP=>exact rfl);(case aB=>exact zq6);(case aF=>exact (fun _ _=>trivial));(case aO=>exact (by (with_reducible repeat (first|apply Kd.R_alloc|apply Kd.R_drewN|apply Kd.R_drew));exact HO185.out));(case aS=>exact (below_size zq6));(case aL=>have:=LMc13.out;omega);intro v187 w15 ho hb hg hat;rw [← Ny186.out] at ho;have HO188:=sd (ho);replace HB:=sd (hb);clear HO185;clear ho hb hg hat))
          go_roundg k1
          case measure=>have:=HK1.out;omega
          case rel=>exact ⟨(y186),(wrap64 (x12_1+1)),zq7,H',⟨by have:=HK1.out;omega⟩,⟨by (with_reducible repeat (first|apply Kd.R_alloc|apply Kd.R_drewN|apply Kd.R_drew));exact HO188.out⟩,⟨zq6⟩⟩
         exact absurd H (by simp)
        exact absurd H (by simp)
       obtain ⟨c10b0,c10b1⟩:=neI c10;replace H:=ifI H;rcases H with ⟨c17,H⟩|⟨c17,H⟩
       ·obtain ⟨c17b0,c17b1⟩:=eqI c17;clear c17;replace H:=ifI H;rcases H with ⟨c18,H⟩|⟨c18,H⟩
        ·have LMc18:=sd c18;clear c18;obtain ⟨y189,hy189⟩:∃ y_:List Int,y_=(x4_1++[92]):=⟨_,rfl⟩
         replace H:(if y189.length < 140737488355328 then (words_Quote.l0 k1 a0 (y189++[bt a0 x12_1]) (a0.size:Int) (wrap64 (x12_1+1))) else (none))=some (r1,r2):=by first|(rw [hy189];with_reducible exact H)|(have H2_:=(Option.bind_some _ _).symm.trans H;rw [hy189];with_reducible exact H2_)|(have H2_:=(Option.bind_some _ _).symm.trans H;with_reducible exact H2_)|with_reducible exact H|(rw [hy189];exact H)|exact H
         have Ny189:=sd hy189;clear hy189;replace H:=ifI H;rcases H with ⟨c20,H⟩|⟨c20,H⟩
         ·have LMc20:=sd c20;clear c20;obtain ⟨y192,hy192⟩:∃ y_:List Int,y_=(y189++[bt a0 x12_1]):=⟨_,rfl⟩
          replace H:(words_Quote.l0 k1 a0 y192 (a0.size:Int) (wrap64 (x12_1+1)))=some (r1,r2):=by first|(rw [hy192];with_reducible exact H)|(have H2_:=(Option.bind_some _ _).symm.trans H;rw [hy192];with_reducible exact H2_)|(have H2_:=(Option.bind_some _ _).symm.trans H;with_reducible exact H2_)|with_reducible exact H|(rw [hy192];exact H)|exact H
          have Ny192:=sd hy192;clear hy192;have H':=sd H;clear H;have p9:0≤(x12_1:Int):=od;have q9:x12_1 < (a0.size:Int):=od;have hx9:=bt_at a0 x12_1;replace p9:=eq_true p9;replace q9:=eq_true q9;have p16:0≤(x12_1:Int):=od;have q16:x12_1 < (a0.size:Int):=od;have hx16:=bt_at a0 x12_1;replace p16:=eq_true p16;replace q16:=eq_true q16;go_wp2_with (first|((with_reducible refine gate_builtin (b:=.append) (xs:=#[.tmp 25,.tmp 26]) rfl ?_);at_builtin;refine Kd.R_append (Kd.int .u8) (w0:=w) w.heap.size rfl (.tmp 25) (.tmp 26) 102 5 (.int .u8 0) 1 rfl Tryz.underlying102 info5 rfl (by decide) (by omega) u4 x4_1 92 [.int .u8 92] (fun _=>True) (fun _=>False) rfl rfl ?aP (fun _ hk=>hk.elim) ?aF ?aO ?aB ?aS ?aL ?_;(case aP=>exact rfl);(case aB=>exact zq6);(case aF=>exact (fun _ _=>trivial));(case aO=>exact zq53);(case aS=>exact (below_size zq6));(case aL=>have:=LMc18.out;omega);intro v190 w21 ho hb hg hat;rw [← Ny189.out] at ho;have HO191:=sd (ho);replace HB:=sd (hb);clear HO_4;clear ho hb hg hat;have p19:0≤(x12_1:Int):=od;have q19:x12_1 < (a0.size:Int):=od;have hx19:=bt_at a0 x12_1;replace p19:=eq_true p19;replace q19:=eq_true q19)|((with_reducible refine gate_builtin (b:=.append) (xs:=#[.tmp 28,.tmp 32]) rfl ?_);at_builtin;refine Kd.R_append (Kd.int .u8) (w0:=w) w.heap.size rfl (.tmp 28) (.tmp 32) 102 5 (.int .u8 0) 1 rfl Tryz.underlying102 info5 rfl (by decide) (by omega) v190 y189 (bt a0 x12_1) [.int .u8 (bt a0 x12_1)] (fun _=>True) (fun _=>False) rfl rfl ?aP (fun _ hk=>hk.elim) ?aF ?aO ?aB ?aS ?aL ?_;(case aP=>exact rfl);(case aB=>exact zq6);(case aF=>exact (fun _ _=>trivial));(case aO=>exact (by (with_reducible repeat (first|apply Kd.R_alloc|apply Kd.R_drewN|apply Kd.R_drew));exact HO191.out));(case aS=>exact (below_size zq6));(case aL=>have:=LMc20.out;omega);intro v193 w22 ho hb hg hat;rw [← Ny192.out] at ho;have HO194:=sd (ho);replace HB:=sd (hb);clear HO191;clear ho hb hg hat))
          go_roundg k1
          case measure=>have:=HK1.out;omega
          case rel=>exact ⟨(y192),(wrap64 (x12_1+1)),zq7,H',⟨by have:=HK1.out;omega⟩,⟨by (with_reducible repeat (first|apply Kd.R_alloc|apply Kd.R_drewN|apply Kd.R_drew));exact HO194.out⟩,⟨zq6⟩⟩
         exact absurd H (by simp)
        exact absurd H (by simp)
       obtain ⟨c17b0,c17b1⟩:=neI c17;replace H:=ifI H;rcases H with ⟨c24,H⟩|⟨c24,H⟩
       ·have LMc24:=sd c24;clear c24;obtain ⟨y195,hy195⟩:∃ y_:List Int,y_=(x4_1++[bt a0 x12_1]):=⟨_,rfl⟩
        replace H:(words_Quote.l0 k1 a0 y195 (a0.size:Int) (wrap64 (x12_1+1)))=some (r1,r2):=by first|(rw [hy195];with_reducible exact H)|(have H2_:=(Option.bind_some _ _).symm.trans H;rw [hy195];with_reducible exact H2_)|(have H2_:=(Option.bind_some _ _).symm.trans H;with_reducible exact H2_)|with_reducible exact H|(rw [hy195];exact H)|exact H
        have Ny195:=sd hy195;clear hy195;have H':=sd H;clear H;have p9:0≤(x12_1:Int):=od;have q9:x12_1 < (a0.size:Int):=od;have hx9:=bt_at a0 x12_1;replace p9:=eq_true p9;replace q9:=eq_true q9;have p16:0≤(x12_1:Int):=od;have q16:x12_1 < (a0.size:Int):=od;have hx16:=bt_at a0 x12_1;replace p16:=eq_true p16;replace q16:=eq_true q16;have p23:0≤(x12_1:Int):=od;have q23:x12_1 < (a0.size:Int):=od;have hx23:=bt_at a0 x12_1;replace p23:=eq_true p23;replace q23:=eq_true q23;go_wp2_with (first|((with_reducible refine gate_builtin (b:=.append) (xs:=#[.tmp 28,.tmp 32]) rfl ?_);at_builtin;refine Kd.R_append (Kd.int .u8) (w0:=w) w.heap.size rfl (.tmp 28) (.tmp 32) 102 5 (.int .u8 0) 1 rfl Tryz.underlying102 info5 rfl (by decide) (by omega) u4 x4_1 (bt a0 x12_1) [.int .u8 (bt a0 x12_1)] (fun _=>True) (fun _=>False) rfl rfl ?aP (fun _ hk=>hk.elim) ?aF ?aO ?aB ?aS ?aL ?_;(case aP=>exact rfl);(case aB=>exact zq6);(case aF=>exact (fun _ _=>trivial));(case aO=>exact zq53);(case aS=>exact (below_size zq6));(case aL=>have:=LMc24.out;omega);intro v196 w25 ho hb hg hat;rw [← Ny195.out] at ho;have HO197:=sd (ho);replace HB:=sd (hb);clear HO_4;clear ho hb hg hat))
        go_roundg k1
        case measure=>have:=HK1.out;omega
        case rel=>exact ⟨(y195),(wrap64 (x12_1+1)),zq7,H',⟨by have:=HK1.out;omega⟩,⟨by (with_reducible repeat (first|apply Kd.R_alloc|apply Kd.R_drewN|apply Kd.R_drew));exact HO197.out⟩,⟨zq6⟩⟩
       exact absurd H (by simp)
      exact absurd H (by simp)
     exact absurd H (by simp)
    have c6b0:decide (x12_1 < (a0.size:Int))=false:=decide_eq_false c6;clear c6;replace H:=ifI H;rcases H with ⟨c26,H⟩|⟨c26,H⟩
    ·have LMc26:=sd c26;clear c26;obtain ⟨y198,hy198⟩:∃ y_:List Int,y_=(x4_1++[34]):=⟨_,rfl⟩
     replace H:(some (strOfNums y198,0))=some (r1,r2):=by first|(rw [hy198];with_reducible exact H)|(have H2_:=(Option.bind_some _ _).symm.trans H;rw [hy198];with_reducible exact H2_)|(have H2_:=(Option.bind_some _ _).symm.trans H;with_reducible exact H2_)|with_reducible exact H|(rw [hy198];exact H)|exact H
     have Ny198:=sd hy198;clear hy198;simp only [Option.some.injEq,Prod.mk.injEq] at H
     obtain ⟨rfl,rfl⟩:=H;go_wp2_with (first|((with_reducible refine gate_builtin (b:=.append) (xs:=#[.tmp 35,.tmp 36]) rfl ?_);at_builtin;refine Kd.R_append (Kd.int .u8) (w0:=w) w.heap.size rfl (.tmp 35) (.tmp 36) 102 5 (.int .u8 0) 1 rfl Tryz.underlying102 info5 rfl (by decide) (by omega) u4 x4_1 34 [.int .u8 34] (fun _=>True) (fun _=>False) rfl rfl ?aP (fun _ hk=>hk.elim) ?aF ?aO ?aB ?aS ?aL ?_;(case aP=>exact rfl);(case aB=>exact zq6);(case aF=>exact (fun _ _=>trivial));(case aO=>exact zq53);(case aS=>exact (below_size zq6));(case aL=>have:=LMc26.out;omega);intro v199 w27 ho hb hg hat;rw [← Ny198.out] at ho;have HO200:=sd (ho);replace HB:=sd (hb);clear HO_4;clear ho hb hg hat;have hcv28:=own_string (P:=Tryz.prog) Tryz.underlying102 Tryz.underlying5 Tryz.underlying9 (Kd.own_of_R HO200.out)))
     go_ret2
     exact ⟨zq4,zq6⟩
    exact absurd H (by simp)
 replace c3:=Bool.eq_false_iff.mpr c3;subst c3;rw [if_neg Bool.false_ne_true] at H;simp only [Option.some.injEq,Prod.mk.injEq] at H
 obtain ⟨rfl,rfl⟩:=H;go_enter Tryz.func74,Tryz.ntmps74
 go_wp2_with (first|((with_reducible refine gate_callee (f:=53) rfl ?_);refine gL 7 Tryz.func53 #[.string a0] ?_;(with_reducible refine (words_Plain.calls a0 false _ A2.out).mono ?_);rintro e w' ⟨rfl,⟨nd,rfl⟩⟩;refine ⟨_,rfl,?_⟩))
 go_ret2
 exact ⟨zq4,zq6⟩
theorem rules_operand.calls (k:Nat) (a0_0 a0_1:Int) (a0_2:ByteArray) (a0_3:Int) (r:ByteArray) (w:World) (h:rules_operand.f k a0_0 a0_1 a0_2 a0_3=some r) (hG:Gl w) :
  Calls Tryz.prog 31 #[.agg #[.int .i64 a0_0,.int .i64 a0_1,.string a0_2,.int .i64 a0_3]] w fun e w'=>e=.returned (.string r)∧Below w.heap.size w w':=by
 have HG:=sd hG;clear hG;have hu48:=Tryz.underlying48;have HB:=sd (Below.refl w.heap.size w);have H:=h;clear h;unfold rules_operand.f at H;replace H:=ifI H;rcases H with ⟨c2,H⟩|⟨c2,H⟩
 ·obtain ⟨c2b0,c2b1⟩:=eqI c2;clear c2;replace H:=bdI H;obtain ⟨t202,A3,H⟩:=H;(try dsimp only at H)
  obtain rfl:=Option.some.inj H;go_enter Tryz.func31,Tryz.ntmps31
  go_wp2_with (first|((with_reducible refine gate_dst (N:=1) rfl ?_);refine bxA 1 #[.int .i64 a0_0,.int .i64 a0_1,.string a0_2,.int .i64 a0_3] 48 ?_;intro gb201 hg w4 hbox hb;have BK201:=sd (hbox);have GW201:=gem hg HB;have GE201:=GW201;replace HB:=hbm HB hb;clear hb hbox hg;obtain ⟨_,_,_,_,_,_,_,_⟩:=bk4 BK201)|((with_reducible refine gate_callee (f:=72) rfl ?_);refine gL 13 Tryz.func72 #[.int .i64 a0_3] ?_;(with_reducible refine (num_Text.calls a0_3 t202 _ A3.out).mono ?_);rintro e w6 ⟨rfl,hb⟩;refine ⟨_,rfl,?_⟩;replace BK201:=bkm BK201 hb;replace HB:=hbm HB hb;clear hb))
  go_ret
  exact ⟨zq4,zq129⟩
 obtain ⟨c2b0,c2b1⟩:=neI c2;replace H:=ifI H;rcases H with ⟨c7,H⟩|⟨c7,H⟩
 ·obtain ⟨c7b0,c7b1⟩:=eqI c7;clear c7;replace H:=bdI H;obtain ⟨⟨t203,t204⟩,A8,H⟩:=H;(try dsimp only at H)
  obtain rfl:=Option.some.inj H;go_enter Tryz.func31,Tryz.ntmps31
  go_wp2_with (first|((with_reducible refine gate_dst (N:=1) rfl ?_);refine bxA 1 #[.int .i64 a0_0,.int .i64 a0_1,.string a0_2,.int .i64 a0_3] 48 ?_;intro gb201 hg w9 hbox hb;have BK201:=sd (hbox);have GW201:=gem hg HB;have GE201:=GW201;replace HB:=hbm HB hb;clear hb hbox hg;obtain ⟨_,_,_,_,_,_,_,_⟩:=bk4 BK201)|((with_reducible refine gate_callee (f:=73) rfl ?_);refine gL 19 Tryz.func73 #[.int .i64 a0_3] ?_;(with_reducible refine (days_Text.calls k a0_3 t203 t204 _ A8.out (gl_below HG.out (by repeat (first|(with_reducible first|exact HB.out|exact Below.refl _ _|apply below_alloc|apply pw_below_drewN|apply below_drew1|refine below_set ?_ GE201.out)|exact HB.out)))).mono ?_);rintro e w11 ⟨rfl,hb⟩;refine ⟨_,rfl,?_⟩;replace BK201:=bkm BK201 hb;replace HB:=hbm HB hb;clear hb))
  go_ret
  exact ⟨zq4,zq129⟩
 obtain ⟨c7b0,c7b1⟩:=neI c7;replace H:=bdI H;obtain ⟨⟨t205,t206⟩,A12,H⟩:=H;(try dsimp only at H)
 obtain rfl:=Option.some.inj H;go_enter Tryz.func31,Tryz.ntmps31
 go_wp2_with (first|((with_reducible refine gate_dst (N:=1) rfl ?_);refine bxA 1 #[.int .i64 a0_0,.int .i64 a0_1,.string a0_2,.int .i64 a0_3] 48 ?_;intro gb201 hg w13 hbox hb;have BK201:=sd (hbox);have GW201:=gem hg HB;have GE201:=GW201;replace HB:=hbm HB hb;clear hb hbox hg;obtain ⟨_,_,_,_,_,_,_,_⟩:=bk4 BK201)|((with_reducible refine gate_callee (f:=74) rfl ?_);refine gL 26 Tryz.func74 #[.string a0_2] ?_;(with_reducible refine (words_Quote.calls k a0_2 t205 t206 _ A12.out).mono ?_);rintro e w15 ⟨rfl,hb⟩;refine ⟨_,rfl,?_⟩;replace BK201:=bkm BK201 hb;replace HB:=hbm HB hb;clear hb))
 go_ret
 exact ⟨zq4,zq129⟩
theorem days_Of.calls (k:Nat) (a0_0 a0_1 a0_2 r1 r2:Int) (w:World) (h:days_Of.f k a0_0 a0_1 a0_2=some (r1,r2)) (hG:Gl w) :
  Calls Tryz.prog 121 #[.agg #[.int .i64 a0_0,.int .i64 a0_1,.int .i64 a0_2]] w fun e w'=>e=.returned (.tuple #[.int .i64 r1,.int .i64 r2])∧Below w.heap.size w w':=by
 have HG:=sd hG;clear hG;have hu112:=Tryz.underlying112;have HB:=sd (Below.refl w.heap.size w);have H:=h;clear h;unfold days_Of.f at H;have HC2:=sd H;clear H;go_enter Tryz.func121,Tryz.ntmps121
 go_upto_region 1 with (first|((with_reducible refine gate_dst (N:=1) rfl ?_);refine bxA 1 #[.int .i64 a0_0,.int .i64 a0_1,.int .i64 a0_2] 112 ?_;intro gb236 hg w3 hbox hb;have BK236:=sd (hbox);have GW236:=gem hg HB;have GE236:=GW236;replace HB:=hbm HB hb;clear hb hbox hg))
 repeat (go_quiet (first|((with_reducible refine gate_dst (N:=1) rfl ?_);refine bxA 1 #[.int .i64 a0_0,.int .i64 a0_1,.int .i64 a0_2] 112 ?_;intro gb236 hg w3 hbox hb;have BK236:=sd (hbox);have GW236:=gem hg HB;have GE236:=GW236;replace HB:=hbm HB hb;clear hb hbox hg));go_upto_region 1 with (first|((with_reducible refine gate_dst (N:=1) rfl ?_);refine bxA 1 #[.int .i64 a0_0,.int .i64 a0_1,.int .i64 a0_2] 112 ?_;intro gb236 hg w3 hbox hb;have BK236:=sd (hbox);have GW236:=gem hg HB;have GE236:=GW236;replace HB:=hbm HB hb;clear hb hbox hg)))
 (try simp only [Act.put,List.setIfInBounds_toArray,List.set_cons_zero,List.set_cons_succ])
 go_cut [27] (fun v27 wc=>∃ (kq:Nat) (x27_1:Bool),v27=.bool x27_1∧Aside0 (days_Of.j0 kq x27_1 a0_0 a0_1 a0_2=some (r1,r2))∧Aside0 (kq≤k)∧Aside0 (wc.heap[gb236]?=some (.cells #[.int .i64 a0_0,.int .i64 a0_1,.int .i64 a0_2] 112 (0,0)))∧Aside0 (Below w.heap.size w wc))
 case first =>
  have H:=HC2.out;clear HC2;replace H:=ifI H;rcases H with ⟨c4,H⟩|⟨c4,H⟩
  ·have c4b0:decide (a0_0 < 1900)=true:=decide_eq_true c4;clear c4;(first|rw [c4b0]|(simp only [i64_w,i32_w];rw [c4b0])|skip)
   have H':=sd H;clear H;obtain ⟨_,_,_,_,_,_⟩:=bk3 BK236;go_wp2
   repeat (go_quiet (fail);try go_wp2)
   go_meet
   case rel=>exact ⟨_,(true),zq7,H',⟨by first|omega|exact Nat.le_refl _⟩,⟨zq20⟩,⟨zq21⟩⟩
  have c4b0:decide (a0_0 < 1900)=false:=decide_eq_false c4;clear c4;(first|rw [c4b0]|(simp only [i64_w,i32_w];rw [c4b0])|skip)
  replace H:=ifI H;rcases H with ⟨c6,H⟩|⟨c6,H⟩
  ·have c6b0:decide (2199 < a0_0)=true:=decide_eq_true c6;clear c6;have H':=sd H;clear H;obtain ⟨_,_,_,_,_,_⟩:=bk3 BK236;go_wp2
   repeat (go_quiet (fail);try go_wp2)
   go_meet
   case rel=>exact ⟨_,(true),zq7,H',⟨by first|omega|exact Nat.le_refl _⟩,⟨zq20⟩,⟨zq21⟩⟩
  have c6b0:decide (2199 < a0_0)=false:=decide_eq_false c6;clear c6;replace H:=ifI H;rcases H with ⟨c8,H⟩|⟨c8,H⟩
  ·have c8b0:decide (a0_2 < 1)=true:=decide_eq_true c8;clear c8;have H':=sd H;clear H;obtain ⟨_,_,_,_,_,_⟩:=bk3 BK236;go_wp2
   repeat (go_quiet (fail);try go_wp2)
   go_meet
   case rel=>exact ⟨_,(true),zq7,H',⟨by first|omega|exact Nat.le_refl _⟩,⟨zq20⟩,⟨zq21⟩⟩
  have c8b0:decide (a0_2 < 1)=false:=decide_eq_false c8;clear c8;replace H:=bdI H;obtain ⟨t237,A10,H⟩:=H;(try dsimp only at H)
  have H':=sd H;clear H;obtain ⟨_,_,_,_,_,_⟩:=bk3 BK236;go_wp2_with (first|(go_at_call 134;(with_reducible refine (days_Length.calls a0_0 a0_1 t237 _ A10.out (gl_below HG.out zq22)).mono ?_);rintro e w' ⟨rfl,⟨nd,rfl⟩⟩;(try first|exact ⟨rfl,_,World.drewN_drewN _ _ _⟩|exact ⟨rfl,_,Eq.trans (World.drewN_drewN _ _ _) (congrArg (World.drewN _) (Nat.add_assoc _ _ _))⟩)))
  repeat (go_quiet (first|(go_at_call 134;(with_reducible refine (days_Length.calls a0_0 a0_1 t237 _ A10.out (gl_below HG.out zq22)).mono ?_);rintro e w' ⟨rfl,⟨nd,rfl⟩⟩;(try first|exact ⟨rfl,_,World.drewN_drewN _ _ _⟩|exact ⟨rfl,_,Eq.trans (World.drewN_drewN _ _ _) (congrArg (World.drewN _) (Nat.add_assoc _ _ _))⟩)));try go_wp2_with (first|(go_at_call 134;(with_reducible refine (days_Length.calls a0_0 a0_1 t237 _ A10.out (gl_below HG.out zq22)).mono ?_);rintro e w' ⟨rfl,⟨nd,rfl⟩⟩;(try first|exact ⟨rfl,_,World.drewN_drewN _ _ _⟩|exact ⟨rfl,_,Eq.trans (World.drewN_drewN _ _ _) (congrArg (World.drewN _) (Nat.add_assoc _ _ _))⟩))))
  go_meet
  case rel=>exact ⟨_,(decide (a0_2 > t237)),zq7,H',⟨by first|omega|exact Nat.le_refl _⟩,⟨zq20⟩,⟨zq21⟩⟩
 case rest =>
  clear HC2;try clear c1
  obtain ⟨kq,x27_1,rfl,HA,HJ1,BK236,HB⟩:=hcut
  cases kq with
 |zero=>exact absurd HA.out (by simp [days_Of.j0])
 |succ kj1 =>
   have H:=HA.out;clear HA;simp only [days_Of.j0] at H
   by_cases c12:x27_1=true
   ·subst c12;rw [if_pos rfl] at H;simp only [Option.some.injEq,Prod.mk.injEq] at H
    obtain ⟨rfl,rfl⟩:=H;go_wp2
    repeat (go_quiet (fail);try go_wp2)
    go_ret2
    exact ⟨zq4,zq21⟩
   replace c12:=Bool.eq_false_iff.mpr c12;subst c12;rw [if_neg Bool.false_ne_true] at H;replace H:=bdI H;obtain ⟨t238,A13,H⟩:=H;(try dsimp only at H)
   have H':=sd H;clear H;obtain ⟨_,_,_,_,_,_⟩:=bk3 BK236;go_wp2_with (first|(go_at_call 133;(with_reducible refine (days_before.calls a0_0 t238 _ A13.out).mono ?_);rintro e w' ⟨rfl,⟨nd,rfl⟩⟩;(try first|exact ⟨rfl,_,World.drewN_drewN _ _ _⟩|exact ⟨rfl,_,Eq.trans (World.drewN_drewN _ _ _) (congrArg (World.drewN _) (Nat.add_assoc _ _ _))⟩)))
   repeat (go_quiet (first|(go_at_call 133;(with_reducible refine (days_before.calls a0_0 t238 _ A13.out).mono ?_);rintro e w' ⟨rfl,⟨nd,rfl⟩⟩;(try first|exact ⟨rfl,_,World.drewN_drewN _ _ _⟩|exact ⟨rfl,_,Eq.trans (World.drewN_drewN _ _ _) (congrArg (World.drewN _) (Nat.add_assoc _ _ _))⟩)));try go_wp2_with (first|(go_at_call 133;(with_reducible refine (days_before.calls a0_0 t238 _ A13.out).mono ?_);rintro e w' ⟨rfl,⟨nd,rfl⟩⟩;(try first|exact ⟨rfl,_,World.drewN_drewN _ _ _⟩|exact ⟨rfl,_,Eq.trans (World.drewN_drewN _ _ _) (congrArg (World.drewN _) (Nat.add_assoc _ _ _))⟩))))
   go_loopg [2,4] kj1 (fun kq v2 v4 w'=>∃ (x2_2:Int) (x4_2:Int),v2=.int .i64 x2_2∧v4=.int .i64 x4_2∧Aside0 (days_Of.l0 kq x2_2 x4_2 a0_0 a0_1 a0_2=some (r1,r2))∧Aside0 (kq≤kj1)∧Aside0 (w'.heap[gb236]?=some (.cells #[.int .i64 a0_0,.int .i64 a0_1,.int .i64 a0_2] 112 (0,0)))∧Aside0 (Below w.heap.size w w'))
   case atStart=>exact ⟨(wrap64 ((wrap64 (t238+a0_2)) - 1)),(1),zq7,zq7,H',⟨Nat.le_refl _⟩,⟨zq20⟩,⟨zq21⟩⟩
   case round =>
    clear H';try clear c1
    obtain ⟨x2_2,x4_2,rfl,rfl,HA,HK2,BK236,HB⟩:=hrel
    cases gk with
   |zero=>exact absurd HA.out (by simp [days_Of.l0])
   |succ k2 =>
     have H:=HA.out;clear HA;simp only [days_Of.l0] at H
     replace H:=ifI H;rcases H with ⟨c15,H⟩|⟨c15,H⟩
     ·have c15b0:decide (x4_2 < a0_1)=true:=decide_eq_true c15;clear c15;replace H:=bdI H;obtain ⟨t239,A16,H⟩:=H;(try dsimp only at H)
      have H':=sd H;clear H;obtain ⟨_,_,_,_,_,_⟩:=bk3 BK236;go_wp2_with (first|(go_at_call 134;(with_reducible refine (days_Length.calls a0_0 x4_2 t239 _ A16.out (gl_below HG.out zq22)).mono ?_);rintro e w' ⟨rfl,⟨nd,rfl⟩⟩;(try first|exact ⟨rfl,_,World.drewN_drewN _ _ _⟩|exact ⟨rfl,_,Eq.trans (World.drewN_drewN _ _ _) (congrArg (World.drewN _) (Nat.add_assoc _ _ _))⟩)))
      repeat (go_quiet (first|(go_at_call 134;(with_reducible refine (days_Length.calls a0_0 x4_2 t239 _ A16.out (gl_below HG.out zq22)).mono ?_);rintro e w' ⟨rfl,⟨nd,rfl⟩⟩;(try first|exact ⟨rfl,_,World.drewN_drewN _ _ _⟩|exact ⟨rfl,_,Eq.trans (World.drewN_drewN _ _ _) (congrArg (World.drewN _) (Nat.add_assoc _ _ _))⟩)));try go_wp2_with (first|(go_at_call 134;(with_reducible refine (days_Length.calls a0_0 x4_2 t239 _ A16.out (gl_below HG.out zq22)).mono ?_);rintro e w' ⟨rfl,⟨nd,rfl⟩⟩;(try first|exact ⟨rfl,_,World.drewN_drewN _ _ _⟩|exact ⟨rfl,_,Eq.trans (World.drewN_drewN _ _ _) (congrArg (World.drewN _) (Nat.add_assoc _ _ _))⟩))))
      go_roundg k2
      case measure=>have:=HJ1.out;have:=HK2.out;omega
      case rel=>exact ⟨(wrap64 (x2_2+t239)),(wrap64 (x4_2+1)),zq7,zq7,H',⟨zq23⟩,⟨zq20⟩,⟨zq21⟩⟩
     have c15b0:decide (x4_2 < a0_1)=false:=decide_eq_false c15;clear c15;simp only [Option.some.injEq,Prod.mk.injEq] at H
     obtain ⟨rfl,rfl⟩:=H;obtain ⟨_,_,_,_,_,_⟩:=bk3 BK236;go_wp2
     repeat (go_quiet (fail);try go_wp2)
     go_ret2
     exact ⟨zq4,zq21⟩
theorem days_Parse.calls (k:Nat) (a0:ByteArray) (r1 r2:Int) (w:World) (h:days_Parse.f k a0=some (r1,r2)) (hG:Gl w) :
  Calls Tryz.prog 83 #[.string a0] w fun e w'=>e=.returned (.tuple #[.int .i64 r1,.int .i64 r2])∧Below w.heap.size w w':=by
 have HG:=sd hG;clear hG;generalize hP:(fun (e:Ending) (w':World)=>e=.returned (.tuple #[.int .i64 r1,.int .i64 r2])∧Below w.heap.size w w')=Post;have HP:=sd hP;clear hP;unfold days_Parse.f at h;split at h
 case isFalse=>cases h
 rename_i hs
 split at h
 case isFalse =>
  rename_i h10
  obtain ⟨rfl,rfl⟩:=Prod.mk.inj (Option.some.inj h);have h10':¬ (a0.size:Int)=10:=by omega
  go_enter Tryz.func83,Tryz.ntmps83
  go_wp2_with fail
  rw [← HP.out];exact ⟨by (try rfl),Below.refl _ _⟩
 rename_i h10
 have b4:bt a0 4=((a0[4]'(by omega)).toNat:Int):=(bt_at a0 4 (by rw [h10];decide)).symm;have b7:bt a0 7=((a0[7]'(by omega)).toNat:Int):=(bt_at a0 7 (by rw [h10];decide)).symm;rw [b4,b7] at h;clear b4 b7;have h10':(a0.size:Int)=10:=by omega
 have i4:4 < a0.size:=by omega
 have i7:7 < a0.size:=by omega
 generalize hc4:a0[4]=c4 at h;generalize hc7:a0[7]=c7 at h;split at h
 case isFalse =>
  rename_i h4
  obtain ⟨rfl,rfl⟩:=Prod.mk.inj (Option.some.inj h);have s45:((c4.toNat:Int) == 45)=false:=beq_eq_false_iff_ne.mpr h4;go_enter Tryz.func83,Tryz.ntmps83
  go_wp2_with fail
  rw [← HP.out];exact ⟨by (try rfl),Below.refl _ _⟩
 rename_i h4
 split at h
 case isFalse =>
  rename_i h7
  obtain ⟨rfl,rfl⟩:=Prod.mk.inj (Option.some.inj h);go_enter Tryz.func83,Tryz.ntmps83
  go_wp2_with fail
  rw [← HP.out];exact ⟨by (try rfl),Below.refl _ _⟩
 rename_i h7
 have H:=sd h;clear h;go_enter Tryz.func83,Tryz.ntmps83
 go_wp2_with fail
 go_region
 go_wp2_with fail
 go_loopw [29] (fun n_ wr=>∃ (i:Nat) (x y z:Int),i≤3∧n_=.int .i64 (i:Int)∧Aside0 (days_Parse.rem k a0 (3 - i) x y z=some (r1,r2))∧Aside0 (Arr3 wr w.heap.size x y z)∧Aside0 (Below w.heap.size w wr)) (fun n_ _=>(3 - (RowKit.intOf n_).toNat))
 case atStart =>
  exact ⟨0,0,0,0,by omega,rfl,H,⟨by constructor <;> go_simp⟩,⟨below_drew1 ((Below.refl _ _).alloc (Nat.le_refl _) _)⟩⟩
 case round =>
  obtain ⟨i,x,y,z,hi,rfl,HR,HA,HB⟩:=hrel;rename World=>wr
  clear H;have hA:=HA.out;obtain ⟨k0,k1,k2,f0,f1,f2⟩:=hA;have hi':i=0∨i=1∨i=2∨i=3:=by omega
  rcases hi' with rfl|rfl|rfl|rfl
  ·have h:=HR.out;rw [show 3 - 0=3 from rfl,days_Parse.rem] at h;obtain ⟨c,hc,h⟩:=Option.bind_eq_some_iff.mp h;have CN:=sd (fun W=>days_number.calls k _ c.1 c.2 W hc);have hix:=fun W=>parts_at0 W (a0.extract 0 4) (a0.extract 5 7) (a0.extract 8 10)
   clear hc;obtain ⟨c1,c2⟩:=c
   cases c2
   ·obtain ⟨rfl,rfl⟩:=Prod.mk.inj (Option.some.inj h);go_wp2_with fail
    refine (CN.out _).mono ?_;rintro e w1 ⟨rfl,hd⟩;obtain ⟨⟨n1,rfl⟩⟩:=hd;go_wp2_with fail
    rw [← HP.out];exact ⟨by (try rfl),zq27⟩
   ·have HR2:=sd (show days_Parse.rem k a0 2 c1 y z=some (r1,r2) from (if_pos rfl).symm.trans h);clear h HR;go_wp2_with fail
    refine (CN.out _).mono ?_;rintro e w1 ⟨rfl,hd⟩;obtain ⟨⟨n1,rfl⟩⟩:=hd;go_wp2_with fail
    go_roundw
    case rel=>exact ⟨1,c1,y,z,by omega,by go_num,HR2,⟨(HA.out.drawn _).s0 _⟩,⟨below_setN zq27 (Nat.le_refl _) _⟩⟩
    case measure=>simp [RowKit.intOf]
  ·have h:=HR.out;rw [show 3 - 1=2 from rfl,days_Parse.rem] at h;obtain ⟨c,hc,h⟩:=Option.bind_eq_some_iff.mp h;have CN:=sd (fun W=>days_number.calls k _ c.1 c.2 W hc);have hix:=fun W=>parts_at1 W (a0.extract 0 4) (a0.extract 5 7) (a0.extract 8 10)
   clear hc;obtain ⟨c1,c2⟩:=c
   cases c2
   ·obtain ⟨rfl,rfl⟩:=Prod.mk.inj (Option.some.inj h);go_wp2_with fail
    refine (CN.out _).mono ?_;rintro e w1 ⟨rfl,hd⟩;obtain ⟨⟨n1,rfl⟩⟩:=hd;go_wp2_with fail
    rw [← HP.out];exact ⟨by (try rfl),zq27⟩
   ·have HR2:=sd (show days_Parse.rem k a0 1 x c1 z=some (r1,r2) from (if_pos rfl).symm.trans h);clear h HR;go_wp2_with fail
    refine (CN.out _).mono ?_;rintro e w1 ⟨rfl,hd⟩;obtain ⟨⟨n1,rfl⟩⟩:=hd;go_wp2_with fail
    go_roundw
    case rel=>exact ⟨2,x,c1,z,by omega,by go_num,HR2,⟨(HA.out.drawn _).s1 _⟩,⟨below_setN zq27 (Nat.le_refl _) _⟩⟩
    case measure=>simp [RowKit.intOf]
  ·have h:=HR.out;rw [show 3 - 2=1 from rfl,days_Parse.rem] at h;obtain ⟨c,hc,h⟩:=Option.bind_eq_some_iff.mp h;have CN:=sd (fun W=>days_number.calls k _ c.1 c.2 W hc);have hix:=fun W=>parts_at2 W (a0.extract 0 4) (a0.extract 5 7) (a0.extract 8 10)
   clear hc;obtain ⟨c1,c2⟩:=c
   cases c2
   ·obtain ⟨rfl,rfl⟩:=Prod.mk.inj (Option.some.inj h);go_wp2_with fail
    refine (CN.out _).mono ?_;rintro e w1 ⟨rfl,hd⟩;obtain ⟨⟨n1,rfl⟩⟩:=hd;go_wp2_with fail
    rw [← HP.out];exact ⟨by (try rfl),zq27⟩
   ·have HR2:=sd (show days_Parse.rem k a0 0 x y c1=some (r1,r2) by rw [days_Parse.rem];rw [if_pos rfl] at h;exact h);clear h HR;go_wp2_with fail
    refine (CN.out _).mono ?_;rintro e w1 ⟨rfl,hd⟩;obtain ⟨⟨n1,rfl⟩⟩:=hd;go_wp2_with fail
    go_roundw
    case rel=>exact ⟨3,x,y,c1,by omega,by go_num,HR2,⟨(HA.out.drawn _).s2 _⟩,⟨below_setN zq27 (Nat.le_refl _) _⟩⟩
    case measure=>simp [RowKit.intOf]
  ·have h:=HR.out;rw [show 3 - 3=0 from rfl,days_Parse.rem] at h;have CO:=sd (fun W hW=>days_Of.calls k _ _ _ _ _ W h hW);clear h HR;go_wp2_with fail
   refine (CO.out _ (gl_below HG.out HB.out)).mono ?_;rintro e w1 ⟨rfl,hb⟩;have HB2:=sd (below_step HB.out hb);clear hb;go_wp2_with fail
   rw [← HP.out];exact ⟨by (try rfl),HB2.out⟩
end A

end Go.Proofs.YtkbgkekegjfkfaaGreatDoor