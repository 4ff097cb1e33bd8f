-- By pack.py, a program of this session's.
import Derived.Test.YtmlcdpfcafmmcaaDoorX2
import Derived.Test.YtmlcdpfcafmmcaaDoorX3
import Derived.Test.YtmlcdpfcafmmcaaDoorX4
set_option linter.unusedVariables false
set_option linter.unusedSimpArgs false
namespace Go.Proofs.YtmlcdpfcafmmcaaDoor.A
open Go.RowKit B WW WL WM
attribute [local go_sem] max2_int min2_int max_two min_two max_three min_three max_four min_four
set_option maxHeartbeats 8000000
set_option maxRecDepth 100000
theorem sl20 (W:World) (b m:Nat) (z:Int) (hz:z=(m:Int)) (h:m < 20) :
  (Instr.sliceAt 87 (.pointer (some ⟨b,0,none⟩)) (some (.int .i64 z)) none none).run Tryd.prog W=.ok (.slice (some ⟨b,m,none⟩) (20 - m) (20 - m)) W:=by
 subst hz;have e1:Tryd.prog.arrayLen 87=20:=by kernel_rfl
 have e2:Tryd.prog.elem 87=5:=by kernel_rfl
 rw [run_sliceAt_array_l W 87 ⟨b,0,none⟩ (by rw [e1,e2];exact Tryd.underlying87) .i64 (m:Int) (by omega) (by rw [e1];omega),e1,e2];have e3:(Go.sizeOf 5).run Tryd.prog W=.ok 1 W:=by kernel_rfl
 rw [e3];simp only [Result.andThen,slicedAt,Int.toNat_natCast,if_neg (show ¬ 20=m by omega),Nat.mul_one,add_plain']
def words_Quote.l0:Nat→ByteArray→List Int→Int→Int→Option (ByteArray×Int)
 | 0,_,_,_,_=>none
 | k+1,x0,x4,x11,x12=>if x12 < x11 then (if 0≤x12 then (if x12 < (x0.size:Int) then (if (bt x0 x12)=34 then (if x4.length < 140737488355328 then ((some (x4++[92]:List Int)).bind fun y153=>(if y153.length < 140737488355328 then (words_Quote.l0 k x0 (y153++[bt x0 x12]) x11 (wrap64 (x12+1))) else (none))) else (none)) else (if (bt x0 x12)=92 then (if x4.length < 140737488355328 then ((some (x4++[92]:List Int)).bind fun y159=>(if y159.length < 140737488355328 then (words_Quote.l0 k x0 (y159++[bt x0 x12]) x11 (wrap64 (x12+1))) else (none))) else (none)) else (if x4.length < 140737488355328 then (words_Quote.l0 k x0 (x4++[bt x0 x12]) x11 (wrap64 (x12+1))) else (none)))) else (none)) else (none)) else (if x4.length < 140737488355328 then (some (strOfNums (x4++[34]),0)) else (none))
def words_Quote.f (k:Nat) (a0:ByteArray):Option (ByteArray×Int):=(words_Plain.f a0).bind fun t149=>(if t149=true then (words_Quote.l0 k a0 (([34]:List Int)) (a0.size:Int) 0) else (some ((⟨#[]⟩:ByteArray),5)))
theorem words_Quote.calls (k:Nat) (a0 r1:ByteArray) (r2:Int) (w:World) (h:words_Quote.f k a0=some (r1,r2)) :
  Calls Tryd.prog 35 #[.string a0] w fun e w'=>e=.returned (.tuple #[.string r1,.int .i64 r2])∧Below w.heap.size w w':=by
 have HB:=sd (Below.refl w.heap.size w);have H:=h;clear h;unfold words_Quote.f at H;replace H:=bdI H;obtain ⟨t149,A2,H⟩:=H;(try dsimp only at H)
 by_cases c3:t149=true
 ·subst c3;rw [if_pos rfl] at H;obtain ⟨y150,hy150⟩:∃ y_:List Int,y_=(([34]:List Int)):=⟨_,rfl⟩
  replace H:(words_Quote.l0 k a0 y150 (a0.size:Int) 0)=some (r1,r2):=by first | (rw [hy150];with_reducible exact H) | (have H2_:=(Option.bind_some _ _).symm.trans H;rw [hy150];with_reducible exact H2_) | (have H2_:=(Option.bind_some _ _).symm.trans H;with_reducible exact H2_) | with_reducible exact H | (rw [hy150];exact H) | exact H
  have Ny150:=sd hy150;clear hy150;have H':=sd H;clear H;go_enter Tryd.func35,Tryd.ntmps35
  go_wp2_with (first | ((with_reducible refine gate_callee (f:=55) rfl ?_);refine gL 7 Tryd.func55 #[.string a0] ?_;(with_reducible refine (words_Plain.calls a0 true _ A2.out).mono ?_);rintro e w' ⟨rfl,⟨nd,rfl⟩⟩;refine ⟨_,rfl,?_⟩) | ((with_reducible refine gate_dst (N:=9) rfl ?_);refine Kd.R_lit (Kd.int .u8) _ 5 ?hg (N:=9) ?hd (xs:=([34]:List Int)) (inner:=[.int .u8 34]) (ok:=fun _=>True) (okp:=fun _=>True) ?hr ?hp (fun _ hk=>hk) trivial (Below.refl _ _) (Nat.le_refl _) (by simp) ?_;(case hd=>rfl);(case hg=>rfl);(case hr=>first | (go_simp;done) | (go_simp;rfl));(case hp=>exact (Reps.one (show Kd.M (Kd.int .u8) _ _ _ 34 [.int .u8 34] from rfl) (Reps.none _ _)));intro v151 w4 ho5 hb hg_ hnew_;clear hg_ hnew_;(first | rw [← Ny150.out] at ho5 | (simp only [Int.reduceToNat] at ho5;rw [← Ny150.out] at ho5));have HO152:=sd (Kd.R_lower ho5 (below_size zq7));replace HB:=hbm HB hb;clear hb ho5))
  go_loopg [4,12] k (fun kq v4 v12 w'=>∃ (x4_1:List Int) (x12_1:Int),v12=.int .i64 x12_1∧Aside0 (words_Quote.l0 kq a0 x4_1 (a0.size:Int) x12_1=some (r1,r2))∧Aside0 (kq≤k)∧Aside0 (Kd.R (Kd.int .u8) 5 w' w.heap.size (fun _=>True) v4 x4_1)∧Aside0 (Below w.heap.size w w'))
  case atStart=>exact ⟨(y150),(0),zq1,H',⟨Nat.le_refl _⟩,⟨by (with_reducible repeat (first | apply Kd.R_alloc | apply Kd.R_drewN | apply Kd.R_drew));exact HO152.out⟩,⟨zq7⟩⟩
  case round =>
   clear H';try clear p2
   try clear c3
   try clear c5
   obtain ⟨x4_1,x12_1,rfl,HA,HK1,HO_4,HB⟩:=hrel
   cases gk with
   | zero=>exact absurd HA.out (by simp [words_Quote.l0])
   | succ k1 =>
    have H:=HA.out;clear HA;simp only [words_Quote.l0] at H
    replace H:=ifI H;rcases H with ⟨c6,H⟩ | ⟨c6,H⟩
    ·have c6b0:decide (x12_1 < (a0.size:Int))=true:=decide_eq_true c6;clear c6;replace H:=ifI H;rcases H with ⟨c7,H⟩ | ⟨c7,H⟩
     ·have c7b0:decide (0≤x12_1)=true:=decide_eq_true c7;clear c7;replace H:=ifI H;rcases H with ⟨c8,H⟩ | ⟨c8,H⟩
      ·have c8b0:decide (x12_1 < (a0.size:Int))=true:=decide_eq_true c8;clear c8;replace H:=ifI H;rcases H with ⟨c10,H⟩ | ⟨c10,H⟩
       ·obtain ⟨c10b0,c10b1⟩:=eqI c10;clear c10;replace H:=ifI H;rcases H with ⟨c11,H⟩ | ⟨c11,H⟩
        ·have LMc11:=sd c11;clear c11;obtain ⟨y153,hy153⟩:∃ y_:List Int,y_=(x4_1++[92]):=⟨_,rfl⟩
         replace H:(if y153.length < 140737488355328 then (words_Quote.l0 k1 a0 (y153++[bt a0 x12_1]) (a0.size:Int) (wrap64 (x12_1+1))) else (none))=some (r1,r2):=by first | (rw [hy153];with_reducible exact H) | (have H2_:=(Option.bind_some _ _).symm.trans H;rw [hy153];with_reducible exact H2_) | (have H2_:=(Option.bind_some _ _).symm.trans H;with_reducible exact H2_) | with_reducible exact H | (rw [hy153];exact H) | exact H
         have Ny153:=sd hy153;clear hy153;replace H:=ifI H;rcases H with ⟨c13,H⟩ | ⟨c13,H⟩
         ·have LMc13:=sd c13;clear c13;obtain ⟨y156,hy156⟩:∃ y_:List Int,y_=(y153++[bt a0 x12_1]):=⟨_,rfl⟩
          replace H:(words_Quote.l0 k1 a0 y156 (a0.size:Int) (wrap64 (x12_1+1)))=some (r1,r2):=by first | (rw [hy156];with_reducible exact H) | (have H2_:=(Option.bind_some _ _).symm.trans H;rw [hy156];with_reducible exact H2_) | (have H2_:=(Option.bind_some _ _).symm.trans H;with_reducible exact H2_) | with_reducible exact H | (rw [hy156];exact H) | exact H
          have Ny156:=sd hy156;clear hy156;have H':=sd H;clear H;have p9:0≤(x12_1:Int):=od;have q9:x12_1 < (a0.size:Int):=od;have hx9:=bt_at a0 x12_1;replace p9:=eq_true p9;replace q9:=eq_true q9;go_wp2_with (first | ((with_reducible refine gate_builtin (b:=.append) (xs:=#[.tmp 25,.tmp 26]) rfl ?_);at_builtin;refine Kd.R_append (Kd.int .u8) (w0:=w) w.heap.size rfl (.tmp 25) (.tmp 26) 86 5 (.int .u8 0) 1 rfl Tryd.underlying86 info5 rfl (by decide) (by omega) u4 x4_1 92 [.int .u8 92] (fun _=>True) (fun _=>False) rfl rfl ?aP (fun _ hk=>hk.elim) ?aF ?aO ?aB ?aS ?aL ?_;(case aP=>exact rfl);(case aB=>exact zq7);(case aF=>exact (fun _ _=>trivial));(case aO=>exact zq34);(case aS=>exact (below_size zq7));(case aL=>have:=LMc11.out;omega);intro v154 w14 ho hb hg hat;rw [← Ny153.out] at ho;have HO155:=sd (ho);replace HB:=sd (hb);clear HO_4;clear ho hb hg hat;have p12:0≤(x12_1:Int):=od;have q12:x12_1 < (a0.size:Int):=od;have hx12:=bt_at a0 x12_1;replace p12:=eq_true p12;replace q12:=eq_true q12) | ((with_reducible refine gate_builtin (b:=.append) (xs:=#[.tmp 28,.tmp 32]) rfl ?_);at_builtin;refine Kd.R_append (Kd.int .u8) (w0:=w) w.heap.size rfl (.tmp 28) (.tmp 32) 86 5 (.int .u8 0) 1 rfl Tryd.underlying86 info5 rfl (by decide) (by omega) v154 y153 (bt a0 x12_1) [.int .u8 (bt a0 x12_1)] (fun _=>True) (fun _=>False) rfl rfl ?aP (fun _ hk=>hk.elim) ?aF ?aO ?aB ?aS ?aL ?_;(case aP=>exact rfl);(case aB=>exact zq7);(case aF=>exact (fun _ _=>trivial));(case aO=>exact (by (with_reducible repeat (first | apply Kd.R_alloc | apply Kd.R_drewN | apply Kd.R_drew));exact HO155.out));(case aS=>exact (below_size zq7));(case aL=>have:=LMc13.out;omega);intro v157 w15 ho hb hg hat;rw [← Ny156.out] at ho;have HO158:=sd (ho);replace HB:=sd (hb);clear HO155;clear ho hb hg hat))
          go_roundg k1
          case measure=>have:=HK1.out;omega
          case rel=>exact ⟨(y156),(wrap64 (x12_1+1)),zq1,H',⟨by have:=HK1.out;omega⟩,⟨by (with_reducible repeat (first | apply Kd.R_alloc | apply Kd.R_drewN | apply Kd.R_drew));exact HO158.out⟩,⟨zq7⟩⟩
         exact absurd H (by simp)
        exact absurd H (by simp)
       obtain ⟨c10b0,c10b1⟩:=neI c10;replace H:=ifI H;rcases H with ⟨c17,H⟩ | ⟨c17,H⟩
       ·obtain ⟨c17b0,c17b1⟩:=eqI c17;clear c17;replace H:=ifI H;rcases H with ⟨c18,H⟩ | ⟨c18,H⟩
        ·have LMc18:=sd c18;clear c18;obtain ⟨y159,hy159⟩:∃ y_:List Int,y_=(x4_1++[92]):=⟨_,rfl⟩
         replace H:(if y159.length < 140737488355328 then (words_Quote.l0 k1 a0 (y159++[bt a0 x12_1]) (a0.size:Int) (wrap64 (x12_1+1))) else (none))=some (r1,r2):=by first | (rw [hy159];with_reducible exact H) | (have H2_:=(Option.bind_some _ _).symm.trans H;rw [hy159];with_reducible exact H2_) | (have H2_:=(Option.bind_some _ _).symm.trans H;with_reducible exact H2_) | with_reducible exact H | (rw [hy159];exact H) | exact H
         have Ny159:=sd hy159;clear hy159;replace H:=ifI H;rcases H with ⟨c20,H⟩ | ⟨c20,H⟩
         ·have LMc20:=sd c20;clear c20;obtain ⟨y162,hy162⟩:∃ y_:List Int,y_=(y159++[bt a0 x12_1]):=⟨_,rfl⟩
          replace H:(words_Quote.l0 k1 a0 y162 (a0.size:Int) (wrap64 (x12_1+1)))=some (r1,r2):=by first | (rw [hy162];with_reducible exact H) | (have H2_:=(Option.bind_some _ _).symm.trans H;rw [hy162];with_reducible exact H2_) | (have H2_:=(Option.bind_some _ _).symm.trans H;with_reducible exact H2_) | with_reducible exact H | (rw [hy162];exact H) | exact H
          have Ny162:=sd hy162;clear hy162;have H':=sd H;clear H;have p9:0≤(x12_1:Int):=od;have q9:x12_1 < (a0.size:Int):=od;have hx9:=bt_at a0 x12_1;replace p9:=eq_true p9;replace q9:=eq_true q9;have p16:0≤(x12_1:Int):=od;have q16:x12_1 < (a0.size:Int):=od;have hx16:=bt_at a0 x12_1;replace p16:=eq_true p16;replace q16:=eq_true q16;go_wp2_with (first | ((with_reducible refine gate_builtin (b:=.append) (xs:=#[.tmp 25,.tmp 26]) rfl ?_);at_builtin;refine Kd.R_append (Kd.int .u8) (w0:=w) w.heap.size rfl (.tmp 25) (.tmp 26) 86 5 (.int .u8 0) 1 rfl Tryd.underlying86 info5 rfl (by decide) (by omega) u4 x4_1 92 [.int .u8 92] (fun _=>True) (fun _=>False) rfl rfl ?aP (fun _ hk=>hk.elim) ?aF ?aO ?aB ?aS ?aL ?_;(case aP=>exact rfl);(case aB=>exact zq7);(case aF=>exact (fun _ _=>trivial));(case aO=>exact zq34);(case aS=>exact (below_size zq7));(case aL=>have:=LMc18.out;omega);intro v160 w21 ho hb hg hat;rw [← Ny159.out] at ho;have HO161:=sd (ho);replace HB:=sd (hb);clear HO_4;clear ho hb hg hat;have p19:0≤(x12_1:Int):=od;have q19:x12_1 < (a0.size:Int):=od;have hx19:=bt_at a0 x12_1;replace p19:=eq_true p19;replace q19:=eq_true q19) | ((with_reducible refine gate_builtin (b:=.append) (xs:=#[.tmp 28,.tmp 32]) rfl ?_);at_builtin;refine Kd.R_append (Kd.int .u8) (w0:=w) w.heap.size rfl (.tmp 28) (.tmp 32) 86 5 (.int .u8 0) 1 rfl Tryd.underlying86 info5 rfl (by decide) (by omega) v160 y159 (bt a0 x12_1) [.int .u8 (bt a0 x12_1)] (fun _=>True) (fun _=>False) rfl rfl ?aP (fun _ hk=>hk.elim) ?aF ?aO ?aB ?aS ?aL ?_;(case aP=>exact rfl);(case aB=>exact zq7);(case aF=>exact (fun _ _=>trivial));(case aO=>exact (by (with_reducible repeat (first | apply Kd.R_alloc | apply Kd.R_drewN | apply Kd.R_drew));exact HO161.out));(case aS=>exact (below_size zq7));(case aL=>have:=LMc20.out;omega);intro v163 w22 ho hb hg hat;rw [← Ny162.out] at ho;have HO164:=sd (ho);replace HB:=sd (hb);clear HO161;clear ho hb hg hat))
          go_roundg k1
          case measure=>have:=HK1.out;omega
          case rel=>exact ⟨(y162),(wrap64 (x12_1+1)),zq1,H',⟨by have:=HK1.out;omega⟩,⟨by (with_reducible repeat (first | apply Kd.R_alloc | apply Kd.R_drewN | apply Kd.R_drew));exact HO164.out⟩,⟨zq7⟩⟩
         exact absurd H (by simp)
        exact absurd H (by simp)
       obtain ⟨c17b0,c17b1⟩:=neI c17;replace H:=ifI H;rcases H with ⟨c24,H⟩ | ⟨c24,H⟩
       ·have LMc24:=sd c24;clear c24;obtain ⟨y165,hy165⟩:∃ y_:List Int,y_=(x4_1++[bt a0 x12_1]):=⟨_,rfl⟩
        replace H:(words_Quote.l0 k1 a0 y165 (a0.size:Int) (wrap64 (x12_1+1)))=some (r1,r2):=by first | (rw [hy165];with_reducible exact H) | (have H2_:=(Option.bind_some _ _).symm.trans H;rw [hy165];with_reducible exact H2_) | (have H2_:=(Option.bind_some _ _).symm.trans H;with_reducible exact H2_) | with_reducible exact H | (rw [hy165];exact H) | exact H
        have Ny165:=sd hy165;clear hy165;have H':=sd H;clear H;have p9:0≤(x12_1:Int):=od;have q9:x12_1 < (a0.size:Int):=od;have hx9:=bt_at a0 x12_1;replace p9:=eq_true p9;replace q9:=eq_true q9;have p16:0≤(x12_1:Int):=od;have q16:x12_1 < (a0.size:Int):=od;have hx16:=bt_at a0 x12_1;replace p16:=eq_true p16;replace q16:=eq_true q16;have p23:0≤(x12_1:Int):=od;have q23:x12_1 < (a0.size:Int):=od;have hx23:=bt_at a0 x12_1;replace p23:=eq_true p23;replace q23:=eq_true q23;go_wp2_with (first | ((with_reducible refine gate_builtin (b:=.append) (xs:=#[.tmp 28,.tmp 32]) rfl ?_);at_builtin;refine Kd.R_append (Kd.int .u8) (w0:=w) w.heap.size rfl (.tmp 28) (.tmp 32) 86 5 (.int .u8 0) 1 rfl Tryd.underlying86 info5 rfl (by decide) (by omega) u4 x4_1 (bt a0 x12_1) [.int .u8 (bt a0 x12_1)] (fun _=>True) (fun _=>False) rfl rfl ?aP (fun _ hk=>hk.elim) ?aF ?aO ?aB ?aS ?aL ?_;(case aP=>exact rfl);(case aB=>exact zq7);(case aF=>exact (fun _ _=>trivial));(case aO=>exact zq34);(case aS=>exact (below_size zq7));(case aL=>have:=LMc24.out;omega);intro v166 w25 ho hb hg hat;rw [← Ny165.out] at ho;have HO167:=sd (ho);replace HB:=sd (hb);clear HO_4;clear ho hb hg hat))
        go_roundg k1
        case measure=>have:=HK1.out;omega
        case rel=>exact ⟨(y165),(wrap64 (x12_1+1)),zq1,H',⟨by have:=HK1.out;omega⟩,⟨by (with_reducible repeat (first | apply Kd.R_alloc | apply Kd.R_drewN | apply Kd.R_drew));exact HO167.out⟩,⟨zq7⟩⟩
       exact absurd H (by simp)
      exact absurd H (by simp)
     exact absurd H (by simp)
    have c6b0:decide (x12_1 < (a0.size:Int))=false:=decide_eq_false c6;clear c6;replace H:=ifI H;rcases H with ⟨c26,H⟩ | ⟨c26,H⟩
    ·have LMc26:=sd c26;clear c26;obtain ⟨y168,hy168⟩:∃ y_:List Int,y_=(x4_1++[34]):=⟨_,rfl⟩
     replace H:(some (strOfNums y168,0))=some (r1,r2):=by first | (rw [hy168];with_reducible exact H) | (have H2_:=(Option.bind_some _ _).symm.trans H;rw [hy168];with_reducible exact H2_) | (have H2_:=(Option.bind_some _ _).symm.trans H;with_reducible exact H2_) | with_reducible exact H | (rw [hy168];exact H) | exact H
     have Ny168:=sd hy168;clear hy168;simp only [Option.some.injEq,Prod.mk.injEq] at H
     obtain ⟨rfl,rfl⟩:=H;go_wp2_with (first | ((with_reducible refine gate_builtin (b:=.append) (xs:=#[.tmp 35,.tmp 36]) rfl ?_);at_builtin;refine Kd.R_append (Kd.int .u8) (w0:=w) w.heap.size rfl (.tmp 35) (.tmp 36) 86 5 (.int .u8 0) 1 rfl Tryd.underlying86 info5 rfl (by decide) (by omega) u4 x4_1 34 [.int .u8 34] (fun _=>True) (fun _=>False) rfl rfl ?aP (fun _ hk=>hk.elim) ?aF ?aO ?aB ?aS ?aL ?_;(case aP=>exact rfl);(case aB=>exact zq7);(case aF=>exact (fun _ _=>trivial));(case aO=>exact zq34);(case aS=>exact (below_size zq7));(case aL=>have:=LMc26.out;omega);intro v169 w27 ho hb hg hat;rw [← Ny168.out] at ho;have HO170:=sd (ho);replace HB:=sd (hb);clear HO_4;clear ho hb hg hat;have hcv28:=own_string (P:=Tryd.prog) Tryd.underlying86 Tryd.underlying5 Tryd.underlying9 (Kd.own_of_R HO170.out)))
     go_ret2
     exact ⟨zq10,zq7⟩
    exact absurd H (by simp)
 replace c3:=Bool.eq_false_iff.mpr c3;subst c3;rw [if_neg Bool.false_ne_true] at H;simp only [Option.some.injEq,Prod.mk.injEq] at H
 obtain ⟨rfl,rfl⟩:=H;go_enter Tryd.func35,Tryd.ntmps35
 go_wp2_with (first | ((with_reducible refine gate_callee (f:=55) rfl ?_);refine gL 7 Tryd.func55 #[.string a0] ?_;(with_reducible refine (words_Plain.calls a0 false _ A2.out).mono ?_);rintro e w' ⟨rfl,⟨nd,rfl⟩⟩;refine ⟨_,rfl,?_⟩))
 go_ret2
 exact ⟨zq10,zq7⟩
theorem text2_calls (k:Nat) (s q:ByteArray) (x:Int) (w:World) (h:words_Quote.f k s=some (q,x)) :
  Calls Tryd.prog 34 #[.string s] w fun e w'=>e=.returned (.string q)∧Below w.heap.size w w':=by
 have HT:=sd (words_Quote.calls k s q x w h);clear h;go_enter Tryd.func34,Tryd.ntmps34
 go_wp2_with fail
 refine HT.out.mono ?_;rintro e w1 ⟨rfl,hb⟩;clear HT;go_wp2_with fail
 go_ret
 exact ⟨by (try rfl),hb⟩
def days_number.l0:Nat→ByteArray→Int→Int→Int→Option (Int×Bool)
 | 0,_,_,_,_=>none
 | k+1,x0,x2,x6,x7=>if x7 < x6 then (if 0≤x7 then (if x7 < (x0.size:Int) then (if (bt x0 x7) < 48 then (some (0,false)) else (if (bt x0 x7) > 57 then (some (0,false)) else (days_number.l0 k x0 (wrap64 ((wrap64 (10 * x2))+(((bt x0 x7) - 48) % 256))) x6 (wrap64 (x7+1))))) else (none)) else (none)) else (some (x2,true))
def days_number.f (k:Nat) (a0:ByteArray):Option (Int×Bool):=days_number.l0 k a0 0 (a0.size:Int) 0
theorem days_number.calls (k:Nat) (a0:ByteArray) (r1:Int) (r2:Bool) (w:World) (h:days_number.f k a0=some (r1,r2)) :
  Calls Tryd.prog 106 #[.string a0] w fun e w'=>e=.returned (.tuple #[.int .i64 r1,.bool r2])∧Drawn0 w w':=by
 have H:=h;clear h;unfold days_number.f at H;have H':=sd H;clear H;go_enter Tryd.func106,Tryd.ntmps106
 go_wp2
 go_loopg [2,7] k (fun kq v2 v7 w'=>∃ (x2_1:Int) (x7_1:Int),v2=.int .i64 x2_1∧v7=.int .i64 x7_1∧Aside0 (days_number.l0 kq a0 x2_1 (a0.size:Int) x7_1=some (r1,r2))∧Aside0 (kq≤k)∧Drawn0 w w')
 case atStart=>exact ⟨(0),(0),zq1,zq1,H',⟨Nat.le_refl _⟩,zq2⟩
 case round =>
  clear H';try clear c1
  obtain ⟨x2_1,x7_1,rfl,rfl,HA,HK1,⟨m1,rfl⟩⟩:=hrel
  cases gk with
  | zero=>exact absurd HA.out (by simp [days_number.l0])
  | succ k1 =>
   have H:=HA.out;clear HA;simp only [days_number.l0] at H
   replace H:=ifI H;rcases H with ⟨c2,H⟩ | ⟨c2,H⟩
   ·have c2b0:decide (x7_1 < (a0.size:Int))=true:=decide_eq_true c2;clear c2;replace H:=ifI H;rcases H with ⟨c3,H⟩ | ⟨c3,H⟩
    ·have c3b0:decide (0≤x7_1)=true:=decide_eq_true c3;clear c3;replace H:=ifI H;rcases H with ⟨c4,H⟩ | ⟨c4,H⟩
     ·have c4b0:decide (x7_1 < (a0.size:Int))=true:=decide_eq_true c4;clear c4;replace H:=ifI H;rcases H with ⟨c6,H⟩ | ⟨c6,H⟩
      ·have c6b0:decide ((bt a0 x7_1) < 48)=true:=decide_eq_true c6;clear c6;simp only [Option.some.injEq,Prod.mk.injEq] at H
       obtain ⟨rfl,rfl⟩:=H;have p5:0≤(x7_1:Int):=od;have q5:x7_1 < (a0.size:Int):=od;have hx5:=bt_at a0 x7_1;replace p5:=eq_true p5;replace q5:=eq_true q5;go_wp2
       go_ret2
       exact ⟨zq1,zq2⟩
      have c6b0:decide ((bt a0 x7_1) < 48)=false:=decide_eq_false c6;clear c6;replace H:=ifI H;rcases H with ⟨c8,H⟩ | ⟨c8,H⟩
      ·have c8b0:decide (57 < (bt a0 x7_1))=true:=decide_eq_true c8;clear c8;simp only [Option.some.injEq,Prod.mk.injEq] at H
       obtain ⟨rfl,rfl⟩:=H;have p5:0≤(x7_1:Int):=od;have q5:x7_1 < (a0.size:Int):=od;have hx5:=bt_at a0 x7_1;replace p5:=eq_true p5;replace q5:=eq_true q5;have p7:0≤(x7_1:Int):=od;have q7:x7_1 < (a0.size:Int):=od;have hx7:=bt_at a0 x7_1;replace p7:=eq_true p7;replace q7:=eq_true q7;go_wp2
       go_ret2
       exact ⟨zq1,zq2⟩
      have c8b0:decide (57 < (bt a0 x7_1))=false:=decide_eq_false c8;clear c8;have H':=sd H;clear H;have p5:0≤(x7_1:Int):=od;have q5:x7_1 < (a0.size:Int):=od;have hx5:=bt_at a0 x7_1;replace p5:=eq_true p5;replace q5:=eq_true q5;have p7:0≤(x7_1:Int):=od;have q7:x7_1 < (a0.size:Int):=od;have hx7:=bt_at a0 x7_1;replace p7:=eq_true p7;replace q7:=eq_true q7;have p9:0≤(x7_1:Int):=od;have q9:x7_1 < (a0.size:Int):=od;have hx9:=bt_at a0 x7_1;replace p9:=eq_true p9;replace q9:=eq_true q9;go_wp2
      go_roundg k1
      case measure=>have:=HK1.out;omega
      case rel=>exact ⟨(wrap64 ((wrap64 (10 * x2_1))+(((bt a0 x7_1) - 48) % 256))),(wrap64 (x7_1+1)),zq1,zq1,H',⟨by have:=HK1.out;omega⟩,zq2⟩
     exact absurd H (by simp)
    exact absurd H (by simp)
   have c2b0:decide (x7_1 < (a0.size:Int))=false:=decide_eq_false c2;clear c2;simp only [Option.some.injEq,Prod.mk.injEq] at H
   obtain ⟨rfl,rfl⟩:=H;go_wp2
   go_ret2
   exact ⟨zq1,zq2⟩
structure Arr3 (W:World) (g:Nat) (x y z:Int):Prop where
 k0:W.cell? ⟨g,0,none⟩=some (.int .i64 x)
 k1:W.cell? ⟨g,1,none⟩=some (.int .i64 y)
 k2:W.cell? ⟨g,2,none⟩=some (.int .i64 z)
 f0:W.frozen? ⟨g,0,none⟩=false
 f1:W.frozen? ⟨g,1,none⟩=false
 f2:W.frozen? ⟨g,2,none⟩=false
theorem Arr3.s0 {W:World} {g:Nat} {x y z:Int} (h:Arr3 W g x y z) (v:Int):Arr3 (W.setCell ⟨g,0,none⟩ (.int .i64 v)) g v y z :=
 ⟨has_same ⟨_,h.k0⟩,has_other (by simp) h.k1,has_other (by simp) h.k2,zq14,zq15,zq16⟩
theorem Arr3.s1 {W:World} {g:Nat} {x y z:Int} (h:Arr3 W g x y z) (v:Int):Arr3 (W.setCell ⟨g,1,none⟩ (.int .i64 v)) g x v z :=
 ⟨has_other (by simp) h.k0,has_same ⟨_,h.k1⟩,has_other (by simp) h.k2,zq14,zq15,zq16⟩
theorem Arr3.s2 {W:World} {g:Nat} {x y z:Int} (h:Arr3 W g x y z) (v:Int):Arr3 (W.setCell ⟨g,2,none⟩ (.int .i64 v)) g x y v :=
 ⟨has_other (by simp) h.k0,has_other (by simp) h.k1,has_same ⟨_,h.k2⟩,zq14,zq15,zq16⟩
def livesX:ByteArray:=⟨#[115,116,97,116,101,109,101,110,116,32,49,48,32,69,85,82,32,55,10,111,112,101,110,32,49,46,48,48,10,108,105,110,101,32,50,48,50,53,45,49,50,45,49,49,32,45,49,46,53,48,32,34,114,49,34,32,34,97,32,92,34,98,92,34,34,10,99,108,111,115,101,32,45,48,46,53,48,10]⟩
def livesT:List S77:=[⟨⟨#[69,85,82]⟩,2⟩,⟨⟨#[74,80,89]⟩,0⟩]
end Go.Proofs.YtmlcdpfcafmmcaaDoor.A
namespace Go.Proofs.YtmlcdpfcafmmcaaDoor.WW
open Go.RowKit
theorem KeepBut.own {w w1:World} {g:Nat} {row:Option Nat} {base:Nat} {e:TypeId} {size n:Nat} {v:Value} {xs:List Value} (h:KeepBut w w1 g row) (ho:w.ownsRow base e size v n xs) (hg:v.ownBlock≠some g) (hr:v.ownBlock=none∨v.ownBlock≠row):w1.ownsRow base e size v n xs:=by
  obtain ⟨h1,h2⟩:=ho;refine ⟨h1,?_⟩;rcases h2 with h2 | ⟨b,cap,cur,rfl,hb,hh,r⟩
  · exact .inl h2
  · refine .inr ⟨b,cap,cur,rfl,hb,h.blk hh ?_ ?_,r⟩
    · intro e
      exact hg (by rw [← e];rfl)
    · rcases hr with hr | hr
      · simp [Value.ownBlock] at hr
      · exact hr
end Go.Proofs.YtmlcdpfcafmmcaaDoor.WW
namespace Go.Proofs.YtmlcdpfcafmmcaaDoor.WW
open Go.RowKit
section
variable {α:Type} {R R':α→List Value→Prop} {e:TypeId} {size:Nat} {w w1:World} {base:Nat} {v:Value} {ps:List α}
theorem OwnRow.keep (h:OwnRow R e size w base v ps) {g:Nat} {t:TypeId} {cells:Array Value} (hb:w.heap[g]?=some (.cells cells t (0,0))) (ht:e≠t) (hk:KeepBut w w1 g none):OwnRow R e size w1 base v ps:=by
  obtain ⟨inner,ho,hr⟩:=h;exact ⟨inner,hk.own ho (Ne.symm (own_ne ho hb ht)) (by cases v.ownBlock <;> simp),hr⟩
end
end Go.Proofs.YtmlcdpfcafmmcaaDoor.WW
namespace Go.Proofs.YtmlcdpfcafmmcaaDoor.WW
open Go.RowKit
theorem ReadsInt.keep {w W:World} {k:IntKind} {A:Option Addr} {n g:Nat} {xs:List Int} (h:ReadsInt w k A n xs) (hk:KeepBut w W g none) (hf:∀ ad,A=some ad→0 < n→ad.block≠g):ReadsInt W k A n xs :=
  ⟨h.1,h.2.1,fun hn=>by
    obtain ⟨ad,e,hc⟩:=h.2.2 hn;exact ⟨ad,e,fun j hj=>keep_cell hk (hc j hj) (by rw [add_block];exact hf ad e hn)⟩⟩
theorem ReadsOf.keep {α:Type} {enc:α→Value} {d:α} {w W:World} {A:Option Addr} {n g:Nat} {xs:List α} (h:ReadsOf enc d w A n xs) (hk:KeepBut w W g none) (hf:∀ ad,A=some ad→0 < n→ad.block≠g):ReadsOf enc d W A n xs :=
  ⟨h.1,h.2.1,fun hn=>by
    obtain ⟨ad,e,hc⟩:=h.2.2 hn;exact ⟨ad,e,fun j hj=>keep_cell hk (hc j hj) (by rw [add_block];exact hf ad e hn)⟩⟩
end Go.Proofs.YtmlcdpfcafmmcaaDoor.WW
namespace Go.Proofs.YtmlcdpfcafmmcaaDoor.B
open Go.RowKit WW WL WM
section
variable {P:Program} {md:Region.Mode} {ops:Array Oper} {Q:Exit→Act→World→Prop} {S:World→Prop} {ds:List Nat} {T:Bool×List (List Nat×List Nat)} {BB:List Nat} {oi:Oper} {v:Value} {fuel:Nat} {l l':Array Bool} {a a':Act} {w:World}
theorem pB (i N:Nat) (h:wpAnyLast P md ops Q S ds fuel l' a' w)
    (hi:ops[i]?=some oi:=by rfl) (hN:oi.dst=some N:=by rfl) (hl:l.setIfInBounds i true=l':=by (simp only [List.setIfInBounds_toArray,List.set_cons_zero,List.set_cons_succ];rfl))
    (hc:anyB md ops l l' i=true:=by kernel_rfl) (hQ:∀ c a w,Q (.panic c) (a.put oi.dst v) w→Q (.panic c) a w:=by exact (fun _ _ _ h=>h)) (hg:Region.wanted oi (yielded ops a.tmps)=true:=by rfl)
    (hy:∀ w,(execOp a.eval oi).run P w=.ok (.value v) w:=by (intro w';go_simp;with_reducible rfl))
    (ha:a.put (some N) v=a':=by (simp only [Act.put,List.setIfInBounds_toArray,List.set_cons_zero,List.set_cons_succ,i64_w,i32_w];rfl)):wpAnyLast P md ops Q S ds (fuel+1) l a w :=
  pure_ l' hi hN hc hQ (.inl ⟨hg,hy⟩) ha h
end
end Go.Proofs.YtmlcdpfcafmmcaaDoor.B
namespace Go.Proofs.YtmlcdpfcafmmcaaDoor.WW
open Go.RowKit
section
variable {w W W2:World} {S S2 S':Nat→Prop}
theorem Kept.keep {g:Nat} (h:KeepBut w W g none) (k:Kept W W2 S2) (hs:∀ k,S2 k→w.heap.size≤k):KeepBut w W2 g none :=
  ⟨Nat.le_trans h.1 k.1,fun i hi hg hr=>(k.2 i (Nat.lt_of_lt_of_le hi h.1) (fun h2=>by have:=hs i h2;omega)).trans (h.2 i hi hg hr)⟩
end
end Go.Proofs.YtmlcdpfcafmmcaaDoor.WW
namespace Go.Proofs.YtmlcdpfcafmmcaaDoor.B
open Go.Lib Go.RowKit WW
theorem trow_digits (u m k:Nat) (hmk:m+k=19) (h1:u / 10 ^ (k+1)=0) (h2:k=0∨u / 10 ^ k≠0) :
    (decDigits u).length=20 - m∧∀ i,i < (decDigits u).length→(trow u m)[m+i]?=some (.int .u8 (((decDigits u).getD i 0).toNat:Int)):=by
  have hn:=nDigits_of u k h1 h2;have hl:(decDigits u).length=20 - m:=by rw [decDigits_length,hn];omega
  refine ⟨hl,fun i hi=>?_⟩;rw [trow_at u m (m+i) (by omega),if_pos (by omega)]
  have:(decDigits u).getD i 0=dg u (19 - (m+i)):=by
    rw [decDigits_eq,List.getD_eq_getElem?_getD,List.getElem?_map,List.getElem?_range (by rw [hn];omega),hn];simp only [Option.map_some,Option.getD_some]
    congr 1;omega
  rw [this,dg];simp only [UInt8.toNat_ofNat']
  rw [Nat.mod_eq_of_lt (show 48+u / 10 ^ (19 - (m+i)) % 10 < 2 ^ 8 by omega)]
end Go.Proofs.YtmlcdpfcafmmcaaDoor.B
namespace Go.Proofs.YtmlcdpfcafmmcaaDoor.A
open Go.RowKit B WW WL WM
attribute [local go_sem] max2_int min2_int max_two min_two max_three min_three max_four min_four
structure S93 where
  f0:Int
  f1:ByteArray
  f2:Int
def z93:S93:=⟨(0:Int),(⟨#[]⟩:ByteArray),(0:Int)⟩
def k93:Kd S93:=Kd.iso (Kd.pair (Kd.int .i64) (Kd.pair Kd.string (Kd.int .i64))) (fun x:S93=>(x.f0,x.f1,x.f2))
theorem k93_open {w:World} {x:S93} {cs:List Value} (h:k93.K w x cs):cs=[.int .i64 x.f0,.string x.f1,.int .i64 x.f2]:=by
  obtain ⟨_,_,rfl,rfl,⟨_,_,rfl,rfl,rfl⟩⟩:=h;exact rfl
theorem k93_mk (w:World) (x:S93):k93.K w x [.int .i64 x.f0,.string x.f1,.int .i64 x.f2]:=⟨[.int .i64 x.f0],[.string x.f1,.int .i64 x.f2],rfl,rfl,⟨[.string x.f1],[.int .i64 x.f2],rfl,rfl,rfl⟩⟩
def rd_T93 (xs:List S93) (i:Int):S93:=xs.getD i.toNat z93
theorem at_T93 {w:World} {A:Option Addr} {n:Nat} {xs:List S93} (h:Kd.C k93 w A n xs) (i:Int) (h0:0≤i) (h1:i < n):∃ ad ,A=some ad∧w.cell? (ad.add (i.toNat * 3))=some (.int .i64 (rd_T93 xs i).f0)∧w.cell? ⟨(ad.add (i.toNat * 3)).block,(ad.add (i.toNat * 3)).off+1,none⟩=some (.string (rd_T93 xs i).f1)∧w.cell? ⟨(ad.add (i.toNat * 3)).block,(ad.add (i.toNat * 3)).off+2,none⟩=some (.int .i64 (rd_T93 xs i).f2):=by
  obtain ⟨ad,c,e,_,hK,hc0⟩:=Kd.C_get h z93 i h0 h1;have hc:∀ j u,c[j]?=some u→w.cell? (ad.add (i.toNat * 3+j))=some u:=hc0;obtain rfl:=k93_open hK;exact ⟨ad,e,hc 0 _ rfl,by rw [← add_field _ _ 1 (by omega)];exact hc 1 _ rfl,by rw [← add_field _ _ 2 (by omega)];exact hc 2 _ rfl⟩
end Go.Proofs.YtmlcdpfcafmmcaaDoor.A
namespace Go.Proofs.YtmlcdpfcafmmcaaDoor.A
open Go.RowKit B WW WL WM
attribute [local go_sem] max2_int min2_int max_two min_two max_three min_three max_four min_four
set_option maxHeartbeats 8000000
set_option maxRecDepth 100000
mutual
def stmt_shaped.j0:Nat→List (S93)→List Int→Bool→Option (Bool)
 | 0,_,_,_=>none
 | k+1,x0,x2,x30=>if x30=true then (some false) else (stmt_shaped.l0 k x0 x2 (x2.length:Int) 0)
def stmt_shaped.l0:Nat→List (S93)→List Int→Int→Int→Option (Bool)
 | 0,_,_,_,_=>none
 | k+1,x0,x31,x32,x33=>if x33 < x32 then (if 0≤x33 then (if x33 < (x31.length:Int) then (if 0≤(wrap64 (x33+1)) then (if (wrap64 (x33+1)) < (x0.length:Int) then (if ((rd_T93 x0 (wrap64 (x33+1))).f0)=(rd x31 x33) then (stmt_shaped.l0 k x0 x31 x32 (wrap64 (x33+1))) else (if (rd x31 x33)=1 then (if ((rd_T93 x0 (wrap64 (x33+1))).f0)=2 then (stmt_shaped.l0 k x0 x31 x32 (wrap64 (x33+1))) else (some false)) else (some false))) else (none)) else (none)) else (none)) else (none)) else (some true)
end
def stmt_shaped.f (k:Nat) (l0:List (S93)) (a1:ByteArray) (l2:List Int):Option (Bool):=if 0 < (l0.length:Int) then (if ((rd_T93 l0 0).f0)=1 then (if ((rd_T93 l0 0).f1).toList=a1.toList then (stmt_shaped.j0 k l0 l2 ((l0.length:Int) != (wrap64 ((l2.length:Int)+1)))) else (stmt_shaped.j0 k l0 l2 true)) else (stmt_shaped.j0 k l0 l2 true)) else (none)
theorem stmt_shaped.calls (k:Nat) (A0:Option Addr) (c0:Nat) (l0:List (S93)) (a1:ByteArray) (A2:Option Addr) (c2:Nat) (l2:List Int) (r:Bool) (w:World) (hr0:Kd.C k93 w A0 l0.length l0) (hc0:l0.length≤c0) (hr2:Kd.C (Kd.int .i64) w A2 l2.length l2) (hc2:l2.length≤c2) (h:stmt_shaped.f k l0 a1 l2=some r) :
  Calls Tryd.prog 67 #[.slice A0 l0.length c0,.string a1,.slice A2 l2.length c2] w fun e w'=>e=.returned (.bool r)∧Drawn0 w w':=by
 have HR0:=sd hr0;have HC0:=sd hc0;clear hr0 hc0;have HR2:=sd hr2;have HC2:=sd hc2;clear hr2 hc2;have H:=h;clear h;unfold stmt_shaped.f at H;have HC4:=sd H;clear H;go_enter Tryd.func67,Tryd.ntmps67
 go_upto_region 1 with (fail)
 go_cut [30] (fun v30 wc=>∃ (kq:Nat) (x30_3:Bool),v30=.bool x30_3∧Aside0 (stmt_shaped.j0 kq l0 l2 x30_3=some r)∧Aside0 (kq≤k)∧Drawn0 w wc)
 case first =>
  have H:=HC4.out;clear HC4;replace H:=ifI H;rcases H with ⟨c5,H⟩ | ⟨c5,H⟩
  ·have c5b0:decide (0 < (l0.length:Int))=true:=decide_eq_true c5;have c5b1:decide (0 < l0.length)=true:=decide_eq_true (by omega);clear c5;(first | rw [c5b0] | (simp only [i64_w,i32_w];rw [c5b0]) | skip)
   replace H:=ifI H;rcases H with ⟨c6,H⟩ | ⟨c6,H⟩
   ·obtain ⟨c6b0,c6b1⟩:=eqI c6;clear c6;replace H:=ifI H;rcases H with ⟨c7,H⟩ | ⟨c7,H⟩
    ·obtain ⟨c7b0,c7b1⟩:=eqI c7;clear c7;have H':=sd H;clear H;have p196:0≤(0:Int):=(by omega)
     have q196:0 < (l0.length:Int):=od;obtain ⟨ad196,e196,hx196_0,hx196_1,hx196_2⟩:=at_T93 HR0.out 0 p196 q196
     cases e196
     have qi196:(0 < l0.length)=True:=eq_true (by omega);(try rw [show ((0:Int)).toNat=0 from rfl] at hx196_0)
     (try rw [show 0 * 3=0 from rfl] at hx196_0)
     (try rw [Addr.add_zero'] at hx196_0)
     (try rw [show ((0:Int)).toNat=0 from rfl] at hx196_1)
     (try rw [show 0 * 3=0 from rfl] at hx196_1)
     (try rw [Addr.add_zero'] at hx196_1)
     (try rw [show ((0:Int)).toNat=0 from rfl] at hx196_2)
     (try rw [show 0 * 3=0 from rfl] at hx196_2)
     (try rw [Addr.add_zero'] at hx196_2)
     replace p196:=eq_true p196;replace q196:=eq_true q196;have p197:0≤(0:Int):=(by omega)
     have q197:0 < (l0.length:Int):=od;obtain ⟨ad197,e197,hx197_0,hx197_1,hx197_2⟩:=at_T93 HR0.out 0 p197 q197;obtain rfl:ad196=ad197:=(by injection e197)
     have qi197:(0 < l0.length)=True:=eq_true (by omega);(try rw [show ((0:Int)).toNat=0 from rfl] at hx197_0)
     (try rw [show 0 * 3=0 from rfl] at hx197_0)
     (try rw [Addr.add_zero'] at hx197_0)
     (try rw [show ((0:Int)).toNat=0 from rfl] at hx197_1)
     (try rw [show 0 * 3=0 from rfl] at hx197_1)
     (try rw [Addr.add_zero'] at hx197_1)
     (try rw [show ((0:Int)).toNat=0 from rfl] at hx197_2)
     (try rw [show 0 * 3=0 from rfl] at hx197_2)
     (try rw [Addr.add_zero'] at hx197_2)
     replace p197:=eq_true p197;replace q197:=eq_true q197;go_wp2
     go_meet
     case rel=>exact ⟨_,(((l0.length:Int) != (wrap64 ((l2.length:Int)+1)))),zq1,H',⟨by first | omega | exact Nat.le_refl _⟩,zq2⟩
    obtain ⟨c7b0,c7b1⟩:=neI c7;have H':=sd H;clear H;have p196:0≤(0:Int):=(by omega)
    have q196:0 < (l0.length:Int):=od;obtain ⟨ad196,e196,hx196_0,hx196_1,hx196_2⟩:=at_T93 HR0.out 0 p196 q196
    cases e196
    have qi196:(0 < l0.length)=True:=eq_true (by omega);(try rw [show ((0:Int)).toNat=0 from rfl] at hx196_0)
    (try rw [show 0 * 3=0 from rfl] at hx196_0)
    (try rw [Addr.add_zero'] at hx196_0)
    (try rw [show ((0:Int)).toNat=0 from rfl] at hx196_1)
    (try rw [show 0 * 3=0 from rfl] at hx196_1)
    (try rw [Addr.add_zero'] at hx196_1)
    (try rw [show ((0:Int)).toNat=0 from rfl] at hx196_2)
    (try rw [show 0 * 3=0 from rfl] at hx196_2)
    (try rw [Addr.add_zero'] at hx196_2)
    replace p196:=eq_true p196;replace q196:=eq_true q196;have p197:0≤(0:Int):=(by omega)
    have q197:0 < (l0.length:Int):=od;obtain ⟨ad197,e197,hx197_0,hx197_1,hx197_2⟩:=at_T93 HR0.out 0 p197 q197;obtain rfl:ad196=ad197:=(by injection e197)
    have qi197:(0 < l0.length)=True:=eq_true (by omega);(try rw [show ((0:Int)).toNat=0 from rfl] at hx197_0)
    (try rw [show 0 * 3=0 from rfl] at hx197_0)
    (try rw [Addr.add_zero'] at hx197_0)
    (try rw [show ((0:Int)).toNat=0 from rfl] at hx197_1)
    (try rw [show 0 * 3=0 from rfl] at hx197_1)
    (try rw [Addr.add_zero'] at hx197_1)
    (try rw [show ((0:Int)).toNat=0 from rfl] at hx197_2)
    (try rw [show 0 * 3=0 from rfl] at hx197_2)
    (try rw [Addr.add_zero'] at hx197_2)
    replace p197:=eq_true p197;replace q197:=eq_true q197;go_wp2
    go_meet
    case rel=>exact ⟨_,(true),zq1,H',⟨by first | omega | exact Nat.le_refl _⟩,zq2⟩
   obtain ⟨c6b0,c6b1⟩:=neI c6;have H':=sd H;clear H;have p196:0≤(0:Int):=(by omega)
   have q196:0 < (l0.length:Int):=od;obtain ⟨ad196,e196,hx196_0,hx196_1,hx196_2⟩:=at_T93 HR0.out 0 p196 q196
   cases e196
   have qi196:(0 < l0.length)=True:=eq_true (by omega);(try rw [show ((0:Int)).toNat=0 from rfl] at hx196_0)
   (try rw [show 0 * 3=0 from rfl] at hx196_0)
   (try rw [Addr.add_zero'] at hx196_0)
   (try rw [show ((0:Int)).toNat=0 from rfl] at hx196_1)
   (try rw [show 0 * 3=0 from rfl] at hx196_1)
   (try rw [Addr.add_zero'] at hx196_1)
   (try rw [show ((0:Int)).toNat=0 from rfl] at hx196_2)
   (try rw [show 0 * 3=0 from rfl] at hx196_2)
   (try rw [Addr.add_zero'] at hx196_2)
   replace p196:=eq_true p196;replace q196:=eq_true q196;go_wp2
   go_meet
   case rel=>exact ⟨_,(true),zq1,H',⟨by first | omega | exact Nat.le_refl _⟩,zq2⟩
  exact absurd H (by simp)
 case rest =>
  clear HC4;try clear p1
  try clear q1
  try clear hx1
  try clear qi1
  try clear c2
  try clear p2
  try clear c5
  try clear c5b0
  try clear c5b1
  try clear c6
  try clear c6b0
  try clear c6b1
  try clear p6
  try clear c7
  try clear c7b0
  try clear c7b1
  try clear hx196_0
  try clear hx196_1
  try clear hx196_2
  try clear hx197_0
  try clear hx197_1
  try clear hx197_2
  try clear p196
  try clear p197
  try clear q196
  try clear q197
  obtain ⟨kq,x30_3,rfl,HA,HJ3,⟨mc3,rfl⟩⟩:=hcut
  cases kq with
  | zero=>exact absurd HA.out (by simp [stmt_shaped.j0])
  | succ kj3 =>
   have H:=HA.out;clear HA;simp only [stmt_shaped.j0] at H
   by_cases c8:x30_3=true
   ·subst c8;rw [if_pos rfl] at H;obtain rfl:=Option.some.inj H;go_wp2
    go_ret
    exact ⟨zq1,zq2⟩
   replace c8:=Bool.eq_false_iff.mpr c8;subst c8;rw [if_neg Bool.false_ne_true] at H;have H':=sd H;clear H;go_wp2
   go_loopg [33] kj3 (fun kq v33 w'=>∃ (x33_2:Int),v33=.int .i64 x33_2∧Aside0 (stmt_shaped.l0 kq l0 l2 (l2.length:Int) x33_2=some r)∧Aside0 (kq≤kj3)∧Drawn0 w w')
   case atStart=>exact ⟨(0),zq1,H',⟨Nat.le_refl _⟩,zq2⟩
   case round =>
    clear H';try clear p1
    try clear q1
    try clear hx1
    try clear qi1
    try clear c2
    try clear p2
    try clear c3
    try clear c5
    try clear c5b0
    try clear c5b1
    try clear c6
    try clear c6b0
    try clear c6b1
    try clear p6
    try clear c7
    try clear c7b0
    try clear c7b1
    try clear c8
    try clear hx196_0
    try clear hx196_1
    try clear hx196_2
    try clear hx197_0
    try clear hx197_1
    try clear hx197_2
    try clear p1
    try clear p196
    try clear p197
    try clear p2
    try clear p6
    try clear q1
    try clear q196
    try clear q197
    obtain ⟨x33_2,rfl,HA,HK2,⟨m2,rfl⟩⟩:=hrel
    cases gk with
    | zero=>exact absurd HA.out (by simp [stmt_shaped.l0])
    | succ k2 =>
     have H:=HA.out;clear HA;simp only [stmt_shaped.l0] at H
     replace H:=ifI H;rcases H with ⟨c9,H⟩ | ⟨c9,H⟩
     ·have c9b0:decide (x33_2 < (l2.length:Int))=true:=decide_eq_true c9;clear c9;replace H:=ifI H;rcases H with ⟨c10,H⟩ | ⟨c10,H⟩
      ·have c10b0:decide (0≤x33_2)=true:=decide_eq_true c10;clear c10;replace H:=ifI H;rcases H with ⟨c11,H⟩ | ⟨c11,H⟩
       ·have c11b0:decide (x33_2 < (l2.length:Int))=true:=decide_eq_true c11;clear c11;obtain ⟨ji12,hji12⟩:∃ j_:Int,(wrap64 (x33_2+1))=j_:=⟨_,rfl⟩
        replace H:(if 0≤(ji12) then (if (ji12) < (l0.length:Int) then (if ((rd_T93 l0 (ji12)).f0)=(rd l2 x33_2) then (stmt_shaped.l0 k2 l0 l2 (l2.length:Int) ji12) else (if (rd l2 x33_2)=1 then (if ((rd_T93 l0 (ji12)).f0)=2 then (stmt_shaped.l0 k2 l0 l2 (l2.length:Int) ji12) else (some false)) else (some false))) else (none)) else (none))=some r:=by first | (rw [hji12] at H;exact H) | (simp only [hji12] at H ⊢;exact H)
        have hji12w:(IntKind.i64.wrap (x33_2+1))=ji12:=(i64_w _).trans hji12;replace H:=ifI H;rcases H with ⟨c13,H⟩ | ⟨c13,H⟩
        ·have c13b0:decide (0≤(ji12))=true:=decide_eq_true c13;clear c13;replace H:=ifI H;rcases H with ⟨c14,H⟩ | ⟨c14,H⟩
         ·have c14b0:decide ((ji12) < (l0.length:Int))=true:=decide_eq_true c14;clear c14;replace H:=ifI H;rcases H with ⟨c15,H⟩ | ⟨c15,H⟩
          ·obtain ⟨c15b0,c15b1⟩:=eqI c15;clear c15;have H':=sd H;clear H;have p198:0≤(x33_2:Int):=od;have q198:x33_2 < (l2.length:Int):=od;obtain ⟨ad198,e198,hx198_0⟩:=Kd.at_int HR2.out x33_2 p198 q198
           cases e198
           replace p198:=eq_true p198;replace q198:=eq_true q198;have p199:0≤((ji12):Int):=od;have q199:(ji12) < (l0.length:Int):=od;obtain ⟨ad199,e199,hx199_0,hx199_1,hx199_2⟩:=at_T93 HR0.out (ji12) p199 q199
           cases e199
           replace p199:=eq_true p199;replace q199:=eq_true q199;go_wp2
           go_roundg k2
           case measure=>have:=HJ3.out;have:=HK2.out;omega
           case rel=>exact ⟨(ji12),zq130,H',⟨zq54⟩,zq2⟩
          obtain ⟨c15b0,c15b1⟩:=neI c15;replace H:=ifI H;rcases H with ⟨c16,H⟩ | ⟨c16,H⟩
          ·obtain ⟨c16b0,c16b1⟩:=eqI c16;clear c16;replace H:=ifI H;rcases H with ⟨c17,H⟩ | ⟨c17,H⟩
           ·obtain ⟨c17b0,c17b1⟩:=eqI c17;clear c17;have H':=sd H;clear H;have p198:0≤(x33_2:Int):=od;have q198:x33_2 < (l2.length:Int):=od;obtain ⟨ad198,e198,hx198_0⟩:=Kd.at_int HR2.out x33_2 p198 q198
            cases e198
            replace p198:=eq_true p198;replace q198:=eq_true q198;have p199:0≤((ji12):Int):=od;have q199:(ji12) < (l0.length:Int):=od;obtain ⟨ad199,e199,hx199_0,hx199_1,hx199_2⟩:=at_T93 HR0.out (ji12) p199 q199
            cases e199
            replace p199:=eq_true p199;replace q199:=eq_true q199;go_wp2
            go_roundg k2
            case measure=>have:=HJ3.out;have:=HK2.out;omega
            case rel=>exact ⟨(ji12),zq130,H',⟨zq54⟩,zq2⟩
           obtain ⟨c17b0,c17b1⟩:=neI c17;obtain rfl:=Option.some.inj H;have p198:0≤(x33_2:Int):=od;have q198:x33_2 < (l2.length:Int):=od;obtain ⟨ad198,e198,hx198_0⟩:=Kd.at_int HR2.out x33_2 p198 q198
           cases e198
           replace p198:=eq_true p198;replace q198:=eq_true q198;have p199:0≤((ji12):Int):=od;have q199:(ji12) < (l0.length:Int):=od;obtain ⟨ad199,e199,hx199_0,hx199_1,hx199_2⟩:=at_T93 HR0.out (ji12) p199 q199
           cases e199
           replace p199:=eq_true p199;replace q199:=eq_true q199;go_wp2
           go_ret
           exact ⟨zq130,zq2⟩
          obtain ⟨c16b0,c16b1⟩:=neI c16;obtain rfl:=Option.some.inj H;have p198:0≤(x33_2:Int):=od;have q198:x33_2 < (l2.length:Int):=od;obtain ⟨ad198,e198,hx198_0⟩:=Kd.at_int HR2.out x33_2 p198 q198
          cases e198
          replace p198:=eq_true p198;replace q198:=eq_true q198;have p199:0≤((ji12):Int):=od;have q199:(ji12) < (l0.length:Int):=od;obtain ⟨ad199,e199,hx199_0,hx199_1,hx199_2⟩:=at_T93 HR0.out (ji12) p199 q199
          cases e199
          replace p199:=eq_true p199;replace q199:=eq_true q199;go_wp2
          go_ret
          exact ⟨zq130,zq2⟩
         exact absurd H (by simp)
        exact absurd H (by simp)
       exact absurd H (by simp)
      exact absurd H (by simp)
     have c9b0:decide (x33_2 < (l2.length:Int))=false:=decide_eq_false c9;clear c9;obtain rfl:=Option.some.inj H;go_wp2
     go_ret
     exact ⟨zq1,zq2⟩
structure WdC (w:World) (g:Nat) (A:Option Addr) (c:Nat) (ws:List S93):Prop where
  row:Kd.C k93 w A ws.length ws
  cap:ws.length≤c
  ne:∀ ad,A=some ad→0 < ws.length→ad.block≠g
theorem WdC.keep {w w':World} {g:Nat} {A:Option Addr} {c:Nat} {ws:List S93} (h:WdC w g A c ws) (hk:KeepBut w w' g none):WdC w' g A c ws:=by
  refine ⟨⟨h.row.1,h.row.2.1,fun hn=>?_⟩,h.cap,h.ne⟩;obtain ⟨ad,rfl,hc⟩:=h.row.2.2 hn;refine ⟨ad,rfl,fun j p hj=>?_⟩;obtain ⟨cs,h1,h2,h3⟩:=hc j p hj;obtain rfl:=k93_open h2;refine ⟨_,rfl,k93_mk w' p,fun i u hu=>?_⟩;exact keep_cell hk (h3 i u hu) (by rw [add_block];exact h.ne ad rfl hn)
theorem WdC.at_ {w:World} {g:Nat} {A:Option Addr} {c:Nat} {ws:List S93} (h:WdC w g A c ws) (i n:Nat) (hi:i < ws.length) (hn:i * 3=n) (h0:n≠0):∃ ad,A=some ad∧ad.block≠g ∧
    w.cell? ⟨ad.block,ad.off+n,none⟩=some (.int .i64 (rd_T93 ws i).f0)∧w.cell? ⟨ad.block,ad.off+n+1,none⟩=some (.string (rd_T93 ws i).f1):=by
  obtain ⟨ad,e,x0,x1,x2⟩:=at_T93 h.row (i:Int) (by omega) (by omega);simp only [Int.toNat_natCast,hn] at x0 x1
  have ha:ad.add n=⟨ad.block,ad.off+n,none⟩:=by unfold Addr.add;rw [if_neg h0]
  rw [ha] at x0 x1;exact ⟨ad,e,h.ne _ e (by omega),x0,x1⟩
end Go.Proofs.YtmlcdpfcafmmcaaDoor.A
