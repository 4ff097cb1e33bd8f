-- By pack.py, a program of this session's.
import Derived.Test.YtkbgkekegjfkfaaGreatDoorY10
set_option linter.unusedVariables false
set_option linter.unusedSimpArgs false
namespace Go.Proofs.YtkbgkekegjfkfaaGreatDoor.A
open Go.RowKit B WW WL WM
attribute [local go_sem] max2_int min2_int max_two min_two max_three min_three max_four min_four
set_option maxHeartbeats 8000000
set_option maxRecDepth 100000
theorem num_size.same (a0:Int) (hb:I64 a0) (w:World) :
  Calls Tryz.prog 100 #[.int .i64 a0] w fun e w'=>e=.returned (.int .u64 (a0.natAbs:Int))∧w=w':=by
 obtain ⟨h0,h1⟩:=hb;by_cases h:a0 < 0
 ·go_enter Tryz.func100,Tryz.ntmps100
  go_wp2
  go_ret
  exact ⟨ret_int (by rw [wu64,wu64];omega),rfl⟩
 go_enter Tryz.func100,Tryz.ntmps100
 go_wp2
 go_ret
 exact ⟨ret_int (by omega),rfl⟩
theorem sl20 (W:World) (b m:Nat) (z:Int) (hz:z=(m:Int)) (h:m < 20) :
  (Instr.sliceAt 136 (.pointer (some ⟨b,0,none⟩)) (some (.int .i64 z)) none none).run Tryz.prog W=.ok (.slice (some ⟨b,m,none⟩) (20 - m) (20 - m)) W:=by
 subst hz;have e1:Tryz.prog.arrayLen 136=20:=by kernel_rfl
 have e2:Tryz.prog.elem 136=5:=by kernel_rfl
 rw [run_sliceAt_array_l W 136 ⟨b,0,none⟩ (by rw [e1,e2];exact Tryz.underlying136) .i64 (m:Int) (by omega) (by rw [e1];omega),e1,e2];have e3:(Go.sizeOf 5).run Tryz.prog W=.ok 1 W:=by kernel_rfl
 rw [e3];simp only [Result.andThen,slicedAt,Int.toNat_natCast,if_neg (show ¬ 20=m by omega),Nat.mul_one,add_plain']
def num_Text.f (a0:Int):Option (ByteArray):=if I64 a0 then some ⟨(Lib.itoa a0).toArray⟩ else none
def days_padded.f (a0:Int):Option (ByteArray):=if a0 < 10 then ((num_Text.f a0).bind fun t169=>(if 1+t169.size≤9223372036854775807 then (some ((⟨#[48]⟩:ByteArray)++t169)) else (none))) else ((num_Text.f a0).bind fun t170=>(some t170))
def days_Text.f (k:Nat) (a0:Int):Option (ByteArray×Int):=(days_Date.f k a0).bind fun bt171=>(if bt171.2.2.2=0 then ((num_Text.f bt171.1).bind fun t176=>(if t176.size+1≤9223372036854775807 then ((days_padded.f bt171.2.1).bind fun t177=>(if (t176++(⟨#[45]⟩:ByteArray)).size+t177.size≤9223372036854775807 then (if ((t176++(⟨#[45]⟩:ByteArray))++t177).size+1≤9223372036854775807 then ((days_padded.f bt171.2.2.1).bind fun t178=>(if (((t176++(⟨#[45]⟩:ByteArray))++t177)++(⟨#[45]⟩:ByteArray)).size+t178.size≤9223372036854775807 then (some ((((t176++(⟨#[45]⟩:ByteArray))++t177)++(⟨#[45]⟩:ByteArray))++t178,0)) else (none))) else (none)) else (none))) else (none))) else (some ((⟨#[]⟩:ByteArray),bt171.2.2.2)))
def words_Quote.l0:Nat→ByteArray→List Int→Int→Int→Option (ByteArray×Int)
 | 0,_,_,_,_=>none
 | k+1,x0,x4,x11,x12=>if x12 < x11 then (if 0≤x12 then (if x12 < (x0.size:Int) then (if (bt x0 x12)=34 then (if x4.length < 140737488355328 then ((some (x4++[92]:List Int)).bind fun y183=>(if y183.length < 140737488355328 then (words_Quote.l0 k x0 (y183++[bt x0 x12]) x11 (wrap64 (x12+1))) else (none))) else (none)) else (if (bt x0 x12)=92 then (if x4.length < 140737488355328 then ((some (x4++[92]:List Int)).bind fun y189=>(if y189.length < 140737488355328 then (words_Quote.l0 k x0 (y189++[bt x0 x12]) x11 (wrap64 (x12+1))) else (none))) else (none)) else (if x4.length < 140737488355328 then (words_Quote.l0 k x0 (x4++[bt x0 x12]) x11 (wrap64 (x12+1))) else (none)))) else (none)) else (none)) else (if x4.length < 140737488355328 then (some (strOfNums (x4++[34]),0)) else (none))
def words_Quote.f (k:Nat) (a0:ByteArray):Option (ByteArray×Int):=(words_Plain.f a0).bind fun t179=>(if t179=true then (words_Quote.l0 k a0 (([34]:List Int)) (a0.size:Int) 0) else (some ((⟨#[]⟩:ByteArray),5)))
theorem words_Quote.calls (k:Nat) (a0 r1:ByteArray) (r2:Int) (w:World) (h:words_Quote.f k a0=some (r1,r2)) :
  Calls Tryz.prog 74 #[.string a0] w fun e w'=>e=.returned (.tuple #[.string r1,.int .i64 r2])∧Below w.heap.size w w':=by
 have HB:=sd (Below.refl w.heap.size w);have H:=h;clear h;unfold words_Quote.f at H;replace H:=bdI H;obtain ⟨t179,A2,H⟩:=H;(try dsimp only at H)
 by_cases c3:t179=true
 ·subst c3;rw [if_pos rfl] at H;obtain ⟨y180,hy180⟩:∃ y_:List Int,y_=(([34]:List Int)):=⟨_,rfl⟩
  replace H:(words_Quote.l0 k a0 y180 (a0.size:Int) 0)=some (r1,r2):=by first | (rw [hy180];with_reducible exact H) | (have H2_:=(Option.bind_some _ _).symm.trans H;rw [hy180];with_reducible exact H2_) | (have H2_:=(Option.bind_some _ _).symm.trans H;with_reducible exact H2_) | with_reducible exact H | (rw [hy180];exact H) | exact H
  have Ny180:=sd hy180;clear hy180;have H':=sd H;clear H;go_enter Tryz.func74,Tryz.ntmps74
  go_wp2_with (first | ((with_reducible refine gate_callee (f:=53) rfl ?_);refine gL 7 Tryz.func53 #[.string a0] ?_;(with_reducible refine (words_Plain.calls a0 true _ A2.out).mono ?_);rintro e w' ⟨rfl,⟨nd,rfl⟩⟩;refine ⟨_,rfl,?_⟩) | ((with_reducible refine gate_dst (N:=9) rfl ?_);refine Kd.R_lit (Kd.int .u8) _ 5 ?hg (N:=9) ?hd (xs:=([34]:List Int)) (inner:=[.int .u8 34]) (ok:=fun _=>True) (okp:=fun _=>True) ?hr ?hp (fun _ hk=>hk) trivial (Below.refl _ _) (Nat.le_refl _) (by simp) ?_;(case hd=>rfl);(case hg=>rfl);(case hr=>first | (go_simp;done) | (go_simp;rfl));(case hp=>exact (Reps.one (show Kd.M (Kd.int .u8) _ _ _ 34 [.int .u8 34] from rfl) (Reps.none _ _)));intro v181 w4 ho5 hb hg_ hnew_;clear hg_ hnew_;(first | rw [← Ny180.out] at ho5 | (simp only [Int.reduceToNat] at ho5;rw [← Ny180.out] at ho5));have HO182:=sd (Kd.R_lower ho5 (below_size zq6));replace HB:=hbm HB hb;clear hb ho5))
  go_loopg [4,12] k (fun kq v4 v12 w'=>∃ (x4_1:List Int) (x12_1:Int),v12=.int .i64 x12_1∧Aside0 (words_Quote.l0 kq a0 x4_1 (a0.size:Int) x12_1=some (r1,r2))∧Aside0 (kq≤k)∧Aside0 (Kd.R (Kd.int .u8) 5 w' w.heap.size (fun _=>True) v4 x4_1)∧Aside0 (Below w.heap.size w w'))
  case atStart=>exact ⟨(y180),(0),zq7,H',⟨Nat.le_refl _⟩,⟨by (with_reducible repeat (first | apply Kd.R_alloc | apply Kd.R_drewN | apply Kd.R_drew));exact HO182.out⟩,⟨zq6⟩⟩
  case round =>
   clear H';try clear p2
   try clear c3
   try clear c5
   obtain ⟨x4_1,x12_1,rfl,HA,HK1,HO_4,HB⟩:=hrel
   cases gk with
   | zero=>exact absurd HA.out (by simp [words_Quote.l0])
   | succ k1 =>
    have H:=HA.out;clear HA;simp only [words_Quote.l0] at H
    replace H:=ifI H;rcases H with ⟨c6,H⟩ | ⟨c6,H⟩
    ·have c6b0:decide (x12_1 < (a0.size:Int))=true:=decide_eq_true c6;clear c6;replace H:=ifI H;rcases H with ⟨c7,H⟩ | ⟨c7,H⟩
     ·have c7b0:decide (0≤x12_1)=true:=decide_eq_true c7;clear c7;replace H:=ifI H;rcases H with ⟨c8,H⟩ | ⟨c8,H⟩
      ·have c8b0:decide (x12_1 < (a0.size:Int))=true:=decide_eq_true c8;clear c8;replace H:=ifI H;rcases H with ⟨c10,H⟩ | ⟨c10,H⟩
       ·obtain ⟨c10b0,c10b1⟩:=eqI c10;clear c10;replace H:=ifI H;rcases H with ⟨c11,H⟩ | ⟨c11,H⟩
        ·have LMc11:=sd c11;clear c11;obtain ⟨y183,hy183⟩:∃ y_:List Int,y_=(x4_1++[92]):=⟨_,rfl⟩
         replace H:(if y183.length < 140737488355328 then (words_Quote.l0 k1 a0 (y183++[bt a0 x12_1]) (a0.size:Int) (wrap64 (x12_1+1))) else (none))=some (r1,r2):=by first | (rw [hy183];with_reducible exact H) | (have H2_:=(Option.bind_some _ _).symm.trans H;rw [hy183];with_reducible exact H2_) | (have H2_:=(Option.bind_some _ _).symm.trans H;with_reducible exact H2_) | with_reducible exact H | (rw [hy183];exact H) | exact H
         have Ny183:=sd hy183;clear hy183;replace H:=ifI H;rcases H with ⟨c13,H⟩ | ⟨c13,H⟩
         ·have LMc13:=sd c13;clear c13;obtain ⟨y186,hy186⟩:∃ y_:List Int,y_=(y183++[bt a0 x12_1]):=⟨_,rfl⟩
          replace H:(words_Quote.l0 k1 a0 y186 (a0.size:Int) (wrap64 (x12_1+1)))=some (r1,r2):=by first | (rw [hy186];with_reducible exact H) | (have H2_:=(Option.bind_some _ _).symm.trans H;rw [hy186];with_reducible exact H2_) | (have H2_:=(Option.bind_some _ _).symm.trans H;with_reducible exact H2_) | with_reducible exact H | (rw [hy186];exact H) | exact H
          have Ny186:=sd hy186;clear hy186;have H':=sd H;clear H;have p9:0≤(x12_1:Int):=od;have q9:x12_1 < (a0.size:Int):=od;have hx9:=bt_at a0 x12_1;replace p9:=eq_true p9;replace q9:=eq_true q9;go_wp2_with (first | ((with_reducible refine gate_builtin (b:=.append) (xs:=#[.tmp 25,.tmp 26]) rfl ?_);at_builtin;refine Kd.R_append (Kd.int .u8) (w0:=w) w.heap.size rfl (.tmp 25) (.tmp 26) 102 5 (.int .u8 0) 1 rfl Tryz.underlying102 info5 rfl (by decide) (by omega) u4 x4_1 92 [.int .u8 92] (fun _=>True) (fun _=>False) rfl rfl ?aP (fun _ hk=>hk.elim) ?aF ?aO ?aB ?aS ?aL ?_;(case aP=>exact rfl);(case aB=>exact zq6);(case aF=>exact (fun _ _=>trivial));(case aO=>exact zq53);(case aS=>exact (below_size zq6));(case aL=>have:=LMc11.out;omega);intro v184 w14 ho hb hg hat;rw [← Ny183.out] at ho;have HO185:=sd (ho);replace HB:=sd (hb);clear HO_4;clear ho hb hg hat;have p12:0≤(x12_1:Int):=od;have q12:x12_1 < (a0.size:Int):=od;have hx12:=bt_at a0 x12_1;replace p12:=eq_true p12;replace q12:=eq_true q12) | ((with_reducible refine gate_builtin (b:=.append) (xs:=#[.tmp 28,.tmp 32]) rfl ?_);at_builtin;refine Kd.R_append (Kd.int .u8) (w0:=w) w.heap.size rfl (.tmp 28) (.tmp 32) 102 5 (.int .u8 0) 1 rfl Tryz.underlying102 info5 rfl (by decide) (by omega) v184 y183 (bt a0 x12_1) [.int .u8 (bt a0 x12_1)] (fun _=>True) (fun _=>False) rfl rfl ?aP (fun _ hk=>hk.elim) ?aF ?aO ?aB ?aS ?aL ?_;(case aP=>exact rfl);(case aB=>exact zq6);(case aF=>exact (fun _ _=>trivial));(case aO=>exact (by (with_reducible repeat (first | apply Kd.R_alloc | apply Kd.R_drewN | apply Kd.R_drew));exact HO185.out));(case aS=>exact (below_size zq6));(case aL=>have:=LMc13.out;omega);intro v187 w15 ho hb hg hat;rw [← Ny186.out] at ho;have HO188:=sd (ho);replace HB:=sd (hb);clear HO185;clear ho hb hg hat))
          go_roundg k1
          case measure=>have:=HK1.out;omega
          case rel=>exact ⟨(y186),(wrap64 (x12_1+1)),zq7,H',⟨by have:=HK1.out;omega⟩,⟨by (with_reducible repeat (first | apply Kd.R_alloc | apply Kd.R_drewN | apply Kd.R_drew));exact HO188.out⟩,⟨zq6⟩⟩
         exact absurd H (by simp)
        exact absurd H (by simp)
       obtain ⟨c10b0,c10b1⟩:=neI c10;replace H:=ifI H;rcases H with ⟨c17,H⟩ | ⟨c17,H⟩
       ·obtain ⟨c17b0,c17b1⟩:=eqI c17;clear c17;replace H:=ifI H;rcases H with ⟨c18,H⟩ | ⟨c18,H⟩
        ·have LMc18:=sd c18;clear c18;obtain ⟨y189,hy189⟩:∃ y_:List Int,y_=(x4_1++[92]):=⟨_,rfl⟩
         replace H:(if y189.length < 140737488355328 then (words_Quote.l0 k1 a0 (y189++[bt a0 x12_1]) (a0.size:Int) (wrap64 (x12_1+1))) else (none))=some (r1,r2):=by first | (rw [hy189];with_reducible exact H) | (have H2_:=(Option.bind_some _ _).symm.trans H;rw [hy189];with_reducible exact H2_) | (have H2_:=(Option.bind_some _ _).symm.trans H;with_reducible exact H2_) | with_reducible exact H | (rw [hy189];exact H) | exact H
         have Ny189:=sd hy189;clear hy189;replace H:=ifI H;rcases H with ⟨c20,H⟩ | ⟨c20,H⟩
         ·have LMc20:=sd c20;clear c20;obtain ⟨y192,hy192⟩:∃ y_:List Int,y_=(y189++[bt a0 x12_1]):=⟨_,rfl⟩
          replace H:(words_Quote.l0 k1 a0 y192 (a0.size:Int) (wrap64 (x12_1+1)))=some (r1,r2):=by first | (rw [hy192];with_reducible exact H) | (have H2_:=(Option.bind_some _ _).symm.trans H;rw [hy192];with_reducible exact H2_) | (have H2_:=(Option.bind_some _ _).symm.trans H;with_reducible exact H2_) | with_reducible exact H | (rw [hy192];exact H) | exact H
          have Ny192:=sd hy192;clear hy192;have H':=sd H;clear H;have p9:0≤(x12_1:Int):=od;have q9:x12_1 < (a0.size:Int):=od;have hx9:=bt_at a0 x12_1;replace p9:=eq_true p9;replace q9:=eq_true q9;have p16:0≤(x12_1:Int):=od;have q16:x12_1 < (a0.size:Int):=od;have hx16:=bt_at a0 x12_1;replace p16:=eq_true p16;replace q16:=eq_true q16;go_wp2_with (first | ((with_reducible refine gate_builtin (b:=.append) (xs:=#[.tmp 25,.tmp 26]) rfl ?_);at_builtin;refine Kd.R_append (Kd.int .u8) (w0:=w) w.heap.size rfl (.tmp 25) (.tmp 26) 102 5 (.int .u8 0) 1 rfl Tryz.underlying102 info5 rfl (by decide) (by omega) u4 x4_1 92 [.int .u8 92] (fun _=>True) (fun _=>False) rfl rfl ?aP (fun _ hk=>hk.elim) ?aF ?aO ?aB ?aS ?aL ?_;(case aP=>exact rfl);(case aB=>exact zq6);(case aF=>exact (fun _ _=>trivial));(case aO=>exact zq53);(case aS=>exact (below_size zq6));(case aL=>have:=LMc18.out;omega);intro v190 w21 ho hb hg hat;rw [← Ny189.out] at ho;have HO191:=sd (ho);replace HB:=sd (hb);clear HO_4;clear ho hb hg hat;have p19:0≤(x12_1:Int):=od;have q19:x12_1 < (a0.size:Int):=od;have hx19:=bt_at a0 x12_1;replace p19:=eq_true p19;replace q19:=eq_true q19) | ((with_reducible refine gate_builtin (b:=.append) (xs:=#[.tmp 28,.tmp 32]) rfl ?_);at_builtin;refine Kd.R_append (Kd.int .u8) (w0:=w) w.heap.size rfl (.tmp 28) (.tmp 32) 102 5 (.int .u8 0) 1 rfl Tryz.underlying102 info5 rfl (by decide) (by omega) v190 y189 (bt a0 x12_1) [.int .u8 (bt a0 x12_1)] (fun _=>True) (fun _=>False) rfl rfl ?aP (fun _ hk=>hk.elim) ?aF ?aO ?aB ?aS ?aL ?_;(case aP=>exact rfl);(case aB=>exact zq6);(case aF=>exact (fun _ _=>trivial));(case aO=>exact (by (with_reducible repeat (first | apply Kd.R_alloc | apply Kd.R_drewN | apply Kd.R_drew));exact HO191.out));(case aS=>exact (below_size zq6));(case aL=>have:=LMc20.out;omega);intro v193 w22 ho hb hg hat;rw [← Ny192.out] at ho;have HO194:=sd (ho);replace HB:=sd (hb);clear HO191;clear ho hb hg hat))
          go_roundg k1
          case measure=>have:=HK1.out;omega
          case rel=>exact ⟨(y192),(wrap64 (x12_1+1)),zq7,H',⟨by have:=HK1.out;omega⟩,⟨by (with_reducible repeat (first | apply Kd.R_alloc | apply Kd.R_drewN | apply Kd.R_drew));exact HO194.out⟩,⟨zq6⟩⟩
         exact absurd H (by simp)
        exact absurd H (by simp)
       obtain ⟨c17b0,c17b1⟩:=neI c17;replace H:=ifI H;rcases H with ⟨c24,H⟩ | ⟨c24,H⟩
       ·have LMc24:=sd c24;clear c24;obtain ⟨y195,hy195⟩:∃ y_:List Int,y_=(x4_1++[bt a0 x12_1]):=⟨_,rfl⟩
        replace H:(words_Quote.l0 k1 a0 y195 (a0.size:Int) (wrap64 (x12_1+1)))=some (r1,r2):=by first | (rw [hy195];with_reducible exact H) | (have H2_:=(Option.bind_some _ _).symm.trans H;rw [hy195];with_reducible exact H2_) | (have H2_:=(Option.bind_some _ _).symm.trans H;with_reducible exact H2_) | with_reducible exact H | (rw [hy195];exact H) | exact H
        have Ny195:=sd hy195;clear hy195;have H':=sd H;clear H;have p9:0≤(x12_1:Int):=od;have q9:x12_1 < (a0.size:Int):=od;have hx9:=bt_at a0 x12_1;replace p9:=eq_true p9;replace q9:=eq_true q9;have p16:0≤(x12_1:Int):=od;have q16:x12_1 < (a0.size:Int):=od;have hx16:=bt_at a0 x12_1;replace p16:=eq_true p16;replace q16:=eq_true q16;have p23:0≤(x12_1:Int):=od;have q23:x12_1 < (a0.size:Int):=od;have hx23:=bt_at a0 x12_1;replace p23:=eq_true p23;replace q23:=eq_true q23;go_wp2_with (first | ((with_reducible refine gate_builtin (b:=.append) (xs:=#[.tmp 28,.tmp 32]) rfl ?_);at_builtin;refine Kd.R_append (Kd.int .u8) (w0:=w) w.heap.size rfl (.tmp 28) (.tmp 32) 102 5 (.int .u8 0) 1 rfl Tryz.underlying102 info5 rfl (by decide) (by omega) u4 x4_1 (bt a0 x12_1) [.int .u8 (bt a0 x12_1)] (fun _=>True) (fun _=>False) rfl rfl ?aP (fun _ hk=>hk.elim) ?aF ?aO ?aB ?aS ?aL ?_;(case aP=>exact rfl);(case aB=>exact zq6);(case aF=>exact (fun _ _=>trivial));(case aO=>exact zq53);(case aS=>exact (below_size zq6));(case aL=>have:=LMc24.out;omega);intro v196 w25 ho hb hg hat;rw [← Ny195.out] at ho;have HO197:=sd (ho);replace HB:=sd (hb);clear HO_4;clear ho hb hg hat))
        go_roundg k1
        case measure=>have:=HK1.out;omega
        case rel=>exact ⟨(y195),(wrap64 (x12_1+1)),zq7,H',⟨by have:=HK1.out;omega⟩,⟨by (with_reducible repeat (first | apply Kd.R_alloc | apply Kd.R_drewN | apply Kd.R_drew));exact HO197.out⟩,⟨zq6⟩⟩
       exact absurd H (by simp)
      exact absurd H (by simp)
     exact absurd H (by simp)
    have c6b0:decide (x12_1 < (a0.size:Int))=false:=decide_eq_false c6;clear c6;replace H:=ifI H;rcases H with ⟨c26,H⟩ | ⟨c26,H⟩
    ·have LMc26:=sd c26;clear c26;obtain ⟨y198,hy198⟩:∃ y_:List Int,y_=(x4_1++[34]):=⟨_,rfl⟩
     replace H:(some (strOfNums y198,0))=some (r1,r2):=by first | (rw [hy198];with_reducible exact H) | (have H2_:=(Option.bind_some _ _).symm.trans H;rw [hy198];with_reducible exact H2_) | (have H2_:=(Option.bind_some _ _).symm.trans H;with_reducible exact H2_) | with_reducible exact H | (rw [hy198];exact H) | exact H
     have Ny198:=sd hy198;clear hy198;simp only [Option.some.injEq,Prod.mk.injEq] at H
     obtain ⟨rfl,rfl⟩:=H;go_wp2_with (first | ((with_reducible refine gate_builtin (b:=.append) (xs:=#[.tmp 35,.tmp 36]) rfl ?_);at_builtin;refine Kd.R_append (Kd.int .u8) (w0:=w) w.heap.size rfl (.tmp 35) (.tmp 36) 102 5 (.int .u8 0) 1 rfl Tryz.underlying102 info5 rfl (by decide) (by omega) u4 x4_1 34 [.int .u8 34] (fun _=>True) (fun _=>False) rfl rfl ?aP (fun _ hk=>hk.elim) ?aF ?aO ?aB ?aS ?aL ?_;(case aP=>exact rfl);(case aB=>exact zq6);(case aF=>exact (fun _ _=>trivial));(case aO=>exact zq53);(case aS=>exact (below_size zq6));(case aL=>have:=LMc26.out;omega);intro v199 w27 ho hb hg hat;rw [← Ny198.out] at ho;have HO200:=sd (ho);replace HB:=sd (hb);clear HO_4;clear ho hb hg hat;have hcv28:=own_string (P:=Tryz.prog) Tryz.underlying102 Tryz.underlying5 Tryz.underlying9 (Kd.own_of_R HO200.out)))
     go_ret2
     exact ⟨zq4,zq6⟩
    exact absurd H (by simp)
 replace c3:=Bool.eq_false_iff.mpr c3;subst c3;rw [if_neg Bool.false_ne_true] at H;simp only [Option.some.injEq,Prod.mk.injEq] at H
 obtain ⟨rfl,rfl⟩:=H;go_enter Tryz.func74,Tryz.ntmps74
 go_wp2_with (first | ((with_reducible refine gate_callee (f:=53) rfl ?_);refine gL 7 Tryz.func53 #[.string a0] ?_;(with_reducible refine (words_Plain.calls a0 false _ A2.out).mono ?_);rintro e w' ⟨rfl,⟨nd,rfl⟩⟩;refine ⟨_,rfl,?_⟩))
 go_ret2
 exact ⟨zq4,zq6⟩
def rules_operand.f (k:Nat) (a0_0:Int) (a0_1:Int) (a0_2:ByteArray) (a0_3:Int):Option (ByteArray):=if a0_0=1 then ((num_Text.f a0_3).bind fun t202=>(some t202)) else (if a0_0=4 then ((days_Text.f k a0_3).bind fun bt203=>(some bt203.1)) else ((words_Quote.f k a0_2).bind fun bt205=>(some bt205.1)))
def bits_Mul64.f (a0:Int) (a1:Int):Option (Int×Int):=if 0≤a0∧a0 < 18446744073709551616∧0≤a1∧a1 < 18446744073709551616 then some (a0 * a1 / 18446744073709551616,a0 * a1 % 18446744073709551616) else none
theorem m64_maskN (a:Nat) (ha:a < 18446744073709551616):bits .and .u64 (a:Int) 4294967295=((a % 4294967296:Nat):Int):=by
 have h:=bits_and_u64_nat a 4294967295 ha (by omega);have e:a &&& 4294967295=a % 4294967296:=Nat.and_two_pow_sub_one_eq_mod a 32;rw [e] at h;exact h
theorem m64_divN (a:Nat):(a:Int) / 4294967296=((a / 4294967296:Nat):Int):=by omega
theorem m64_mulN (a b:Nat):(a:Int) * (b:Int)=((a * b:Nat):Int):=(Int.natCast_mul a b).symm
theorem m64_addN (a b:Nat):(a:Int)+(b:Int)=((a+b:Nat):Int):=(Int.natCast_add a b).symm
theorem m64_wrapN (a:Nat) (ha:a < 18446744073709551616):IntKind.u64.wrap (a:Int)=(a:Int):=by rw [IntKind.wrap_u64];omega
theorem m64_wrapM (a:Nat):IntKind.u64.wrap (a:Int)=((a % 18446744073709551616:Nat):Int):=by rw [IntKind.wrap_u64];omega
theorem bits_Mul64.nat (x y:Nat) (hx:x < 18446744073709551616) (hy:y < 18446744073709551616) (w:World) :
  Calls Tryz.prog 139 #[.int .u64 x,.int .u64 y] w fun e w'=>e=.returned (.tuple #[.int .u64 ((x * y / 18446744073709551616:Nat):Int),.int .u64 ((x * y % 18446744073709551616:Nat):Int)])∧w'=w:=by
 obtain ⟨bd,bt,bw,hhi⟩:=Lib.mul64_hi x y hx hy;have ba:=Lib.half_mul_le (a:=x / 4294967296) (b:=y / 4294967296) (by omega) (by omega);have bb:=Lib.half_mul_le (a:=x / 4294967296) (b:=y % 4294967296) (by omega) (by omega);have bc:=Lib.half_mul_le (a:=x % 4294967296) (b:=y / 4294967296) (by omega) (by omega);have ba':x / 4294967296 * (y / 4294967296) < 18446744073709551616:=by omega
 have bb':x / 4294967296 * (y % 4294967296) < 18446744073709551616:=by omega
 have bc':x % 4294967296 * (y / 4294967296) < 18446744073709551616:=by omega
 have bh1:x / 4294967296 * (y / 4294967296)+(x / 4294967296 * (y % 4294967296)+x % 4294967296 * (y % 4294967296) / 4294967296) / 4294967296 < 18446744073709551616:=by omega
 have bh:x / 4294967296 * (y / 4294967296)+(x / 4294967296 * (y % 4294967296)+x % 4294967296 * (y % 4294967296) / 4294967296) / 4294967296+((x / 4294967296 * (y % 4294967296)+x % 4294967296 * (y % 4294967296) / 4294967296) % 4294967296+x % 4294967296 * (y / 4294967296)) / 4294967296 < 18446744073709551616:=by omega
 go_enter Tryz.func139,Tryz.ntmps139
 go_wp2
 simp only [m64_maskN x hx,m64_maskN y hy,m64_divN,m64_mulN,m64_addN,m64_wrapN _ bd,m64_wrapN _ bb',m64_wrapN _ bt,m64_maskN _ bt,m64_wrapN _ bc',m64_wrapN _ bw,m64_wrapN _ ba',m64_wrapN _ bh1,m64_wrapN _ bh,m64_wrapM (x * y)]
 rw [hhi];go_ret2
 exact ⟨rfl,rfl⟩
theorem bits_Mul64.calls (a0 a1 r1 r2:Int) (w:World) (h:bits_Mul64.f a0 a1=some (r1,r2)) :
  Calls Tryz.prog 139 #[.int .u64 a0,.int .u64 a1] w fun e w'=>e=.returned (.tuple #[.int .u64 r1,.int .u64 r2])∧Drawn0 w w':=by
 unfold bits_Mul64.f at h;split at h <;> simp only [Option.some.injEq,Prod.mk.injEq,reduceCtorEq] at h
 rename_i hb
 obtain ⟨rfl,rfl⟩:=h;obtain ⟨x,rfl⟩:=Int.eq_ofNat_of_zero_le hb.1;obtain ⟨y,rfl⟩:=Int.eq_ofNat_of_zero_le hb.2.2.1;refine (bits_Mul64.nat x y (by omega) (by omega) w).mono ?_;rintro e w' ⟨rfl,rfl⟩;exact ⟨by rw [m64_mulN];rfl,Drawn0.refl _⟩
def days_number.l0:Nat→ByteArray→Int→Int→Int→Option (Int×Bool)
 | 0,_,_,_,_=>none
 | k+1,x0,x2,x6,x7=>if x7 < x6 then (if 0≤x7 then (if x7 < (x0.size:Int) then (if (bt x0 x7) < 48 then (some (0,false)) else (if (bt x0 x7) > 57 then (some (0,false)) else (days_number.l0 k x0 (wrap64 ((wrap64 (10 * x2))+(((bt x0 x7) - 48) % 256))) x6 (wrap64 (x7+1))))) else (none)) else (none)) else (some (x2,true))
def days_number.f (k:Nat) (a0:ByteArray):Option (Int×Bool):=days_number.l0 k a0 0 (a0.size:Int) 0
theorem days_number.calls (k:Nat) (a0:ByteArray) (r1:Int) (r2:Bool) (w:World) (h:days_number.f k a0=some (r1,r2)) :
  Calls Tryz.prog 120 #[.string a0] w fun e w'=>e=.returned (.tuple #[.int .i64 r1,.bool r2])∧Drawn0 w w':=by
 have H:=h;clear h;unfold days_number.f at H;have H':=sd H;clear H;go_enter Tryz.func120,Tryz.ntmps120
 go_wp2
 go_loopg [2,7] k (fun kq v2 v7 w'=>∃ (x2_1:Int) (x7_1:Int),v2=.int .i64 x2_1∧v7=.int .i64 x7_1∧Aside0 (days_number.l0 kq a0 x2_1 (a0.size:Int) x7_1=some (r1,r2))∧Aside0 (kq≤k)∧Drawn0 w w')
 case atStart=>exact ⟨(0),(0),zq7,zq7,H',⟨Nat.le_refl _⟩,zq16⟩
 case round =>
  clear H';try clear c1
  obtain ⟨x2_1,x7_1,rfl,rfl,HA,HK1,⟨m1,rfl⟩⟩:=hrel
  cases gk with
  | zero=>exact absurd HA.out (by simp [days_number.l0])
  | succ k1 =>
   have H:=HA.out;clear HA;simp only [days_number.l0] at H
   replace H:=ifI H;rcases H with ⟨c2,H⟩ | ⟨c2,H⟩
   ·have c2b0:decide (x7_1 < (a0.size:Int))=true:=decide_eq_true c2;clear c2;replace H:=ifI H;rcases H with ⟨c3,H⟩ | ⟨c3,H⟩
    ·have c3b0:decide (0≤x7_1)=true:=decide_eq_true c3;clear c3;replace H:=ifI H;rcases H with ⟨c4,H⟩ | ⟨c4,H⟩
     ·have c4b0:decide (x7_1 < (a0.size:Int))=true:=decide_eq_true c4;clear c4;replace H:=ifI H;rcases H with ⟨c6,H⟩ | ⟨c6,H⟩
      ·have c6b0:decide ((bt a0 x7_1) < 48)=true:=decide_eq_true c6;clear c6;simp only [Option.some.injEq,Prod.mk.injEq] at H
       obtain ⟨rfl,rfl⟩:=H;have p5:0≤(x7_1:Int):=od;have q5:x7_1 < (a0.size:Int):=od;have hx5:=bt_at a0 x7_1;replace p5:=eq_true p5;replace q5:=eq_true q5;go_wp2
       go_ret2
       exact ⟨zq7,zq16⟩
      have c6b0:decide ((bt a0 x7_1) < 48)=false:=decide_eq_false c6;clear c6;replace H:=ifI H;rcases H with ⟨c8,H⟩ | ⟨c8,H⟩
      ·have c8b0:decide (57 < (bt a0 x7_1))=true:=decide_eq_true c8;clear c8;simp only [Option.some.injEq,Prod.mk.injEq] at H
       obtain ⟨rfl,rfl⟩:=H;have p5:0≤(x7_1:Int):=od;have q5:x7_1 < (a0.size:Int):=od;have hx5:=bt_at a0 x7_1;replace p5:=eq_true p5;replace q5:=eq_true q5;have p7:0≤(x7_1:Int):=od;have q7:x7_1 < (a0.size:Int):=od;have hx7:=bt_at a0 x7_1;replace p7:=eq_true p7;replace q7:=eq_true q7;go_wp2
       go_ret2
       exact ⟨zq7,zq16⟩
      have c8b0:decide (57 < (bt a0 x7_1))=false:=decide_eq_false c8;clear c8;have H':=sd H;clear H;have p5:0≤(x7_1:Int):=od;have q5:x7_1 < (a0.size:Int):=od;have hx5:=bt_at a0 x7_1;replace p5:=eq_true p5;replace q5:=eq_true q5;have p7:0≤(x7_1:Int):=od;have q7:x7_1 < (a0.size:Int):=od;have hx7:=bt_at a0 x7_1;replace p7:=eq_true p7;replace q7:=eq_true q7;have p9:0≤(x7_1:Int):=od;have q9:x7_1 < (a0.size:Int):=od;have hx9:=bt_at a0 x7_1;replace p9:=eq_true p9;replace q9:=eq_true q9;go_wp2
      go_roundg k1
      case measure=>have:=HK1.out;omega
      case rel=>exact ⟨(wrap64 ((wrap64 (10 * x2_1))+(((bt a0 x7_1) - 48) % 256))),(wrap64 (x7_1+1)),zq7,zq7,H',⟨by have:=HK1.out;omega⟩,zq16⟩
     exact absurd H (by simp)
    exact absurd H (by simp)
   have c2b0:decide (x7_1 < (a0.size:Int))=false:=decide_eq_false c2;clear c2;simp only [Option.some.injEq,Prod.mk.injEq] at H
   obtain ⟨rfl,rfl⟩:=H;go_wp2
   go_ret2
   exact ⟨zq7,zq16⟩
mutual
def days_Of.j0:Nat→Bool→Int→Int→Int→Option (Int×Int)
 | 0,_,_,_,_=>none
 | k+1,x27,x237000,x237001,x237002=>if x27=true then (some (0,11)) else ((days_before.f x237000).bind fun t238=>(days_Of.l0 k (wrap64 ((wrap64 (t238+x237002)) - 1)) 1 x237000 x237001 x237002))
def days_Of.l0:Nat→Int→Int→Int→Int→Int→Option (Int×Int)
 | 0,_,_,_,_,_=>none
 | k+1,x2,x4,x237000,x237001,x237002=>if x4 < x237001 then ((days_Length.f x237000 x4).bind fun t239=>(days_Of.l0 k (wrap64 (x2+t239)) (wrap64 (x4+1)) x237000 x237001 x237002)) else (some (x2,0))
end
def days_Of.f (k:Nat) (a0_0:Int) (a0_1:Int) (a0_2:Int):Option (Int×Int):=if a0_0 < 1900 then (days_Of.j0 k true a0_0 a0_1 a0_2) else (if a0_0 > 2199 then (days_Of.j0 k true a0_0 a0_1 a0_2) else (if a0_2 < 1 then (days_Of.j0 k true a0_0 a0_1 a0_2) else ((days_Length.f a0_0 a0_1).bind fun t237=>(days_Of.j0 k (decide (a0_2 > t237)) a0_0 a0_1 a0_2))))
end Go.Proofs.YtkbgkekegjfkfaaGreatDoor.A
namespace Go.Proofs.YtkbgkekegjfkfaaGreatDoor.B
open Go.Lib Go.RowKit WW
theorem trow_digits (u m k:Nat) (hmk:m+k=19) (h1:u / 10 ^ (k+1)=0) (h2:k=0∨u / 10 ^ k≠0) :
    (decDigits u).length=20 - m∧∀ i,i < (decDigits u).length→(trow u m)[m+i]?=some (.int .u8 (((decDigits u).getD i 0).toNat:Int)):=by
  have hn:=nDigits_of u k h1 h2;have hl:(decDigits u).length=20 - m:=by rw [decDigits_length,hn];omega
  refine ⟨hl,fun i hi=>?_⟩;rw [trow_at u m (m+i) (by omega),if_pos (by omega)]
  have:(decDigits u).getD i 0=dg u (19 - (m+i)):=by
    rw [decDigits_eq,List.getD_eq_getElem?_getD,List.getElem?_map,List.getElem?_range (by rw [hn];omega),hn];simp only [Option.map_some,Option.getD_some]
    congr 1;omega
  rw [this,dg];simp only [UInt8.toNat_ofNat']
  rw [Nat.mod_eq_of_lt (show 48+u / 10 ^ (19 - (m+i)) % 10 < 2 ^ 8 by omega)]
end Go.Proofs.YtkbgkekegjfkfaaGreatDoor.B
namespace Go.Proofs.YtkbgkekegjfkfaaGreatDoor.A
open Go.RowKit B WW WL WM
attribute [local go_sem] max2_int min2_int max_two min_two max_three min_three max_four min_four
set_option maxHeartbeats 8000000
set_option maxRecDepth 100000
theorem num_Text.itoa_calls (n:Int) (h0:-9223372036854775808≤n) (h1:n < 9223372036854775808) (w:World):Calls Tryz.prog 72 #[.int .i64 n] w fun e w'=>e=.returned (.string ⟨(Lib.itoa n).toArray⟩)∧Below w.heap.size w w':=by
 have HP:=Lib.hid (@itoa_pos n);have HM:=Lib.hid (@itoa_neg' n);obtain ⟨u,hu⟩:∃ u:Nat,u=n.natAbs:=⟨_,rfl⟩
 rw [← hu] at HP HM;have hu1:u≤9223372036854775808:=by omega
 have HU:=Lib.hid hu;clear hu;go_enter Tryz.func72,Tryz.ntmps72
 go_wp2_with fail
 refine (num_size.same n ⟨h0,by omega⟩ _).mono ?_;rintro e w' ⟨rfl,rfl⟩;rw [← HU.out];go_wp2_with fail
 go_loopw [4,5,8] (fun at_ left i wr=>∃ m k:Nat,m+k=19∧at_=.int .i64 ((m:Int)+1)∧left=.int .u64 ((u / 10 ^ k:Nat):Int)∧i=.int .i64 (k:Int)∧wr=w.alloc (.cells (trow u (m+1)) 136)∧(k=0∨u / 10 ^ k≠0)) (fun _ _ i _=>(19 - (RowKit.intOf i).toNat))
 case atStart=>exact ⟨19,0,rfl,rfl,by simp,rfl,by rw [trow_start];rfl,.inl rfl⟩
 case round =>
  obtain ⟨m,k,hmk,rfl,rfl,rfl,rfl,hz⟩:=hrel;have HZ:=Lib.hid hz;have hv19:k=19→u / 10 ^ k=0:=by intro e;rw [e];exact Nat.div_eq_of_lt (by omega)
  have hk:k < 19:=by
   rcases Nat.lt_or_ge k 19 with h | h
   ·exact h
   ·have:=hv19 (by omega);omega
  have hk18:k=18→u / 10 ^ k < 10:=by intro e;rw [e];omega
  clear hz hv19;have HS:=Lib.hid (trow_set u m k _ hmk rfl);have HY:=Lib.hid (trow_digits u m k hmk);obtain ⟨v,hv⟩:∃ v,v=u / 10 ^ k:=⟨_,rfl⟩
  have hvle:v≤u:=by rw [hv];exact Nat.div_le_self _ _
  have hvq:u / 10 ^ (k+1)=v / 10:=by rw [hv,Nat.pow_succ,Nat.div_div_eq_div_mul]
  rw [← hv] at HZ HS HY hk18 ⊢;have HV:=Lib.hid hv;clear hv;have hX:=trow_at u (m+1) m (by omega);obtain ⟨X,HX⟩:∃ X,X=trow u (m+1):=⟨_,rfl⟩
  obtain ⟨Y,HYY⟩:∃ Y,Y=trow u m:=⟨_,rfl⟩
  have HYA:=Lib.hid (fun i h=>trow_at u m i h);rw [← HX] at hX HS ⊢;rw [← HYY] at HS HY HYA;rw [if_neg (by omega)] at hX;have HXX:=Lib.hid HX;clear HX;have HYY':=Lib.hid HYY;clear HYY;have hset:X.setIfInBounds m (Value.int IntKind.u8 (48+(v:Int) % 10))=Y:=by rw [← HS.out];congr 2
  by_cases hv0:v / 10=0
  ·obtain ⟨hl,hd⟩:=HY.out (by rw [hvq];exact hv0) HZ.out;clear hk18;have hb0:((v:Int) / 10 == 0)=true:=by rw [beq_iff_eq];omega
   by_cases hn:n < 0
   ·obtain ⟨j,rfl⟩:∃ j,m=j+1:=⟨m - 1,by omega⟩
    have hY:=HYA.out j (by omega);rw [if_neg (by omega)] at hY;obtain ⟨Z,HZZ⟩:∃ Z,Z=Y.setIfInBounds j (.int .u8 45):=⟨_,rfl⟩
    have hset2:Y.setIfInBounds j (.int .u8 45)=Z:=HZZ.symm;have hsl:=fun W b=>sl20 W b j j rfl (by omega)
    have hcv:=fun cap=>conv_row (P:=Tryz.prog) w 136 102 9 5 Tryz.underlying102 Tryz.underlying5 Tryz.underlying9 Z j (20 - j) cap (45 :: Lib.decDigits u) (by simp only [List.length_cons];omega) (fun i hi=>by
     subst HZZ;rcases i with _ | i
     ·rw [Nat.add_zero,Array.getElem?_setIfInBounds,if_pos rfl,if_pos (by rw [HYY'.out,trow_size];omega)];rfl
     ·rw [Array.getElem?_setIfInBounds,if_neg (by omega),show j+(i+1)=j+1+i by omega,hd i (by simpa using hi)];rfl)
    clear hl hd hv0 HZZ hvq;go_wp2_with fail
    go_ret
    refine ⟨by rw [HM.out hn];rfl,?_⟩;exact (Below.refl _ _).alloc (Nat.le_refl _) _
   have hsl:=fun W b=>sl20 W b m m rfl (by omega)
   have hcv:=fun cap=>conv_row (P:=Tryz.prog) w 136 102 9 5 Tryz.underlying102 Tryz.underlying5 Tryz.underlying9 Y m (20 - m) cap (Lib.decDigits u) hl hd
   clear hl hd hv0 hvq;go_wp2_with fail
   go_ret
   refine ⟨by rw [HP.out (by omega)];rfl,?_⟩;exact (Below.refl _ _).alloc (Nat.le_refl _) _
  have hb0:((v:Int) / 10 == 0)=false:=by rw [beq_eq_false_iff_ne];omega
  clear hk18;clear HY HYA;have HQ:=Lib.hid hvq;clear hvq;have HV0:=Lib.hid hv0;clear hv0;go_wp2_with fail
  go_roundw
  case rel =>
   obtain ⟨j,rfl⟩:∃ j,m=j+1:=⟨m - 1,by omega⟩
   exact ⟨j,k+1,by omega,by go_num,by rw [HQ.out];go_num,by go_num,by rw [HYY'.out],.inr (by rw [HQ.out];exact HV0.out)⟩
  case measure=>simp [RowKit.intOf];omega
theorem num_Text.calls (a0:Int) (r:ByteArray) (w:World) (h:num_Text.f a0=some r) :
  Calls Tryz.prog 72 #[.int .i64 a0] w fun e w'=>e=.returned (.string r)∧Below w.heap.size w w':=by
 unfold num_Text.f at h;split at h <;> simp only [Option.some.injEq,reduceCtorEq] at h
 rename_i hb
 subst h;exact num_Text.itoa_calls a0 hb.1 (by have:=hb.2;omega) w
theorem days_padded.calls (a0:Int) (r:ByteArray) (w:World) (h:days_padded.f a0=some r) :
  Calls Tryz.prog 102 #[.int .i64 a0] w fun e w'=>e=.returned (.string r)∧Below w.heap.size w w':=by
 have HB:=sd (Below.refl w.heap.size w);have H:=h;clear h;unfold days_padded.f at H;replace H:=ifI H;rcases H with ⟨c2,H⟩ | ⟨c2,H⟩
 ·have c2b0:decide (a0 < 10)=true:=decide_eq_true c2;clear c2;replace H:=bdI H;obtain ⟨t169,A3,H⟩:=H;(try dsimp only at H)
  replace H:=ifI H;rcases H with ⟨c4,H⟩ | ⟨c4,H⟩
  ·have c4b0:=eq_true c4;have c4b1:decide (1+t169.size≤9223372036854775807)=true:=decide_eq_true c4;try have c4b2:(9223372036854775807 < 1+t169.size)=False:=eq_false (Nat.not_lt.2 c4)
   obtain rfl:=Option.some.inj H;go_enter Tryz.func102,Tryz.ntmps102
   go_wp2_with (first | ((with_reducible refine gate_callee (f:=72) rfl ?_);refine gL 6 Tryz.func72 #[.int .i64 a0] ?_;(with_reducible refine (num_Text.calls a0 t169 _ A3.out).mono ?_);rintro e w5 ⟨rfl,hb⟩;refine ⟨_,rfl,?_⟩;replace HB:=hbm HB hb;clear hb))
   go_ret
   exact ⟨zq4,zq6⟩
  exact absurd H (by simp)
 have c2b0:decide (a0 < 10)=false:=decide_eq_false c2;clear c2;replace H:=bdI H;obtain ⟨t170,A6,H⟩:=H;(try dsimp only at H)
 obtain rfl:=Option.some.inj H;go_enter Tryz.func102,Tryz.ntmps102
 go_wp2_with (first | ((with_reducible refine gate_callee (f:=72) rfl ?_);refine gL 9 Tryz.func72 #[.int .i64 a0] ?_;(with_reducible refine (num_Text.calls a0 t170 _ A6.out).mono ?_);rintro e w7 ⟨rfl,hb⟩;refine ⟨_,rfl,?_⟩;replace HB:=hbm HB hb;clear hb))
 go_ret
 exact ⟨zq4,zq6⟩
end Go.Proofs.YtkbgkekegjfkfaaGreatDoor.A
namespace Go.Proofs.YtkbgkekegjfkfaaGreatDoor.A
open Go.RowKit B WW WL WM
theorem zq20 {P:Prop} (h:P:=by (with_reducible repeat (first | refine blk_drewN ?_ _ | refine blk_drew ?_ | refine blk_alloc ?_ _));exact BK236.out):P:=h
end Go.Proofs.YtkbgkekegjfkfaaGreatDoor.A
namespace Go.Proofs.YtkbgkekegjfkfaaGreatDoor.A
open Go.RowKit B WW WL WM
attribute [local go_sem] max2_int min2_int max_two min_two max_three min_three max_four min_four
set_option maxHeartbeats 8000000
set_option maxRecDepth 100000
theorem days_Of.calls (k:Nat) (a0_0 a0_1 a0_2 r1 r2:Int) (w:World) (h:days_Of.f k a0_0 a0_1 a0_2=some (r1,r2)) (hG:Gl w) :
  Calls Tryz.prog 121 #[.agg #[.int .i64 a0_0,.int .i64 a0_1,.int .i64 a0_2]] w fun e w'=>e=.returned (.tuple #[.int .i64 r1,.int .i64 r2])∧Below w.heap.size w w':=by
 have HG:=sd hG;clear hG;have hu112:=Tryz.underlying112;have HB:=sd (Below.refl w.heap.size w);have H:=h;clear h;unfold days_Of.f at H;have HC2:=sd H;clear H;go_enter Tryz.func121,Tryz.ntmps121
 go_upto_region 1 with (first | ((with_reducible refine gate_dst (N:=1) rfl ?_);refine bxA 1 #[.int .i64 a0_0,.int .i64 a0_1,.int .i64 a0_2] 112 ?_;intro gb236 hg w3 hbox hb;have BK236:=sd (hbox);have GW236:=gem hg HB;have GE236:=GW236;replace HB:=hbm HB hb;clear hb hbox hg))
 repeat (go_quiet (first | ((with_reducible refine gate_dst (N:=1) rfl ?_);refine bxA 1 #[.int .i64 a0_0,.int .i64 a0_1,.int .i64 a0_2] 112 ?_;intro gb236 hg w3 hbox hb;have BK236:=sd (hbox);have GW236:=gem hg HB;have GE236:=GW236;replace HB:=hbm HB hb;clear hb hbox hg));go_upto_region 1 with (first | ((with_reducible refine gate_dst (N:=1) rfl ?_);refine bxA 1 #[.int .i64 a0_0,.int .i64 a0_1,.int .i64 a0_2] 112 ?_;intro gb236 hg w3 hbox hb;have BK236:=sd (hbox);have GW236:=gem hg HB;have GE236:=GW236;replace HB:=hbm HB hb;clear hb hbox hg)))
 (try simp only [Act.put,List.setIfInBounds_toArray,List.set_cons_zero,List.set_cons_succ])
 go_cut [27] (fun v27 wc=>∃ (kq:Nat) (x27_1:Bool),v27=.bool x27_1∧Aside0 (days_Of.j0 kq x27_1 a0_0 a0_1 a0_2=some (r1,r2))∧Aside0 (kq≤k)∧Aside0 (wc.heap[gb236]?=some (.cells #[.int .i64 a0_0,.int .i64 a0_1,.int .i64 a0_2] 112 (0,0)))∧Aside0 (Below w.heap.size w wc))
 case first =>
  have H:=HC2.out;clear HC2;replace H:=ifI H;rcases H with ⟨c4,H⟩ | ⟨c4,H⟩
  ·have c4b0:decide (a0_0 < 1900)=true:=decide_eq_true c4;clear c4;(first | rw [c4b0] | (simp only [i64_w,i32_w];rw [c4b0]) | skip)
   have H':=sd H;clear H;obtain ⟨_,_,_,_,_,_⟩:=bk3 BK236;go_wp2
   repeat (go_quiet (fail);try go_wp2)
   go_meet
   case rel=>exact ⟨_,(true),zq7,H',⟨by first | omega | exact Nat.le_refl _⟩,⟨zq20⟩,⟨zq21⟩⟩
  have c4b0:decide (a0_0 < 1900)=false:=decide_eq_false c4;clear c4;(first | rw [c4b0] | (simp only [i64_w,i32_w];rw [c4b0]) | skip)
  replace H:=ifI H;rcases H with ⟨c6,H⟩ | ⟨c6,H⟩
  ·have c6b0:decide (2199 < a0_0)=true:=decide_eq_true c6;clear c6;have H':=sd H;clear H;obtain ⟨_,_,_,_,_,_⟩:=bk3 BK236;go_wp2
   repeat (go_quiet (fail);try go_wp2)
   go_meet
   case rel=>exact ⟨_,(true),zq7,H',⟨by first | omega | exact Nat.le_refl _⟩,⟨zq20⟩,⟨zq21⟩⟩
  have c6b0:decide (2199 < a0_0)=false:=decide_eq_false c6;clear c6;replace H:=ifI H;rcases H with ⟨c8,H⟩ | ⟨c8,H⟩
  ·have c8b0:decide (a0_2 < 1)=true:=decide_eq_true c8;clear c8;have H':=sd H;clear H;obtain ⟨_,_,_,_,_,_⟩:=bk3 BK236;go_wp2
   repeat (go_quiet (fail);try go_wp2)
   go_meet
   case rel=>exact ⟨_,(true),zq7,H',⟨by first | omega | exact Nat.le_refl _⟩,⟨zq20⟩,⟨zq21⟩⟩
  have c8b0:decide (a0_2 < 1)=false:=decide_eq_false c8;clear c8;replace H:=bdI H;obtain ⟨t237,A10,H⟩:=H;(try dsimp only at H)
  have H':=sd H;clear H;obtain ⟨_,_,_,_,_,_⟩:=bk3 BK236;go_wp2_with (first | (go_at_call 134;(with_reducible refine (days_Length.calls a0_0 a0_1 t237 _ A10.out (gl_below HG.out zq22)).mono ?_);rintro e w' ⟨rfl,⟨nd,rfl⟩⟩;(try first | exact ⟨rfl,_,World.drewN_drewN _ _ _⟩ | exact ⟨rfl,_,Eq.trans (World.drewN_drewN _ _ _) (congrArg (World.drewN _) (Nat.add_assoc _ _ _))⟩)))
  repeat (go_quiet (first | (go_at_call 134;(with_reducible refine (days_Length.calls a0_0 a0_1 t237 _ A10.out (gl_below HG.out zq22)).mono ?_);rintro e w' ⟨rfl,⟨nd,rfl⟩⟩;(try first | exact ⟨rfl,_,World.drewN_drewN _ _ _⟩ | exact ⟨rfl,_,Eq.trans (World.drewN_drewN _ _ _) (congrArg (World.drewN _) (Nat.add_assoc _ _ _))⟩)));try go_wp2_with (first | (go_at_call 134;(with_reducible refine (days_Length.calls a0_0 a0_1 t237 _ A10.out (gl_below HG.out zq22)).mono ?_);rintro e w' ⟨rfl,⟨nd,rfl⟩⟩;(try first | exact ⟨rfl,_,World.drewN_drewN _ _ _⟩ | exact ⟨rfl,_,Eq.trans (World.drewN_drewN _ _ _) (congrArg (World.drewN _) (Nat.add_assoc _ _ _))⟩))))
  go_meet
  case rel=>exact ⟨_,(decide (a0_2 > t237)),zq7,H',⟨by first | omega | exact Nat.le_refl _⟩,⟨zq20⟩,⟨zq21⟩⟩
 case rest =>
  clear HC2;try clear c1
  try clear p2
  try clear c4
  try clear c4b0
  try clear c6
  try clear c6b0
  try clear c8
  try clear c8b0
  try clear hcz11_0
  try clear hcz11_1
  try clear hcz11_2
  try clear hcz5_0
  try clear hcz5_1
  try clear hcz5_2
  try clear hcz7_0
  try clear hcz7_1
  try clear hcz7_2
  try clear hcz9_0
  try clear hcz9_1
  try clear hcz9_2
  try clear hfz11_0
  try clear hfz11_1
  try clear hfz11_2
  try clear hfz5_0
  try clear hfz5_1
  try clear hfz5_2
  try clear hfz7_0
  try clear hfz7_1
  try clear hfz7_2
  try clear hfz9_0
  try clear hfz9_1
  try clear hfz9_2
  obtain ⟨kq,x27_1,rfl,HA,HJ1,BK236,HB⟩:=hcut
  cases kq with
  | zero=>exact absurd HA.out (by simp [days_Of.j0])
  | succ kj1 =>
   have H:=HA.out;clear HA;simp only [days_Of.j0] at H
   by_cases c12:x27_1=true
   ·subst c12;rw [if_pos rfl] at H;simp only [Option.some.injEq,Prod.mk.injEq] at H
    obtain ⟨rfl,rfl⟩:=H;go_wp2
    repeat (go_quiet (fail);try go_wp2)
    go_ret2
    exact ⟨zq4,zq21⟩
   replace c12:=Bool.eq_false_iff.mpr c12;subst c12;rw [if_neg Bool.false_ne_true] at H;replace H:=bdI H;obtain ⟨t238,A13,H⟩:=H;(try dsimp only at H)
   have H':=sd H;clear H;obtain ⟨_,_,_,_,_,_⟩:=bk3 BK236;go_wp2_with (first | (go_at_call 133;(with_reducible refine (days_before.calls a0_0 t238 _ A13.out).mono ?_);rintro e w' ⟨rfl,⟨nd,rfl⟩⟩;(try first | exact ⟨rfl,_,World.drewN_drewN _ _ _⟩ | exact ⟨rfl,_,Eq.trans (World.drewN_drewN _ _ _) (congrArg (World.drewN _) (Nat.add_assoc _ _ _))⟩)))
   repeat (go_quiet (first | (go_at_call 133;(with_reducible refine (days_before.calls a0_0 t238 _ A13.out).mono ?_);rintro e w' ⟨rfl,⟨nd,rfl⟩⟩;(try first | exact ⟨rfl,_,World.drewN_drewN _ _ _⟩ | exact ⟨rfl,_,Eq.trans (World.drewN_drewN _ _ _) (congrArg (World.drewN _) (Nat.add_assoc _ _ _))⟩)));try go_wp2_with (first | (go_at_call 133;(with_reducible refine (days_before.calls a0_0 t238 _ A13.out).mono ?_);rintro e w' ⟨rfl,⟨nd,rfl⟩⟩;(try first | exact ⟨rfl,_,World.drewN_drewN _ _ _⟩ | exact ⟨rfl,_,Eq.trans (World.drewN_drewN _ _ _) (congrArg (World.drewN _) (Nat.add_assoc _ _ _))⟩))))
   go_loopg [2,4] kj1 (fun kq v2 v4 w'=>∃ (x2_2:Int) (x4_2:Int),v2=.int .i64 x2_2∧v4=.int .i64 x4_2∧Aside0 (days_Of.l0 kq x2_2 x4_2 a0_0 a0_1 a0_2=some (r1,r2))∧Aside0 (kq≤kj1)∧Aside0 (w'.heap[gb236]?=some (.cells #[.int .i64 a0_0,.int .i64 a0_1,.int .i64 a0_2] 112 (0,0)))∧Aside0 (Below w.heap.size w w'))
   case atStart=>exact ⟨(wrap64 ((wrap64 (t238+a0_2)) - 1)),(1),zq7,zq7,H',⟨Nat.le_refl _⟩,⟨zq20⟩,⟨zq21⟩⟩
   case round =>
    clear H';try clear c1
    try clear p2
    try clear c4
    try clear c4b0
    try clear c6
    try clear c6b0
    try clear p6
    try clear c8
    try clear c8b0
    try clear c12
    try clear hcz11_0
    try clear hcz11_1
    try clear hcz11_2
    try clear hcz14_0
    try clear hcz14_1
    try clear hcz14_2
    try clear hcz5_0
    try clear hcz5_1
    try clear hcz5_2
    try clear hcz7_0
    try clear hcz7_1
    try clear hcz7_2
    try clear hcz9_0
    try clear hcz9_1
    try clear hcz9_2
    try clear hfz11_0
    try clear hfz11_1
    try clear hfz11_2
    try clear hfz14_0
    try clear hfz14_1
    try clear hfz14_2
    try clear hfz5_0
    try clear hfz5_1
    try clear hfz5_2
    try clear hfz7_0
    try clear hfz7_1
    try clear hfz7_2
    try clear hfz9_0
    try clear hfz9_1
    try clear hfz9_2
    try clear p2
    obtain ⟨x2_2,x4_2,rfl,rfl,HA,HK2,BK236,HB⟩:=hrel
    cases gk with
    | zero=>exact absurd HA.out (by simp [days_Of.l0])
    | succ k2 =>
     have H:=HA.out;clear HA;simp only [days_Of.l0] at H
     replace H:=ifI H;rcases H with ⟨c15,H⟩ | ⟨c15,H⟩
     ·have c15b0:decide (x4_2 < a0_1)=true:=decide_eq_true c15;clear c15;replace H:=bdI H;obtain ⟨t239,A16,H⟩:=H;(try dsimp only at H)
      have H':=sd H;clear H;obtain ⟨_,_,_,_,_,_⟩:=bk3 BK236;go_wp2_with (first | (go_at_call 134;(with_reducible refine (days_Length.calls a0_0 x4_2 t239 _ A16.out (gl_below HG.out zq22)).mono ?_);rintro e w' ⟨rfl,⟨nd,rfl⟩⟩;(try first | exact ⟨rfl,_,World.drewN_drewN _ _ _⟩ | exact ⟨rfl,_,Eq.trans (World.drewN_drewN _ _ _) (congrArg (World.drewN _) (Nat.add_assoc _ _ _))⟩)))
      repeat (go_quiet (first | (go_at_call 134;(with_reducible refine (days_Length.calls a0_0 x4_2 t239 _ A16.out (gl_below HG.out zq22)).mono ?_);rintro e w' ⟨rfl,⟨nd,rfl⟩⟩;(try first | exact ⟨rfl,_,World.drewN_drewN _ _ _⟩ | exact ⟨rfl,_,Eq.trans (World.drewN_drewN _ _ _) (congrArg (World.drewN _) (Nat.add_assoc _ _ _))⟩)));try go_wp2_with (first | (go_at_call 134;(with_reducible refine (days_Length.calls a0_0 x4_2 t239 _ A16.out (gl_below HG.out zq22)).mono ?_);rintro e w' ⟨rfl,⟨nd,rfl⟩⟩;(try first | exact ⟨rfl,_,World.drewN_drewN _ _ _⟩ | exact ⟨rfl,_,Eq.trans (World.drewN_drewN _ _ _) (congrArg (World.drewN _) (Nat.add_assoc _ _ _))⟩))))
      go_roundg k2
      case measure=>have:=HJ1.out;have:=HK2.out;omega
      case rel=>exact ⟨(wrap64 (x2_2+t239)),(wrap64 (x4_2+1)),zq7,zq7,H',⟨zq23⟩,⟨zq20⟩,⟨zq21⟩⟩
     have c15b0:decide (x4_2 < a0_1)=false:=decide_eq_false c15;clear c15;simp only [Option.some.injEq,Prod.mk.injEq] at H
     obtain ⟨rfl,rfl⟩:=H;obtain ⟨_,_,_,_,_,_⟩:=bk3 BK236;go_wp2
     repeat (go_quiet (fail);try go_wp2)
     go_ret2
     exact ⟨zq4,zq21⟩
end Go.Proofs.YtkbgkekegjfkfaaGreatDoor.A
