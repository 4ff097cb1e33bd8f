-- By pack.py, a program of this session's.
import Derived.Test.YtkbgkekegjfkfaaGreatDoorZ19
import Derived.Test.YtkbgkekegjfkfaaGreatDoorZ21
import Derived.Test.YtkbgkekegjfkfaaGreatDoorZ22
import Derived.Test.YtkbgkekegjfkfaaGreatDoorZ23
import Derived.Test.YtkbgkekegjfkfaaGreatDoorZ24
set_option linter.unusedVariables false
set_option linter.unusedSimpArgs false
namespace Go.Proofs.YtkbgkekegjfkfaaGreatDoor
namespace A
open Go.RowKit B WW WL WM
attribute [local go_sem] max2_int min2_int max_two min_two max_three min_three max_four min_four
set_option maxHeartbeats 8000000
set_option maxRecDepth 100000
theorem tail_all (k bd g:Nat) (p:PR) (vC vT vW:Value) (x:S73) (code:Bool) (p':PR) (r:Int) (w:World) (hp:RP w bd g p vC vT vW) (hbd:bd≤w.heap.size) (h5:5≤p.st) (h:moveR k p x code=some (p',r)) :
    Calls Tryz.prog 115 #[.pointer (some ⟨g,0,none⟩),.agg #[.int .i64 x.f0,.string x.f1,.int .i64 x.f2],.bool code] w (StepPost bd g vC vT vW p' r w):=by
  unfold moveR at h;rw [if_neg (by omega),if_neg (by omega),if_neg (by omega),if_neg (by omega),if_neg (by omega)] at h;split at h
  · rename_i e
    split at h
    · rename_i c
      obtain ⟨rfl,rfl⟩:=Prod.mk.inj (Option.some.inj h);exact tail_5 bd g p vC vT vW x code w hp hbd e c.1 c.2
    · cases h
  split at h
  · rename_i e;obtain ⟨rfl,rfl⟩:=Prod.mk.inj (Option.some.inj h);exact tail_6 bd g p vC vT vW x code w hp hbd e
  split at h
  · rename_i e;obtain ⟨rfl,rfl⟩:=Prod.mk.inj (Option.some.inj h);exact tail_7 bd g p vC vT vW x code w hp hbd e
  split at h
  · rename_i e;obtain ⟨rfl,rfl⟩:=Prod.mk.inj (Option.some.inj h);exact tail_8 bd g p vC vT vW x code w hp hbd e
  split at h
  · rename_i e;obtain ⟨rfl,rfl⟩:=Prod.mk.inj (Option.some.inj h);exact tail_9 bd g p vC vT vW x code w hp hbd e
  split at h
  · rename_i e
    split at h
    · rename_i c;obtain ⟨rfl,rfl⟩:=Prod.mk.inj (Option.some.inj h);exact tail_10 bd g p vC vT vW x code w hp hbd e c
    · cases h
  split at h
  · rename_i e;obtain ⟨rfl,rfl⟩:=Prod.mk.inj (Option.some.inj h);exact tail_11 bd g p vC vT vW x code w hp hbd e
  split at h
  · rename_i e
    split at h
    · rename_i c;obtain ⟨rfl,rfl⟩:=Prod.mk.inj (Option.some.inj h);exact tail_12 bd g p vC vT vW x code w hp hbd e c
    · cases h
  split at h
  · rename_i e;obtain ⟨rfl,rfl⟩:=Prod.mk.inj (Option.some.inj h);exact tail_13 bd g p vC vT vW x code w hp hbd e
  · cases h
theorem head_all (k bd g:Nat) (p:PR) (vC vT vW:Value) (x:S73) (code:Bool) (p':PR) (r:Int) (w:World) (hp:RP w bd g p vC vT vW) (hbd:bd≤w.heap.size) (hG:Gl w) (h:moveR k p x code=some (p',r)) :
    Calls Tryz.prog 81 #[.pointer (some ⟨g,0,none⟩),.agg #[.int .i64 x.f0,.string x.f1,.int .i64 x.f2],.bool code] w (StepPost bd g vC vT vW p' r w):=by
  rcases Int.lt_or_le p.st 5 with h5|h5
  · unfold moveR at h
    by_cases e:p.st=0
    · rw [if_pos e] at h;obtain ⟨rfl,rfl⟩:=Prod.mk.inj (Option.some.inj h);exact head_0 bd g p vC vT vW x code w hp hbd e
    rw [if_neg e] at h;by_cases e:p.st=1
    · rw [if_pos e] at h;obtain ⟨rfl,rfl⟩:=Prod.mk.inj (Option.some.inj h);exact head_1 bd g p vC vT vW x code w hp hbd e
    rw [if_neg e] at h;by_cases e:p.st=2
    · rw [if_pos e] at h;obtain ⟨rfl,rfl⟩:=Prod.mk.inj (Option.some.inj h);exact head_2 bd g p vC vT vW x code w hp hbd e
    rw [if_neg e] at h;by_cases e:p.st=3
    · rw [if_pos e] at h
      by_cases c:p.cs.length≤1000000
      · rw [if_pos c] at h;obtain ⟨rfl,rfl⟩:=Prod.mk.inj (Option.some.inj h);exact head_3 bd g p vC vT vW x code w hp hbd e hG c
      rw [if_neg c] at h;cases h
    rw [if_neg e] at h;by_cases e:p.st=4
    · rw [if_pos e] at h
      by_cases c:0 < p.cs.length
      · rw [if_pos c] at h
        obtain ⟨b,hb,h⟩:=Option.bind_eq_some_iff.mp h;obtain ⟨rfl,rfl⟩:=Prod.mk.inj (Option.some.inj h);exact head_4 bd g p vC vT vW x code w hp hbd e hG c k b hb
      rw [if_neg c] at h;cases h
    rw [if_neg e,if_neg (by omega),if_neg (by omega),if_neg (by omega),if_neg (by omega),if_neg (by omega),if_neg (by omega),if_neg (by omega),if_neg (by omega),if_neg (by omega)] at h
    cases h
  · exact head_t bd g p vC vT vW x code p' r w hp hbd h5 (fun W hW hb=>tail_all k bd g p vC vT vW x code p' r W hW hb h5 h)
theorem read_calls (k bd g:Nat) (p:PR) (vC vT vW:Value) (x:S73) (p':PR) (r:Int) (w:World) (hp:RP w bd g p vC vT vW) (hbd:bd≤w.heap.size) (hG:Gl w) (h:moveR k p x (codeX x)=some (p',r)) :
    Calls Tryz.prog 40 #[.pointer (some ⟨g,0,none⟩),.agg #[.int .i64 x.f0,.string x.f1,.int .i64 x.f2]] w (ReadPost bd g vC vT vW p' r w):=by
  have HP:=sd hp;have HF:=sd (FP.refl bd g vC vT vW w);have HG:=sd hG;have HH:=sd h;clear hp hG h;generalize hQ:ReadPost bd g vC vT vW p' r w=Post;have HQ:=sd hQ;clear hQ;go_enter Tryz.func40,Tryz.ntmps40
  go_upto_region 1 with (fail)
  have hB1:=below_alloc (Below.refl w.heap.size w) (Obj.cells #[Value.int IntKind.i64 x.f0,Value.string x.f1,Value.int IntKind.i64 x.f2] 73);have b0:(w.alloc (Obj.cells #[Value.int IntKind.i64 x.f0,Value.string x.f1,Value.int IntKind.i64 x.f2] 73)).heap[w.heap.size]?=some (.cells #[Value.int IntKind.i64 x.f0,Value.string x.f1,Value.int IntKind.i64 x.f2] 73 (0,0)):=blk_new _ _;replace HP:=sd (HP.out.below hB1);replace HF:=sd (HF.out.below hB1 hbd);replace HG:=sd (gl_below HG.out hB1);generalize w.alloc (Obj.cells #[Value.int IntKind.i64 x.f0,Value.string x.f1,Value.int IntKind.i64 x.f2] 73)=w1 at *;obtain ⟨gw,hgw⟩:∃ gw,gw=w.heap.size:=⟨_,rfl⟩
  rw [← hgw] at b0 ⊢;have BW:=sd b0;clear b0 hB1 hgw;obtain ⟨w0_,w1_,w2_,_,_,_⟩:=bk3 BW;by_cases e1:x.f0=1
  · obtain ⟨q1,q1_⟩:=eqI e1
    have hcx:codeX x=true:=decide_eq_true (Or.inl e1);rw [hcx] at HH;clear hcx e1;go_wp2_with fail
    refine (head_all k bd g p vC vT vW x _ p' r w1 HP.out (below_base HF.out.b hbd) HG.out HH.out).mono ?_;rintro e wn ⟨rfl,⟨vC',vT',vW',hp2⟩,hf2⟩;replace HF:=sd (HF.out.trans hf2);have HP2:=sd hp2;clear hf2 hp2 w0_ w1_ w2_;obtain ⟨⟨k0,k1,k2,k3,k4,k5,k6⟩,f0,f1,f2,f3,f4,f5,f6⟩:=HP2.out.facts;go_wp2_with fail
    rw [← HQ.out];exact ⟨by (try rfl),⟨_,_,_,HP2.out.set 5 (.int .i64 r) { p' with st:=r } rfl rfl rfl rfl⟩,FP.set (o:=5) HF.out HP2.out.hbd (.int .i64 r)⟩
  obtain ⟨q1,q1_⟩:=neI e1;by_cases e2:x.f0=2
  · obtain ⟨q2,q2_⟩:=eqI e2
    have hcx:codeX x=true:=decide_eq_true (Or.inr e2);rw [hcx] at HH;clear hcx e1 e2;go_wp2_with fail
    refine (head_all k bd g p vC vT vW x _ p' r w1 HP.out (below_base HF.out.b hbd) HG.out HH.out).mono ?_;rintro e wn ⟨rfl,⟨vC',vT',vW',hp2⟩,hf2⟩;replace HF:=sd (HF.out.trans hf2);have HP2:=sd hp2;clear hf2 hp2 w0_ w1_ w2_;obtain ⟨⟨k0,k1,k2,k3,k4,k5,k6⟩,f0,f1,f2,f3,f4,f5,f6⟩:=HP2.out.facts;go_wp2_with fail
    rw [← HQ.out];exact ⟨by (try rfl),⟨_,_,_,HP2.out.set 5 (.int .i64 r) { p' with st:=r } rfl rfl rfl rfl⟩,FP.set (o:=5) HF.out HP2.out.hbd (.int .i64 r)⟩
  obtain ⟨q2,q2_⟩:=neI e2;have hcx:codeX x=false:=decide_eq_false (fun h=>h.elim e1 e2);rw [hcx] at HH;clear hcx e1 e2;go_wp2_with fail
  refine (head_all k bd g p vC vT vW x _ p' r w1 HP.out (below_base HF.out.b hbd) HG.out HH.out).mono ?_;rintro e wn ⟨rfl,⟨vC',vT',vW',hp2⟩,hf2⟩;replace HF:=sd (HF.out.trans hf2);have HP2:=sd hp2;clear hf2 hp2 w0_ w1_ w2_;obtain ⟨⟨k0,k1,k2,k3,k4,k5,k6⟩,f0,f1,f2,f3,f4,f5,f6⟩:=HP2.out.facts;go_wp2_with fail
  rw [← HQ.out];exact ⟨by (try rfl),⟨_,_,_,HP2.out.set 5 (.int .i64 r) { p' with st:=r } rfl rfl rfl rfl⟩,FP.set (o:=5) HF.out HP2.out.hbd (.int .i64 r)⟩
def rules_Parse.f (k:Nat) (s:ByteArray):Option RRes :=
  (words_Cut.f k s).bind fun c=>if c.2.2=0 then (parL k c.1 pr0).bind fun y =>
    if y.2.2=0 then (if y.1.st=8∨y.1.st=13 then (if 0 < y.1.cs.length∧y.1.ws.length≤1000000 then (valL k y.1.ws 0 y.1.cs).bind fun v =>
      if v.2.2=0 then (rules_Check.f k y.1.nm v.1 y.1.acc y.1.par y.1.tg).bind fun e=>if e=0 then some (y.1.nm,v.1,y.1.acc,y.1.par,y.1.tg,0,0) else some (noR 0 e) else some (noR v.2.1 v.2.2) else none)
    else some (noR (s.size:Int) 27)) else some (noR y.2.1 y.2.2) else some (noR c.2.1 c.2.2)
theorem lw48_example.calls  (r1:ByteArray) (r2:List (S48)) (r3:ByteArray) (r4:ByteArray) (r5:List (S50)) (w:World) (h:lw48_example.f =some (r1,r2,r3,r4,r5)) :
  Calls Tryz.prog 27 #[] w fun e w'=>∃ v1_ v4_:Value,e=.returned (.agg #[.string r1,v1_,.string r3,.string r4,v4_])∧Kd.R k48 48 w' w.heap.size (fun _=>True) v1_ r2∧Kd.R k50 50 w' w.heap.size (fun _=>True) v4_ r5∧Below w.heap.size w w':=by
 have hu25:=Tryz.underlying25;have hu48:=Tryz.underlying48;have hu50:=Tryz.underlying50;have HB:=sd (Below.refl w.heap.size w);have H:=h;clear h;unfold lw48_example.f at H;obtain ⟨y251,hy251⟩:∃ y_:List (S48),y_=(([(⟨1,3,(⟨#[]⟩:ByteArray),(-100)⟩:S48),(⟨3,4,(⟨#[114,101,110,116]⟩:ByteArray),0⟩:S48)]:List (S48))):=⟨_,rfl⟩
 replace H:(some ((⟨#[114,101,110,116]⟩:ByteArray),y251,(⟨#[53,49]⟩:ByteArray),(⟨#[112]⟩:ByteArray),(([(⟨(⟨#[100,101,112,116]⟩:ByteArray),(⟨#[120]⟩:ByteArray)⟩:S50)]:List (S50)))))=some (r1,r2,r3,r4,r5):=by first|(rw [hy251];with_reducible exact H)|(have H2_:=(Option.bind_some _ _).symm.trans H;rw [hy251];with_reducible exact H2_)|(have H2_:=(Option.bind_some _ _).symm.trans H;with_reducible exact H2_)|with_reducible exact H|(rw [hy251];exact H)|exact H
 have Ny251:=sd hy251;clear hy251;obtain ⟨y254,hy254⟩:∃ y_:List (S50),y_=(([(⟨(⟨#[100,101,112,116]⟩:ByteArray),(⟨#[120]⟩:ByteArray)⟩:S50)]:List (S50))):=⟨_,rfl⟩
 replace H:(some ((⟨#[114,101,110,116]⟩:ByteArray),y251,(⟨#[53,49]⟩:ByteArray),(⟨#[112]⟩:ByteArray),y254))=some (r1,r2,r3,r4,r5):=by first|(rw [hy254];with_reducible exact H)|(have H2_:=(Option.bind_some _ _).symm.trans H;rw [hy254];with_reducible exact H2_)|(have H2_:=(Option.bind_some _ _).symm.trans H;with_reducible exact H2_)|with_reducible exact H|(rw [hy254];exact H)|exact H
 have Ny254:=sd hy254;clear hy254;simp only [Option.some.injEq,Prod.mk.injEq] at H
 obtain ⟨rfl,rfl,rfl,rfl,rfl⟩:=H;go_enter Tryz.func27,Tryz.ntmps27
 go_wp2_with (first|((with_reducible refine gate_dst (N:=0) rfl ?_);refine bxA 0 #[.string (⟨#[]⟩:ByteArray),.slice none 0 0,.string (⟨#[]⟩:ByteArray),.string (⟨#[]⟩:ByteArray),.slice none 0 0] 25 ?_;intro gb250 hg w1 hbox hb;have BK250:=sd (hbox);have GW250:=gem hg HB;have GE250:=GW250;replace HB:=hbm HB hb;clear hb hbox hg)|((with_reducible refine gate_dst (N:=3) rfl ?_);refine Kd.R_lit k48 _ 48 ?hg (N:=3) ?hd (xs:=([(⟨1,3,(⟨#[]⟩:ByteArray),(-100)⟩:S48),(⟨3,4,(⟨#[114,101,110,116]⟩:ByteArray),0⟩:S48)]:List (S48))) (inner:=[.int .i64 1,.int .i64 3,.string (⟨#[]⟩:ByteArray),.int .i64 (-100),.int .i64 3,.int .i64 4,.string (⟨#[114,101,110,116]⟩:ByteArray),.int .i64 0]) (ok:=fun _=>True) (okp:=fun _=>True) ?hr ?hp (fun _ hk=>hk) trivial (Below.refl _ _) (Nat.le_refl _) (by simp) ?_;(case hd=>rfl);(case hg=>rfl);(case hr=>first|(go_simp;done)|(go_simp;rfl));(case hp=>exact (Reps.c4 (show Kd.M k48 _ _ _ (⟨1,3,(⟨#[]⟩:ByteArray),(-100)⟩:S48) [.int .i64 1,.int .i64 3,.string (⟨#[]⟩:ByteArray),.int .i64 (-100)] from (k48_mkM _ _ _ (⟨1,3,(⟨#[]⟩:ByteArray),(-100)⟩:S48) )) (Reps.c4 (show Kd.M k48 _ _ _ (⟨3,4,(⟨#[114,101,110,116]⟩:ByteArray),0⟩:S48) [.int .i64 3,.int .i64 4,.string (⟨#[114,101,110,116]⟩:ByteArray),.int .i64 0] from (k48_mkM _ _ _ (⟨3,4,(⟨#[114,101,110,116]⟩:ByteArray),0⟩:S48) )) (Reps.none _ _))));intro v252 w2 ho3 hb hg_ hnew_;clear hg_ hnew_;(first|rw [← Ny251.out] at ho3|(simp only [Int.reduceToNat] at ho3;rw [← Ny251.out] at ho3));have HO253:=sd (Kd.R_lower ho3 (below_size zq29));replace BK250:=bkm BK250 hb;replace HB:=hbm HB hb;clear hb ho3)|((with_reducible refine gate_dst (N:=5) rfl ?_);refine Kd.R_lit k50 _ 50 ?hg (N:=5) ?hd (xs:=([(⟨(⟨#[100,101,112,116]⟩:ByteArray),(⟨#[120]⟩:ByteArray)⟩:S50)]:List (S50))) (inner:=[.string (⟨#[100,101,112,116]⟩:ByteArray),.string (⟨#[120]⟩:ByteArray)]) (ok:=fun _=>True) (okp:=fun _=>True) ?hr ?hp (fun _ hk=>hk) trivial (Below.refl _ _) (Nat.le_refl _) (by simp) ?_;(case hd=>rfl);(case hg=>rfl);(case hr=>first|(go_simp;done)|(go_simp;rfl));(case hp=>exact (Reps.c2 (show Kd.M k50 _ _ _ (⟨(⟨#[100,101,112,116]⟩:ByteArray),(⟨#[120]⟩:ByteArray)⟩:S50) [.string (⟨#[100,101,112,116]⟩:ByteArray),.string (⟨#[120]⟩:ByteArray)] from (k50_mkM _ _ _ (⟨(⟨#[100,101,112,116]⟩:ByteArray),(⟨#[120]⟩:ByteArray)⟩:S50) )) (Reps.none _ _)));intro v255 w4 ho5 hb hg_ hnew_;clear hg_ hnew_;(first|rw [← Ny254.out] at ho5|(simp only [Int.reduceToNat] at ho5;rw [← Ny254.out] at ho5));have HO256:=sd (Kd.R_lower ho5 (below_size zq29));replace HO253:=rbm HO253 hb;replace BK250:=bkm BK250 hb;replace HB:=hbm HB hb;clear hb ho5;obtain ⟨Ao6,co6,eo6⟩:=Kd.R_slice HO256.out;subst eo6;obtain ⟨Ao7,co7,eo7⟩:=Kd.R_slice HO253.out;subst eo7;obtain ⟨_,_,_,_,_,_,_,_,_,_⟩:=bk5 BK250))
 refine bodyPost_ret (results_cell_row rfl _ _ gb250 25 #[.string (⟨#[114,101,110,116]⟩:ByteArray),.slice Ao7 y251.length co7,.string (⟨#[53,49]⟩:ByteArray),.string (⟨#[112]⟩:ByteArray),.slice Ao6 y254.length co6] (0,0) _ rfl (by (with_reducible repeat (first|refine blk_drewN ?_ _|refine blk_drew ?_|refine blk_alloc ?_ _));refine blk_put (cs:=#[.string (⟨#[114,101,110,116]⟩:ByteArray),.slice Ao7 y251.length co7,.string (⟨#[53,49]⟩:ByteArray),.string (⟨#[112]⟩:ByteArray),.slice none 0 0]) ?_ 4 _ rfl;(with_reducible repeat (first|refine blk_drewN ?_ _|refine blk_drew ?_|refine blk_alloc ?_ _));refine blk_put (cs:=#[.string (⟨#[114,101,110,116]⟩:ByteArray),.slice Ao7 y251.length co7,.string (⟨#[53,49]⟩:ByteArray),.string (⟨#[]⟩:ByteArray),.slice none 0 0]) ?_ 3 _ rfl;(with_reducible repeat (first|refine blk_drewN ?_ _|refine blk_drew ?_|refine blk_alloc ?_ _));refine blk_put (cs:=#[.string (⟨#[114,101,110,116]⟩:ByteArray),.slice Ao7 y251.length co7,.string (⟨#[]⟩:ByteArray),.string (⟨#[]⟩:ByteArray),.slice none 0 0]) ?_ 2 _ rfl;(with_reducible repeat (first|refine blk_drewN ?_ _|refine blk_drew ?_|refine blk_alloc ?_ _));refine blk_put (cs:=#[.string (⟨#[114,101,110,116]⟩:ByteArray),.slice none 0 0,.string (⟨#[]⟩:ByteArray),.string (⟨#[]⟩:ByteArray),.slice none 0 0]) ?_ 1 _ rfl;(with_reducible repeat (first|refine blk_drewN ?_ _|refine blk_drew ?_|refine blk_alloc ?_ _));refine blk_put (cs:=#[.string (⟨#[]⟩:ByteArray),.slice none 0 0,.string (⟨#[]⟩:ByteArray),.string (⟨#[]⟩:ByteArray),.slice none 0 0]) ?_ 0 _ rfl;(with_reducible repeat (first|refine blk_drewN ?_ _|refine blk_drew ?_|refine blk_alloc ?_ _));exact BK250.out) Tryz.underlying25 rfl (by kernel_rfl)) rfl ?_;exact ⟨_,_,zq4,by (with_reducible repeat (first|apply Kd.R_alloc|apply Kd.R_drewN|apply Kd.R_drew));exact Kd.R_mono (Kd.R_far (p:=⟨gb250,4,none⟩) (Kd.R_far (p:=⟨gb250,3,none⟩) (Kd.R_far (p:=⟨gb250,2,none⟩) (Kd.R_far (p:=⟨gb250,1,none⟩) (Kd.R_far (p:=⟨gb250,0,none⟩) (Kd.R_types HO253.out BK250.out (by decide)) (fun _ hk=>hk.2) (.string (⟨#[114,101,110,116]⟩:ByteArray))) (fun _ hk=>hk.2) (.slice Ao7 y251.length co7)) (fun _ hk=>hk.2) (.string (⟨#[53,49]⟩:ByteArray))) (fun _ hk=>hk.2) (.string (⟨#[112]⟩:ByteArray))) (fun _ hk=>hk.2) (.slice Ao6 y254.length co6)) (fun _ hk=>trivial),by (with_reducible repeat (first|apply Kd.R_alloc|apply Kd.R_drewN|apply Kd.R_drew));exact Kd.R_mono (Kd.R_far (p:=⟨gb250,4,none⟩) (Kd.R_far (p:=⟨gb250,3,none⟩) (Kd.R_far (p:=⟨gb250,2,none⟩) (Kd.R_far (p:=⟨gb250,1,none⟩) (Kd.R_far (p:=⟨gb250,0,none⟩) (Kd.R_types HO256.out BK250.out (by decide)) (fun _ hk=>hk.2) (.string (⟨#[114,101,110,116]⟩:ByteArray))) (fun _ hk=>hk.2) (.slice Ao7 y251.length co7)) (fun _ hk=>hk.2) (.string (⟨#[53,49]⟩:ByteArray))) (fun _ hk=>hk.2) (.string (⟨#[112]⟩:ByteArray))) (fun _ hk=>hk.2) (.slice Ao6 y254.length co6)) (fun _ hk=>trivial),zq29⟩
def rf48_Parse.f (k:Nat) (s:ByteArray):Option RRes :=
 (rf06_Cut.f k s).bind fun c=>if c.2.2=0 then (rf48_Reader_rule.f k c.1 0 false).bind fun r=>if r.2.2.2.2.2.2.2=true then r48_fail s c.1 r.2.2.2.2.2.2.1
  else if r.2.2.2.2.2.1.length≤1000000 then (r48_vals k r.2.2.2.2.2.1 r.2.1).bind fun v=>r48_end k r.1 r.2.2.1 r.2.2.2.1 r.2.2.2.2.1 v else none else some (noR c.2.1 c.2.2)
def lw48_RulesParses.f (k:Nat) (a0:ByteArray):Option (Bool):=if (a0.size:Int) > 500 then (some true) else ((rules_Parse.f k a0).bind fun bt486=>((rf48_Parse.f k a0).bind fun bt498=>((rf48_Same.f k bt486.1 bt486.2.1 bt486.2.2.1 bt486.2.2.2.1 bt486.2.2.2.2.1 bt498.1 bt498.2.1 bt498.2.2.1 bt498.2.2.2.1 bt498.2.2.2.2.1).bind fun t510=>(if t510=true then (if bt486.2.2.2.2.2.1=bt498.2.2.2.2.2.1 then (if bt486.2.2.2.2.2.2=bt498.2.2.2.2.2.2 then ((lw48_lives.f).bind fun t511=>(some t511)) else (some false)) else (some false)) else (some false)))))
end A
namespace A
open Go.RowKit B WW WL WM
theorem isWdB_eq (c:UInt8):isWdB c=(isLet c || isDig c):=by
  have h:∀ n:Nat,n < 256→isWdB (UInt8.ofNat n)=(isLet (UInt8.ofNat n) || isDig (UInt8.ofNat n)):=by decide +kernel
  have:=h c.toNat c.toNat_lt;rwa [UInt8.ofNat_toNat] at this
theorem rules_counts_eq (f:Int):rules_counts.f f=some (numB f):=by
  unfold rules_counts.f numB;by_cases h:f=1
  · rw [if_pos h,decide_eq_true (Or.inl h)]
  · rw [if_neg h];congr 1;rw [Bool.eq_iff_iff,beq_iff_eq,decide_eq_true_iff];omega
theorem r48_number_eq (f:Int):rf48_number.f f=some (numB f):=rules_counts_eq f
theorem suits_at (f o:Int):Ev (fun k=>rules_suits.f k f o) (suitB f o):=by
  have j:∀ b:Bool,(b=true ↔ ¬ (1≤f∧f≤4))→Ev (fun k=>rules_suits.j0 k f o b) (suitB f o):=fun b hb=>by
    refine Ev.step (fun k=>by rw [rules_suits.j0]) ?_;unfold suitB;refine Ev.both (fun h=>Ev.is ?_) (fun h=>Ev.both (fun a=>Ev.is ?_) (fun a=>?_))
    · have:=hb.mp h;exact (decide_eq_false (by omega)).symm
    · have:1≤f∧f≤4:=Decidable.byContradiction fun x=>h (hb.mpr x)
      exact (decide_eq_true (by omega)).symm
    have h4:1≤f∧f≤4:=Decidable.byContradiction fun x=>h (hb.mpr x)
    rw [rules_counts_eq];simp only [Option.bind_some]
    unfold numB;refine Ev.both (fun c=>?_) (fun c=>?_)
    · rw [decide_eq_true_iff] at c
      refine Ev.both (fun d=>Ev.is ?_) (fun d=>Ev.is ?_)
      · exact (decide_eq_true (by omega)).symm
      · rw [Bool.eq_iff_iff,beq_iff_eq,decide_eq_true_iff];omega
    · rw [decide_eq_true_iff] at c
      refine Ev.both (fun d=>Ev.is ?_) (fun d=>Ev.is ?_)
      · exact (decide_eq_true (by omega)).symm
      · rw [Bool.eq_iff_iff,beq_iff_eq,decide_eq_true_iff];omega
  unfold rules_suits.f;refine Ev.both (fun a=>j _ ⟨fun _=>by omega,fun _=>rfl⟩) (fun a=>j _ ?_);rw [decide_eq_true_iff];omega
theorem isWd_or {c:UInt8} (h:isWdB c=true):isLet c=true∨isDig c=true:=by
  rw [isWdB_eq,Bool.or_eq_true] at h;exact h
theorem name_app (w r:List UInt8) (hw:w.all isWdB=true) (h:Brk r):nameN (w++r)=w.length:=by
  induction w with
 |nil=>exact name_brk h
 |cons c w ih =>
    rw [List.all_cons,Bool.and_eq_true] at hw;show nameN (c :: (w++r))=_
    rw [nameN,if_pos (isWd_or hw.1),ih hw.2];rfl
theorem num_wd (w r:List UInt8) (hw:w.all isWdB=true):numN (w++r)=w.length+numN r:=by
  induction w with
 |nil=>rw [List.nil_append,List.length_nil,Nat.zero_add]
 |cons c w ih =>
    rw [List.all_cons,Bool.and_eq_true] at hw;show numN (c :: (w++r))=_
    have hc:=isWd_or hw.1;have e:isPt c=false:=isLet_pt hc;rw [numN,if_neg (by rw [e];decide),if_pos hc,ih hw.2,List.length_cons];omega
theorem IsW.name {c:UInt8} {w:List UInt8} (hc:isLet c=true) (hw:w.all isWdB=true) (hl:w.length≤11):IsW (c :: w) 1 (c :: w):=by
  have hx:c.toNat≠35∧c.toNat≠32:=by
    unfold isLet at hc;simp only [Bool.or_eq_true,Bool.and_eq_true,decide_eq_true_iff] at hc
    omega
  refine ⟨by simp,fun a r h=>(by obtain ⟨rfl,rfl⟩:=List.cons.inj h;exact hx),fun r i hr=>⟨0,?_⟩⟩;show wordS (c :: (w++r)) i=_
  have e:nameN (c :: (w++r))=w.length+1:=by rw [nameN,if_pos (Or.inl hc),name_app w r hw hr]
  rw [wordS_cons,if_pos hc,e,gS,if_neg (by omega),if_neg (by omega)];rw [show (c :: (w++r)).take (w.length+1)=c :: w from by rw [List.take_succ_cons,List.take_left]];rfl
theorem IsW.code {l:List UInt8} (h:codeW l=true):IsW l (codeK l) l:=by
  unfold codeW at h;simp only [Bool.and_eq_true,decide_eq_true_iff] at h
  cases l with
 |nil=>exact absurd h.1 (by decide)
 |cons c w =>
    obtain ⟨h1,h2,h3⟩:=h;rw [List.all_cons,Bool.and_eq_true] at h3;rw [List.length_cons] at h2;unfold codeK;by_cases e:isLet c=true
    · show IsW _ (if isLet c=true then 1 else 2) _
      rw [if_pos e];exact IsW.name e h3.2 (by omega)
    · show IsW _ (if isLet c=true then 1 else 2) _
      rw [if_neg e];have d:isDig c=true:=(isWd_or h3.1).resolve_left e;refine IsW.num (Or.inl d) ?_ (by omega);have:=num_wd w [] h3.2;rw [List.append_nil] at this;exact this
theorem IsW.kw {c:UInt8} {w:List UInt8} (h:(isLet c && w.all isWdB && decide (w.length≤11))=true):IsW (c :: w) 1 (c :: w):=by
  simp only [Bool.and_eq_true,decide_eq_true_iff] at h
  exact IsW.name h.1.1 h.1.2 h.2
theorem IsW.kF (f:Int):IsW (A.kF f) 1 (A.kF f):=by
  unfold A.kF;split
  · exact IsW.kw (by decide)
  split
  · exact IsW.kw (by decide)
  split
  · exact IsW.kw (by decide)
  · exact IsW.kw (by decide)
theorem IsW.kO (f:Int):IsW (A.kO f) 1 (A.kO f):=by
  unfold A.kO;split
  · exact IsW.kw (by decide)
  split
  · exact IsW.kw (by decide)
  split
  · exact IsW.kw (by decide)
  split
  · exact IsW.kw (by decide)
  · exact IsW.kw (by decide)
theorem op_step {L:List S73} {i j f:Int} {n:Int} {w:ByteArray} {b:Bool} {v:QC} (hn:1≤n∧n≤5) (hf:rf48_operator.f n=some w) (hw:rf48_Reader_is.f L i false w=some (b,j,false)) (hj:b=false→j=i)
    (ht:b=true→opOk f n=true→tailQ L j f n=some v) (hf':¬ (b=true∧opOk f n=true)→Ev (fun k=>rf48_Reader_cond.l1 k (n+1) L i false f 0 ⟨#[]⟩ 0 0 ⟨#[]⟩ 0) v) :
    Ev (fun k=>rf48_Reader_cond.l1 k n L i false f 0 ⟨#[]⟩ 0 0 ⟨#[]⟩ 0) v:=by
  refine Ev.step (fun k=>by rw [rf48_Reader_cond.l1]) (Ev.yes hn.2 ?_);refine Ev.step (fun k=>by rw [rf48_Reader_cond.j3,hf,r48_number_eq,Option.bind_some,Option.bind_some,hw,Option.bind_some,w_in (x:=n+1) (by omega)]) ?_;refine Ev.yes rfl ?_
  have go:opOk f n=true→Ev (fun k=>if b=true then rf48_Reader_cond.l1 k (n+1) L j false f n ⟨#[]⟩ 0 0 ⟨#[]⟩ 0 else rf48_Reader_cond.l1 k (n+1) L j false f 0 ⟨#[]⟩ 0 0 ⟨#[]⟩ 0) v:=fun ok=>by
    cases b with
   |true=>exact Ev.yes rfl (op_done (by omega) (ht rfl ok) _)
   |false=>rw [hj rfl];exact Ev.no (by decide) (hf' (fun q=>by cases q.1))
  refine Ev.both (fun n1=>?_) (fun n1=>Ev.both (fun e=>?_) (fun e=>?_))
  · exact go (by unfold opOk;rw [decide_eq_true_iff];exact Or.inl n1)
  · refine go ?_
    rw [beq_iff_eq] at e;unfold numB at e;rw [decide_eq_decide] at e;unfold opOk;rw [decide_eq_true_iff];omega
  · refine hf' (fun q=>e ?_)
    have:=q.2;unfold opOk at this;rw [decide_eq_true_iff] at this;rw [beq_iff_eq];unfold numB;rw [decide_eq_decide];omega
def fB (n:Int):ByteArray:=oL (kF n)
def oB (n:Int):ByteArray:=oL (kO n)
theorem fld_at {n:Int} (h:1≤n∧n≤4):rf48_field.f n=some (fB n):=r48_field_at h
theorem opr_at {n:Int} (h:1≤n∧n≤5):rf48_operator.f n=some (oB n):=r48_oper_at h
def fldN (x:S73):Int:=if keyB x (fB 1)=true then 1 else if keyB x (fB 2)=true then 2 else if keyB x (fB 3)=true then 3 else if keyB x (fB 4)=true then 4 else 0
def oprN (f:Int) (x:S73):Int:=if keyB x (oB 1)=true∧opOk f 1=true then 1 else if keyB x (oB 2)=true∧opOk f 2=true then 2 else if keyB x (oB 3)=true∧opOk f 3=true then 3 else if keyB x (oB 4)=true∧opOk f 4=true then 4 else if keyB x (oB 5)=true∧opOk f 5=true then 5 else 0
theorem fldN_eq (x:S73):fldN x=if x.f0=1 then numS fieldL x.f1 0 else 0:=by
  unfold fldN;simp only [keyB_iff]
  by_cases a:x.f0=1
  · have e:∀ w:ByteArray,(x.f1.toList=w.toList)=(w.toList=x.f1.toList):=fun w=>propext eq_comm
    simp only [a,true_and,if_true,e]
    rfl
  · simp only [a,false_and,if_false]
theorem fields_ev {L:List S73} {i:Nat} {x:S73} {r:List S73} (h:L.drop i=x :: r) (hi:i≤1000) {v:QC}
    (h0:fldN x=0→v=(0,0,⟨#[]⟩,0,0,⟨#[]⟩,0,(i:Int),true)) (h1:¬ fldN x=0→Ev (fun k=>rf48_Reader_cond.l1 k 1 L ((i+1:Nat):Int) false (fldN x) 0 ⟨#[]⟩ 0 0 ⟨#[]⟩ 0) v) :
    Ev (fun k=>rf48_Reader_cond.f k L (i:Int) false) v:=by
  unfold rf48_Reader_cond.f
  have st:∀ (n:Int),1≤n∧n≤4→(keyB x (fB n)=true→fldN x=n)→(¬ keyB x (fB n)=true→Ev (fun k=>rf48_Reader_cond.l0 k (n+1) L (i:Int) false 0 0 ⟨#[]⟩ 0 0 ⟨#[]⟩ 0) v)→Ev (fun k=>rf48_Reader_cond.l0 k n L (i:Int) false 0 0 ⟨#[]⟩ 0 0 ⟨#[]⟩ 0) v:=fun n hn e g=>by
    refine fld_step hn (fld_at hn) (is_at h (by omega) _) (fun t=>?_) (fun t=>?_)
    · rw [if_pos t]
      have q:=e t;rw [q] at h1;exact h1 (by omega)
    · rw [t,if_neg (by decide)]
      exact g (by rw [t];decide)
  unfold fldN at st h0;refine st 1 (by decide) (fun a=>by rw [if_pos a]) (fun a1=>?_);refine st 2 (by decide) (fun a=>by rw [if_neg a1,if_pos a]) (fun a2=>?_);refine st 3 (by decide) (fun a=>by rw [if_neg a1,if_neg a2,if_pos a]) (fun a3=>?_);refine st 4 (by decide) (fun a=>by rw [if_neg a1,if_neg a2,if_neg a3,if_pos a]) (fun a4=>?_);rw [h0 (by rw [if_neg a1,if_neg a2,if_neg a3,if_neg a4])];exact fld_none L _
theorem fields_end {L:List S73} {i:Nat} (h:L.drop i=[]):Ev (fun k=>rf48_Reader_cond.f k L (i:Int) false) ((0,0,⟨#[]⟩,0,0,⟨#[]⟩,0,(i:Int),true):QC):=by
  unfold rf48_Reader_cond.f
  have st:∀ (n:Int),1≤n∧n≤4→∀ v:QC,Ev (fun k=>rf48_Reader_cond.l0 k (n+1) L (i:Int) false 0 0 ⟨#[]⟩ 0 0 ⟨#[]⟩ 0) v→Ev (fun k=>rf48_Reader_cond.l0 k n L (i:Int) false 0 0 ⟨#[]⟩ 0 0 ⟨#[]⟩ 0) v:=fun n hn v g =>
    fld_step hn (fld_at hn) (is_end h _) (fun t=>by cases t) (fun _=>g)
  exact st 1 (by decide) _ (st 2 (by decide) _ (st 3 (by decide) _ (st 4 (by decide) _ (fld_none L _))))
theorem oper_ev {L:List S73} {i:Nat} {x:S73} {r:List S73} {f:Int} (h:L.drop i=x :: r) (hi:i≤1000) {v:QC}
    (h0:oprN f x=0→v=(f,0,⟨#[]⟩,0,0,⟨#[]⟩,0,(i:Int),true)) (h1:¬ oprN f x=0→tailQ L ((i+1:Nat):Int) f (oprN f x)=some v) :
    Ev (fun k=>rf48_Reader_cond.l1 k 1 L (i:Int) false f 0 ⟨#[]⟩ 0 0 ⟨#[]⟩ 0) v:=by
  have st:∀ (n:Int),1≤n∧n≤5→(keyB x (oB n)=true∧opOk f n=true→oprN f x=n)→(¬ (keyB x (oB n)=true∧opOk f n=true)→Ev (fun k=>rf48_Reader_cond.l1 k (n+1) L (i:Int) false f 0 ⟨#[]⟩ 0 0 ⟨#[]⟩ 0) v)→Ev (fun k=>rf48_Reader_cond.l1 k n L (i:Int) false f 0 ⟨#[]⟩ 0 0 ⟨#[]⟩ 0) v:=fun n hn e g=>by
    refine op_step hn (opr_at hn) (is_at h (by omega) _) (fun t=>by rw [t,if_neg (by decide)]) (fun t ok=>?_) g;rw [if_pos t];have q:=e ⟨t,ok⟩;rw [q] at h1;exact h1 (by omega)
  unfold oprN at st h0;refine st 1 (by decide) (fun a=>by rw [if_pos a]) (fun a1=>?_);refine st 2 (by decide) (fun a=>by rw [if_neg a1,if_pos a]) (fun a2=>?_);refine st 3 (by decide) (fun a=>by rw [if_neg a1,if_neg a2,if_pos a]) (fun a3=>?_);refine st 4 (by decide) (fun a=>by rw [if_neg a1,if_neg a2,if_neg a3,if_pos a]) (fun a4=>?_);refine st 5 (by decide) (fun a=>by rw [if_neg a1,if_neg a2,if_neg a3,if_neg a4,if_pos a]) (fun a5=>?_);rw [h0 (by rw [if_neg a1,if_neg a2,if_neg a3,if_neg a4,if_neg a5])];exact op_none L _ f
theorem oper_end {L:List S73} {i:Nat} (f:Int) (h:L.drop i=[]):Ev (fun k=>rf48_Reader_cond.l1 k 1 L (i:Int) false f 0 ⟨#[]⟩ 0 0 ⟨#[]⟩ 0) ((f,0,⟨#[]⟩,0,0,⟨#[]⟩,0,(i:Int),true):QC):=by
  have st:∀ (n:Int),1≤n∧n≤5→∀ v:QC,Ev (fun k=>rf48_Reader_cond.l1 k (n+1) L (i:Int) false f 0 ⟨#[]⟩ 0 0 ⟨#[]⟩ 0) v→Ev (fun k=>rf48_Reader_cond.l1 k n L (i:Int) false f 0 ⟨#[]⟩ 0 0 ⟨#[]⟩ 0) v:=fun n hn v g =>
    op_step hn (opr_at hn) (is_end h _) (fun _=>rfl) (fun t _=>by cases t) (fun _=>g)
  exact st 1 (by decide) _ (st 2 (by decide) _ (st 3 (by decide) _ (st 4 (by decide) _ (st 5 (by decide) _ (op_none L _ f)))))
theorem oprN_eq {f:Int} (hf:1≤f∧f≤4) (x:S73):oprN f x=if x.f0=1∧suitB f (numS opL x.f1 0)=true then numS opL x.f1 0 else 0:=by
  have e:∀ w:ByteArray,(x.f1.toList=w.toList)=(w.toList=x.f1.toList):=fun w=>propext eq_comm
  have hn:numS opL x.f1 0=if (oB 1).toList=x.f1.toList then 1 else if (oB 2).toList=x.f1.toList then 2 else if (oB 3).toList=x.f1.toList then 3 else if (oB 4).toList=x.f1.toList then 4 else if (oB 5).toList=x.f1.toList then 5 else 0:=rfl
  have ne:∀ a b:Int,¬ kO a=kO b→∀ z:List UInt8,(oB a).toList=z→¬ (oB b).toList=z:=fun a b h z h1 h2=>by
    rw [← h1] at h2;unfold oB at h2;rw [oL_toList,oL_toList] at h2;exact h h2.symm
  have so:∀ o,suitB f o=opOk f o:=fun o=>by
    unfold suitB opOk;rw [decide_eq_decide];omega
  unfold oprN;rw [so];simp only [keyB_iff,e,hn]
  generalize hz:x.f1.toList=z;by_cases a:x.f0=1
  · by_cases c1:(oB 1).toList=z
    · have n2:=ne 1 2 (by decide) z c1
      have n3:=ne 1 3 (by decide) z c1;have n4:=ne 1 4 (by decide) z c1;have n5:=ne 1 5 (by decide) z c1;simp only [a,c1,n2,n3,n4,n5,if_true,if_false,true_and,and_true,and_false,false_and]
    by_cases c2:(oB 2).toList=z
    · have n3:=ne 2 3 (by decide) z c2
      have n4:=ne 2 4 (by decide) z c2;have n5:=ne 2 5 (by decide) z c2;simp only [a,c1,c2,n3,n4,n5,if_true,if_false,true_and,and_true,and_false,false_and]
    by_cases c3:(oB 3).toList=z
    · have n4:=ne 3 4 (by decide) z c3
      have n5:=ne 3 5 (by decide) z c3;simp only [a,c1,c2,c3,n4,n5,if_true,if_false,true_and,and_true,and_false,false_and]
    by_cases c4:(oB 4).toList=z
    · have n5:=ne 4 5 (by decide) z c4
      simp only [a,c1,c2,c3,c4,n5,if_true,if_false,true_and,and_true,and_false,false_and]
    by_cases c5:(oB 5).toList=z
    · simp only [a,c1,c2,c3,c4,c5,if_true,if_false,true_and,and_true,and_false,false_and]
    · simp only [a,c1,c2,c3,c4,c5,if_false,true_and,and_true,and_false,false_and,ite_self]
  · simp only [a,false_and,if_false]
end A
namespace A
open Go.RowKit B WW WL WM
section
variable (k:Nat) (nm:ByteArray) (cs:List S48) (acc par:ByteArray) (tg:List S50) (ws:List S73) (x:S73) (code:Bool)
theorem mv0:moveR k ⟨nm,cs,acc,par,tg,0,ws⟩ x code=some (⟨nm,cs,acc,par,tg,0,ws⟩,fol (keyB x (oL ruleL)) 1):=rfl
theorem mv1:moveR k ⟨nm,cs,acc,par,tg,1,ws⟩ x code=some (⟨x.f1,cs,acc,par,tg,1,ws⟩,fol code 2):=rfl
theorem mv2:moveR k ⟨nm,cs,acc,par,tg,2,ws⟩ x code=some (⟨nm,cs,acc,par,tg,2,ws⟩,fol (keyB x (oL [105,102])) 3):=rfl
theorem mv3:moveR k ⟨nm,cs,acc,par,tg,3,ws⟩ x code=if cs.length≤1000000 then some (⟨nm,cs++[⟨numS fieldL x.f1 0,0,⟨#[]⟩,0⟩],acc,par,tg,3,ws⟩,fol (decide (x.f0=1∧numS fieldL x.f1 0 > 0)) 4) else none:=rfl
theorem mv4:moveR k ⟨nm,cs,acc,par,tg,4,ws⟩ x code=if 0 < cs.length then (rules_suits.f k (rd_T48 cs ((cs.length - 1:Nat):Int)).f0 (numS opL x.f1 0)).bind fun b=>some (⟨nm,cs.set (cs.length - 1) { rd_T48 cs ((cs.length - 1:Nat):Int) with f1:=numS opL x.f1 0 },acc,par,tg,4,ws⟩,fol (decide (x.f0=1) && b) 5) else none:=rfl
theorem mv5:moveR k ⟨nm,cs,acc,par,tg,5,ws⟩ x code=if ws.length≤1000000∧0 < cs.length then some (⟨nm,cs,acc,par,tg,5,ws++[x]⟩,if (rd_T48 cs ((cs.length - 1:Nat):Int)).f0=1∨(rd_T48 cs ((cs.length - 1:Nat):Int)).f0=4 then fol (decide (x.f0=2)) 6 else fol (decide (x.f0=3)) 6) else none:=rfl
theorem mv6:moveR k ⟨nm,cs,acc,par,tg,6,ws⟩ x code=some (⟨nm,cs,acc,par,tg,6,ws⟩,if keyB x (oL [97,110,100])=true then 3 else fol (keyB x (oL [116,104,101,110])) 7):=rfl
theorem mv7:moveR k ⟨nm,cs,acc,par,tg,7,ws⟩ x code=some (⟨nm,cs,x.f1,par,tg,7,ws⟩,fol code 8):=rfl
theorem mv8:moveR k ⟨nm,cs,acc,par,tg,8,ws⟩ x code=some (⟨nm,cs,acc,par,tg,8,ws⟩,if keyB x (oL [112,97,114,116,121])=true then 9 else fol (keyB x (oL [116,97,103])) 10):=rfl
theorem mv9:moveR k ⟨nm,cs,acc,par,tg,9,ws⟩ x code=some (⟨nm,cs,acc,x.f1,tg,9,ws⟩,fol code 13):=rfl
theorem mv10:moveR k ⟨nm,cs,acc,par,tg,10,ws⟩ x code=if tg.length≤1000000 then some (⟨nm,cs,acc,par,tg++[⟨x.f1,⟨#[]⟩⟩],10,ws⟩,fol code 11) else none:=rfl
theorem mv11:moveR k ⟨nm,cs,acc,par,tg,11,ws⟩ x code=some (⟨nm,cs,acc,par,tg,11,ws⟩,fol (decide (x.f0=4) && (x.f1.toList == ([61]:List UInt8))) 12):=rfl
theorem mv12:moveR k ⟨nm,cs,acc,par,tg,12,ws⟩ x code=if 0 < tg.length then some (⟨nm,cs,acc,par,tg.set (tg.length - 1) { rd_T50 tg ((tg.length - 1:Nat):Int) with f1:=x.f1 },12,ws⟩,fol code 13) else none:=rfl
theorem mv13:moveR k ⟨nm,cs,acc,par,tg,13,ws⟩ x code=some (⟨nm,cs,acc,par,tg,13,ws⟩,fol (keyB x (oL [116,97,103])) 10):=rfl
end
end A
namespace A
open Go.RowKit B WW WL WM
theorem ref01_Digits_l0 (s:ByteArray) (hs:s.size≤140737488351232) (d:Nat):∀ i:Nat,i+d=s.size→Ev (fun k=>rf01_Digits.l0 k s (i:Int)) ((s.data.toList.drop i).all isDig && s.data.toList != []):=by
  induction d with
 |zero =>
    intro i hi;refine Ev.step (fun k=>by rw [rf01_Digits.l0]) ?_;refine Ev.no (by omega) (Ev.is ?_);rw [List.drop_eq_nil_of_le (by rw [← size_eq'];omega),ByteArray.toList_eq];rfl
 |succ d ih =>
    intro i hi;have hl:i < s.data.toList.length:=by rw [← size_eq'];omega
    have hd:s.data.toList.drop i=s.data.toList[i] :: s.data.toList.drop (i+1):=List.drop_eq_getElem_cons hl;have hb:bt s (i:Int)=(s.data.toList[i].toNat:Int):=by rw [bt_eq,Int.toNat_natCast,List.getD_eq_getElem?_getD,List.getElem?_eq_getElem hl];rfl
    have hc:=isDig_iff s.data.toList[i];rw [← hb] at hc;refine Ev.step (fun k=>by rw [rf01_Digits.l0]) ?_;refine Ev.yes (by omega) (Ev.yes (by omega) (Ev.both (fun h=>Ev.is ?_) (fun h=>Ev.both (fun h2=>Ev.is ?_) (fun h2=>?_))))
    · rw [hd,List.all_cons]
      have:isDig s.data.toList[i]=false:=by rw [← Bool.not_eq_true,hc];omega
      rw [this];rfl
    · rw [hd,List.all_cons]
      have:isDig s.data.toList[i]=false:=by rw [← Bool.not_eq_true,hc];omega
      rw [this];rfl
    · rw [hd,List.all_cons,hc.mpr ⟨by omega,by omega⟩,Bool.true_and,show wrap64 ((i:Int)+1)=((i+1:Nat):Int) by unfold wrap64;omega]
      exact ih (i+1) (by omega)
theorem ref01_Digits (s:ByteArray) (hs:s.size≤140737488351232):Ev (fun k=>rf01_Digits.f k s) (s.data.toList.all isDig && s.data.toList != []) :=
  ref01_Digits_l0 s hs s.size 0 (by omega)
theorem ref01_Parse_j1 (lo hi:Int) (m:ByteArray) (hs:m.size≤140737488351232) (neg:Bool) :
    Ev (fun k=>rf01_Parse.j1 k lo hi m neg) (if formedM m.data.toList neg=true then (if I64 (sgn neg (dval m.data.toList))∧lo≤sgn neg (dval m.data.toList)∧sgn neg (dval m.data.toList)≤hi then (sgn neg (dval m.data.toList),0) else (0,3)) else (0,5)):=by
  have hj2:∀ t:Bool,(m.data.toList.all isDig=true∨t=true)→Ev (fun k=>rf01_Parse.j2 k lo hi m neg t) (if t=true then (0,5) else (if I64 (sgn neg (dval m.data.toList))∧lo≤sgn neg (dval m.data.toList)∧sgn neg (dval m.data.toList)≤hi then (sgn neg (dval m.data.toList),0) else (0,3))):=by
    intro t ht;refine Ev.step (fun k=>by rw [rf01_Parse.j2]) ?_
    cases t
    · refine Ev.no (by decide) ?_
      exact ref01_Parse_l0 lo hi m hs neg (by simpa using ht) m.size 0 0 (by omega) (by unfold I64;omega) (by cases neg <;> rfl)
    · exact Ev.yes rfl (Ev.now _)
  have hsz:=size_eq' m;refine Ev.step (fun k=>by rw [rf01_Parse.j1]) ?_;refine Ev.bind (ref01_Digits m hs) ?_;have hb:bt m 0=((m.data.toList.getD 0 0).toNat:Int):=bt_eq m 0
  cases hl:m.data.toList with
 |nil =>
    rw [hl] at hj2;exact Ev.no (by simp) (hj2 true (.inr rfl))
 |cons c r =>
    rw [hl] at hj2 hsz hb;rw [List.length_cons] at hsz;have hne:((c :: r) != ([]:List UInt8))=true:=rfl;rw [hne,Bool.and_true];have ef:formedM (c :: r) neg=(!(c == 48 && (neg || decide (1 < (c :: r).length))) && (c :: r).all isDig):=by simp [formedM]
    rw [ef];have h48:bt m 0=48 ↔ (c == 48)=true:=by rw [hb,beq_iff_eq];exact byte_is c 48
    refine Ev.both (fun h=>?_) (fun h=>?_)
    · rw [h,Bool.and_true]
      refine Ev.yes (by omega) (Ev.both (fun h0=>?_) (fun h0=>?_))
      · rw [h48.mp h0]
        refine Ev.both (fun h1=>?_) (fun h1=>?_)
        · have:=hj2 true (.inr rfl)
          rw [show decide (1 < (c :: r).length)=true by rw [decide_eq_true_iff,List.length_cons];omega];simpa using this
        · have:=hj2 neg (.inl h)
          rw [show decide (1 < (c :: r).length)=false by rw [decide_eq_false_iff_not,List.length_cons];omega]
          cases neg <;> simpa using this
      · have:=hj2 false (.inl h)
        rw [Bool.not_eq_true _ |>.mp (fun hh=>h0 (h48.mpr hh))];simpa using this
    · have:=hj2 true (.inr rfl)
      rw [Bool.not_eq_true _ |>.mp h];simpa using this
theorem ref01_Parse (s:ByteArray) (lo hi:Int) (hs:s.size≤140737488351232):Ev (fun k=>rf01_Parse.f k s lo hi) (parseL s.data.toList lo hi):=by
  have hx:=Lib.extract_to_end s 1;have hsz:=size_eq' s;have hxs:(s.extract 1 s.size).size≤140737488351232:=by rw [size_eq',hx,List.length_drop];omega
  have key:Ev (fun k=>rf01_Parse.j0 k s lo hi s (negOf s.data.toList)) (parseL s.data.toList lo hi):=by
    refine Ev.step (fun k=>by rw [rf01_Parse.j0]) ?_;refine Ev.both (fun h=>?_) (fun h=>?_)
    · have hp:1≤s.size:=by
        rw [hsz];cases hl:s.data.toList with
       |nil=>rw [hl] at h;simp [negOf] at h
       |cons c r=>simp
      refine Ev.yes (by omega) ?_;have:=ref01_Parse_j1 lo hi (s.extract 1 s.size) hxs (negOf s.data.toList);rw [hx] at this;have hm:magOf s.data.toList=s.data.toList.drop 1:=by simp [magOf,h]
      rw [parseL_eq,hm];exact this
    · have:=ref01_Parse_j1 lo hi s hs (negOf s.data.toList)
      have hm:magOf s.data.toList=s.data.toList:=by simp [magOf,h]
      rw [parseL_eq,hm];exact this
  unfold rf01_Parse.f;rw [ByteArray.toList_eq]
  cases hl:s.data.toList with
 |nil =>
    refine Ev.yes rfl ?_;rw [hl] at key;exact key
 |cons c r =>
    refine Ev.no (by simp) (Ev.yes (by rw [hsz,hl,List.length_cons];omega) ?_);have hb:bt s 0=(c.toNat:Int):=by rw [bt_eq,hl];rfl
    have e:(bt s 0 == 45)=negOf (c :: r):=by
      rw [hb];simp only [negOf,List.head?_cons]
      rw [Bool.eq_iff_iff,beq_iff_eq,beq_iff_eq,Option.some_inj];exact byte_is c 45
    rw [hl] at key;rw [e];exact key
theorem days_before_eq (j:Nat) (h:j≤300):days_before.f ((1900+j:Nat):Int)=some (befN j):=by
  unfold days_before.f befN;have w (n:Int) (a:-1000000 < n) (b:n < 1000000):wrap64 n=n:=by unfold wrap64;omega
  rw [show wrap64 (((1900+j:Nat):Int) - 1900)=(j:Int) by rw [w _ (by omega) (by omega)];omega,show wrap64 (((1900+j:Nat):Int) - 1)=((1899+j:Nat):Int) by rw [w _ (by omega) (by omega)];omega];rw [show Int.tdiv ((1899+j:Nat):Int) 4=(((1899+j) / 4:Nat):Int) from rfl,show Int.tdiv ((1899+j:Nat):Int) 100=(((1899+j) / 100:Nat):Int) from rfl,show Int.tdiv ((1899+j:Nat):Int) 400=(((1899+j) / 400:Nat):Int) from rfl];have x4:(1899+j) / 4≤600:=by omega
  have x1:(1899+j) / 100≤600:=by omega
  have x2:(1899+j) / 400≤600:=by omega
  generalize (1899+j) / 4=a at *;generalize (1899+j) / 100=b at *;generalize (1899+j) / 400=c at *;rw [w (a:Int) (by omega) (by omega),w (b:Int) (by omega) (by omega),w (c:Int) (by omega) (by omega),w (365 * (j:Int)) (by omega) (by omega)];rw [w ((a:Int) - b) (by omega) (by omega),w ((a:Int) - b+c) (by omega) (by omega),w ((a:Int) - b+c - 474) (by omega) (by omega),w ((a:Int) - b+c - 474+18) (by omega) (by omega),w ((a:Int) - b+c - 474+18 - 4) (by omega) (by omega),w _ (by omega) (by omega)];congr 1
  omega
theorem days_Of_ev (K:Nat) (q:Int) (hK:K < 3600) (h1:1≤q) (h2:q≤lenK K):Ev (fun k=>days_Of.f k ((1900+K / 12:Nat):Int) ((K % 12+1:Nat):Int) q) (first K+(q - 1),0):=by
  have hm:K % 12 < 12:=Nat.mod_lt _ (by omega);have hl:=lenK_in K;unfold days_Of.f;refine Ev.no (by omega) (Ev.no (by omega) (Ev.no (by omega) ?_));rw [days_Length_eq _ _ hm];have hd:decide (q > lenYM (K / 12) (K % 12))=false:=decide_eq_false (by have:lenK K=lenYM (K / 12) (K % 12):=rfl;omega);show Ev (fun k=>days_Of.j0 k (decide (q > lenYM (K / 12) (K % 12))) _ _ _) _
  rw [hd];refine Ev.step (fun k=>by rw [days_Of.j0]) (Ev.no (by decide) ?_);rw [days_before_eq _ (by omega),befN_first];have h0:=first_nonneg (12 * (K / 12));have h3:=first_at (show 12 * (K / 12)≤3600 by omega);show Ev (fun k=>days_Of.l0 k (wrap64 (wrap64 (first (12 * (K / 12))+q) - 1)) 1 _ _ _) _
  rw [show wrap64 (wrap64 (first (12 * (K / 12))+q) - 1)=first (12 * (K / 12)+0)+(q - 1) by show _=first (12 * (K / 12))+(q - 1);unfold wrap64;omega];have h:=days_Of_loop (K / 12) (K % 12) (q - 1) q (by omega) hm (by omega) (by omega) (K % 12) 0 (by omega);rw [show 12 * (K / 12)+K % 12=K by omega] at h;exact h
end A
namespace A
open Go.RowKit B WW WL WM
theorem days_Of_any (y m q:Nat):Ev (fun k=>days_Of.f k (y:Int) (m:Int) (q:Int)) (ofS y m q):=by
  have bad:∀ b,b=true→Ev (fun k=>days_Of.j0 k b (y:Int) (m:Int) (q:Int)) ((0:Int),(11:Int)):=fun b hb=>Ev.step (fun k=>by rw [days_Of.j0]) (Ev.yes hb (Ev.is rfl))
  unfold ofS;by_cases c:1900≤y∧y≤2199∧1≤q∧(q:Int)≤ymS y m
  · rw [if_pos c]
    have hm:1≤m∧m≤12:=by
      obtain ⟨_,_,c3,c4⟩:=c;unfold ymS at c4;by_cases h:1≤m∧m≤12
      · exact h
      · rw [if_neg h] at c4;omega
    have e:(12 * (y - 1900)+(m - 1)) / 12=y - 1900∧(12 * (y - 1900)+(m - 1)) % 12=m - 1:=⟨by omega,by omega⟩
    have:=days_Of_ev (12 * (y - 1900)+(m - 1)) (q:Int) (by omega) (by omega) (by
      unfold lenK;rw [e.1,e.2];have:=c.2.2.2;unfold ymS at this;rw [if_pos hm] at this;exact this)
    rw [e.1,e.2,show 1900+(y - 1900)=y by omega,show m - 1+1=m by omega] at this;exact this
  · rw [if_neg c]
    unfold days_Of.f;refine Ev.both (fun _=>bad _ rfl) (fun h1=>Ev.both (fun _=>bad _ rfl) (fun h2=>Ev.both (fun _=>bad _ rfl) (fun h3=>?_)));rw [days_Length_any y m (by omega)];simp only [Option.bind_some]
    exact bad _ (decide_eq_true (by omega))
theorem r1digits_part (l:List UInt8) (hl:l.length≤10) (hn:l≠[]):Ev (fun k=>rf01_Digits.f k (oL l)) (l.all isDig):=by
  have:=ref01_Digits (oL l) (by rw [oL_size];omega);rw [show (oL l).data.toList=l from rfl,show (l != [])=true from bne_iff_ne.mpr hn,Bool.and_true] at this;exact this
end A

end Go.Proofs.YtkbgkekegjfkfaaGreatDoor