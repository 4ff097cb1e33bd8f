-- By pack.py, a program of this session's.
import Derived.Test.YtkbgkekegjfkfaaGreatDoorX8
import Derived.Test.YtkbgkekegjfkfaaGreatDoorX17
import Derived.Test.YtkbgkekegjfkfaaGreatDoorX18
import Derived.Test.YtkbgkekegjfkfaaGreatDoorX19
set_option linter.unusedVariables false
set_option linter.unusedSimpArgs false
namespace Go.Proofs.YtkbgkekegjfkfaaGreatDoor.A
open Go.RowKit B WW WL WM
attribute [local go_sem] max2_int min2_int max_two min_two max_three min_three max_four min_four
set_option maxHeartbeats 8000000
set_option maxRecDepth 100000
theorem tail_all (k bd g:Nat) (p:PR) (vC vT vW:Value) (x:S73) (code:Bool) (p':PR) (r:Int) (w:World) (hp:RP w bd g p vC vT vW) (hbd:bd≤w.heap.size) (h5:5≤p.st) (h:moveR k p x code=some (p',r)) :
    Calls Tryz.prog 115 #[.pointer (some ⟨g,0,none⟩),.agg #[.int .i64 x.f0,.string x.f1,.int .i64 x.f2],.bool code] w (StepPost bd g vC vT vW p' r w):=by
  unfold moveR at h;rw [if_neg (by omega),if_neg (by omega),if_neg (by omega),if_neg (by omega),if_neg (by omega)] at h;split at h
  · rename_i e
    split at h
    · rename_i c
      obtain ⟨rfl,rfl⟩:=Prod.mk.inj (Option.some.inj h);exact tail_5 bd g p vC vT vW x code w hp hbd e c.1 c.2
    · cases h
  split at h
  · rename_i e;obtain ⟨rfl,rfl⟩:=Prod.mk.inj (Option.some.inj h);exact tail_6 bd g p vC vT vW x code w hp hbd e
  split at h
  · rename_i e;obtain ⟨rfl,rfl⟩:=Prod.mk.inj (Option.some.inj h);exact tail_7 bd g p vC vT vW x code w hp hbd e
  split at h
  · rename_i e;obtain ⟨rfl,rfl⟩:=Prod.mk.inj (Option.some.inj h);exact tail_8 bd g p vC vT vW x code w hp hbd e
  split at h
  · rename_i e;obtain ⟨rfl,rfl⟩:=Prod.mk.inj (Option.some.inj h);exact tail_9 bd g p vC vT vW x code w hp hbd e
  split at h
  · rename_i e
    split at h
    · rename_i c;obtain ⟨rfl,rfl⟩:=Prod.mk.inj (Option.some.inj h);exact tail_10 bd g p vC vT vW x code w hp hbd e c
    · cases h
  split at h
  · rename_i e;obtain ⟨rfl,rfl⟩:=Prod.mk.inj (Option.some.inj h);exact tail_11 bd g p vC vT vW x code w hp hbd e
  split at h
  · rename_i e
    split at h
    · rename_i c;obtain ⟨rfl,rfl⟩:=Prod.mk.inj (Option.some.inj h);exact tail_12 bd g p vC vT vW x code w hp hbd e c
    · cases h
  split at h
  · rename_i e;obtain ⟨rfl,rfl⟩:=Prod.mk.inj (Option.some.inj h);exact tail_13 bd g p vC vT vW x code w hp hbd e
  · cases h
theorem head_all (k bd g:Nat) (p:PR) (vC vT vW:Value) (x:S73) (code:Bool) (p':PR) (r:Int) (w:World) (hp:RP w bd g p vC vT vW) (hbd:bd≤w.heap.size) (hG:Gl w) (h:moveR k p x code=some (p',r)) :
    Calls Tryz.prog 81 #[.pointer (some ⟨g,0,none⟩),.agg #[.int .i64 x.f0,.string x.f1,.int .i64 x.f2],.bool code] w (StepPost bd g vC vT vW p' r w):=by
  rcases Int.lt_or_le p.st 5 with h5 | h5
  · unfold moveR at h
    by_cases e:p.st=0
    · rw [if_pos e] at h;obtain ⟨rfl,rfl⟩:=Prod.mk.inj (Option.some.inj h);exact head_0 bd g p vC vT vW x code w hp hbd e
    rw [if_neg e] at h;by_cases e:p.st=1
    · rw [if_pos e] at h;obtain ⟨rfl,rfl⟩:=Prod.mk.inj (Option.some.inj h);exact head_1 bd g p vC vT vW x code w hp hbd e
    rw [if_neg e] at h;by_cases e:p.st=2
    · rw [if_pos e] at h;obtain ⟨rfl,rfl⟩:=Prod.mk.inj (Option.some.inj h);exact head_2 bd g p vC vT vW x code w hp hbd e
    rw [if_neg e] at h;by_cases e:p.st=3
    · rw [if_pos e] at h
      by_cases c:p.cs.length≤1000000
      · rw [if_pos c] at h;obtain ⟨rfl,rfl⟩:=Prod.mk.inj (Option.some.inj h);exact head_3 bd g p vC vT vW x code w hp hbd e hG c
      rw [if_neg c] at h;cases h
    rw [if_neg e] at h;by_cases e:p.st=4
    · rw [if_pos e] at h
      by_cases c:0 < p.cs.length
      · rw [if_pos c] at h
        obtain ⟨b,hb,h⟩:=Option.bind_eq_some_iff.mp h;obtain ⟨rfl,rfl⟩:=Prod.mk.inj (Option.some.inj h);exact head_4 bd g p vC vT vW x code w hp hbd e hG c k b hb
      rw [if_neg c] at h;cases h
    rw [if_neg e,if_neg (by omega),if_neg (by omega),if_neg (by omega),if_neg (by omega),if_neg (by omega),if_neg (by omega),if_neg (by omega),if_neg (by omega),if_neg (by omega)] at h
    cases h
  · exact head_t bd g p vC vT vW x code p' r w hp hbd h5 (fun W hW hb=>tail_all k bd g p vC vT vW x code p' r W hW hb h5 h)
theorem read_calls (k bd g:Nat) (p:PR) (vC vT vW:Value) (x:S73) (p':PR) (r:Int) (w:World) (hp:RP w bd g p vC vT vW) (hbd:bd≤w.heap.size) (hG:Gl w) (h:moveR k p x (codeX x)=some (p',r)) :
    Calls Tryz.prog 40 #[.pointer (some ⟨g,0,none⟩),.agg #[.int .i64 x.f0,.string x.f1,.int .i64 x.f2]] w (ReadPost bd g vC vT vW p' r w):=by
  have HP:=sd hp;have HF:=sd (FP.refl bd g vC vT vW w);have HG:=sd hG;have HH:=sd h;clear hp hG h;generalize hQ:ReadPost bd g vC vT vW p' r w=Post;have HQ:=sd hQ;clear hQ;go_enter Tryz.func40,Tryz.ntmps40
  go_upto_region 1 with (fail)
  have hB1:=below_alloc (Below.refl w.heap.size w) (Obj.cells #[Value.int IntKind.i64 x.f0,Value.string x.f1,Value.int IntKind.i64 x.f2] 73);have b0:(w.alloc (Obj.cells #[Value.int IntKind.i64 x.f0,Value.string x.f1,Value.int IntKind.i64 x.f2] 73)).heap[w.heap.size]?=some (.cells #[Value.int IntKind.i64 x.f0,Value.string x.f1,Value.int IntKind.i64 x.f2] 73 (0,0)):=blk_new _ _;replace HP:=sd (HP.out.below hB1);replace HF:=sd (HF.out.below hB1 hbd);replace HG:=sd (gl_below HG.out hB1);generalize w.alloc (Obj.cells #[Value.int IntKind.i64 x.f0,Value.string x.f1,Value.int IntKind.i64 x.f2] 73)=w1 at *;obtain ⟨gw,hgw⟩:∃ gw,gw=w.heap.size:=⟨_,rfl⟩
  rw [← hgw] at b0 ⊢;have BW:=sd b0;clear b0 hB1 hgw;obtain ⟨w0_,w1_,w2_,_,_,_⟩:=bk3 BW;by_cases e1:x.f0=1
  · obtain ⟨q1,q1_⟩:=eqI e1
    have hcx:codeX x=true:=decide_eq_true (Or.inl e1);rw [hcx] at HH;clear hcx e1;go_wp2_with fail
    refine (head_all k bd g p vC vT vW x _ p' r w1 HP.out (below_base HF.out.b hbd) HG.out HH.out).mono ?_;rintro e wn ⟨rfl,⟨vC',vT',vW',hp2⟩,hf2⟩;replace HF:=sd (HF.out.trans hf2);have HP2:=sd hp2;clear hf2 hp2 w0_ w1_ w2_;obtain ⟨⟨k0,k1,k2,k3,k4,k5,k6⟩,f0,f1,f2,f3,f4,f5,f6⟩:=HP2.out.facts;go_wp2_with fail
    rw [← HQ.out];exact ⟨by (try rfl),⟨_,_,_,HP2.out.set 5 (.int .i64 r) { p' with st:=r } rfl rfl rfl rfl⟩,FP.set (o:=5) HF.out HP2.out.hbd (.int .i64 r)⟩
  obtain ⟨q1,q1_⟩:=neI e1;by_cases e2:x.f0=2
  · obtain ⟨q2,q2_⟩:=eqI e2
    have hcx:codeX x=true:=decide_eq_true (Or.inr e2);rw [hcx] at HH;clear hcx e1 e2;go_wp2_with fail
    refine (head_all k bd g p vC vT vW x _ p' r w1 HP.out (below_base HF.out.b hbd) HG.out HH.out).mono ?_;rintro e wn ⟨rfl,⟨vC',vT',vW',hp2⟩,hf2⟩;replace HF:=sd (HF.out.trans hf2);have HP2:=sd hp2;clear hf2 hp2 w0_ w1_ w2_;obtain ⟨⟨k0,k1,k2,k3,k4,k5,k6⟩,f0,f1,f2,f3,f4,f5,f6⟩:=HP2.out.facts;go_wp2_with fail
    rw [← HQ.out];exact ⟨by (try rfl),⟨_,_,_,HP2.out.set 5 (.int .i64 r) { p' with st:=r } rfl rfl rfl rfl⟩,FP.set (o:=5) HF.out HP2.out.hbd (.int .i64 r)⟩
  obtain ⟨q2,q2_⟩:=neI e2;have hcx:codeX x=false:=decide_eq_false (fun h=>h.elim e1 e2);rw [hcx] at HH;clear hcx e1 e2;go_wp2_with fail
  refine (head_all k bd g p vC vT vW x _ p' r w1 HP.out (below_base HF.out.b hbd) HG.out HH.out).mono ?_;rintro e wn ⟨rfl,⟨vC',vT',vW',hp2⟩,hf2⟩;replace HF:=sd (HF.out.trans hf2);have HP2:=sd hp2;clear hf2 hp2 w0_ w1_ w2_;obtain ⟨⟨k0,k1,k2,k3,k4,k5,k6⟩,f0,f1,f2,f3,f4,f5,f6⟩:=HP2.out.facts;go_wp2_with fail
  rw [← HQ.out];exact ⟨by (try rfl),⟨_,_,_,HP2.out.set 5 (.int .i64 r) { p' with st:=r } rfl rfl rfl rfl⟩,FP.set (o:=5) HF.out HP2.out.hbd (.int .i64 r)⟩
theorem values_calls (k bd g:Nat) (p:PR) (vC vT vW:Value) (cs':List S48) (at_ er:Int) (w:World) (hp:RP w bd g p vC vT vW) (hbd:bd≤w.heap.size) (hn:0 < p.cs.length) (hl:p.ws.length≤1000000) (hG:Gl w) (hgb:GlLt bd) (h:valL k p.ws 0 p.cs=some (cs',at_,er)) :
    Calls Tryz.prog 41 #[.pointer (some ⟨g,0,none⟩)] w (ValPost bd g vC vT vW { p with cs:=cs' } at_ er w):=by
  obtain ⟨gc,cap,hvc,hgc,_,_⟩:=Kd.R_form hp.rC hn;subst hvc;obtain ⟨va,vc,hvw⟩:=Kd.R_slice hp.rW;subst hvw;have HP:=sd hp;have HF:=sd (FP.refl bd g (.slice (some ⟨gc,0,none⟩) p.cs.length cap) vT (.slice va p.ws.length vc) w);have HG:=sd (fun W (hb:Below bd w W)=>gl_bd hG hb hgb);have HH:=sd h;have HGC:=sd hgc;have HLW:=sd hl;clear hp hG h hgc hl hgb;generalize hQ:ValPost bd g (.slice (some ⟨gc,0,none⟩) p.cs.length cap) vT (.slice va p.ws.length vc) { p with cs:=cs' } at_ er w=Post;have HQ:=sd hQ;clear hQ;obtain ⟨⟨k0,k1,k2,k3,k4,k5,k6⟩,f0,f1,f2,f3,f4,f5,f6⟩:=HP.out.facts;go_enter Tryz.func41,Tryz.ntmps41
  go_wp2_with fail
  clear k0 k1 k2 k3 k4 k5 k6 f0 f1 f2 f3 f4 f5 f6;go_loopw [3,12] (fun e_ n_ wr=>∃ (i:Nat) (cs:List S48),i≤p.ws.length∧n_=.int .i64 (i:Int)∧e_=.int .i64 0∧cs.length=p.cs.length∧Aside0 (valL k (p.ws.drop i) i cs=some (cs',at_,er))∧Aside0 (RP wr bd g { p with cs:=cs } (.slice (some ⟨gc,0,none⟩) p.cs.length cap) vT (.slice va p.ws.length vc))∧Aside0 (FP bd g (.slice (some ⟨gc,0,none⟩) p.cs.length cap) vT (.slice va p.ws.length vc) w wr)) (fun _ n_ _=>(p.ws.length - (RowKit.intOf n_).toNat))
  case atStart=>exact ⟨0,p.cs,Nat.zero_le _,rfl,rfl,rfl,HH,HP,HF⟩
  case round =>
    clear HH HP HF;obtain ⟨i,cs,hi,rfl,rfl,hcl,HH,HP,HF⟩:=hrel;rename World=>wr
    by_cases hlt:i < p.ws.length
    case neg =>
      obtain rfl:i=p.ws.length:=by omega
      have hlt':¬ (p.ws.length:Int) < (p.ws.length:Int):=by omega
      have hr:=HH.out;rw [List.drop_length] at hr;obtain ⟨rfl,h2⟩:=Prod.mk.inj (Option.some.inj hr);obtain ⟨rfl,rfl⟩:=Prod.mk.inj h2;clear hr h2 HH;go_wp2_with fail
      rw [← HQ.out];exact ⟨by (try rfl),⟨_,_,_,HP.out⟩,HF.out⟩
    have hlt':(i:Int) < (p.ws.length:Int):=by omega
    have h0:(0:Int)≤(i:Int):=by omega
    have hw:wrap64 ((i:Int)+1)=((i+1:Nat):Int):=by have:=HLW.out;unfold wrap64;omega
    obtain ⟨hwl,hwc,hWC⟩:=Kd.R_reads' HP.out.rW;obtain ⟨ad,e,x0,x1,x2⟩:=at_T73 hWC (i:Int) (by omega) (by omega)
    cases e
    simp only [Int.toNat_natCast] at x0 x1 x2
    obtain ⟨⟨k0,k1,k2,k3,k4,k5,k6⟩,f0,f1,f2,f3,f4,f5,f6⟩:=HP.out.facts
    have hd:p.ws.drop i=rd_T73 p.ws (i:Int) :: p.ws.drop (i+1):=by
      unfold rd_T73;rw [List.drop_eq_getElem_cons hlt,Int.toNat_natCast,List.getD_eq_getElem?_getD,List.getElem?_eq_getElem hlt];rfl
    obtain ⟨x,hx⟩:∃ x,rd_T73 p.ws (i:Int)=x:=⟨_,rfl⟩
    rw [hx] at hd x0 x1 x2;have hh:=HH.out;rw [hd,valL] at hh;clear hd hx HH;by_cases hic:i < cs.length
    case neg=>rw [if_neg hic] at hh;cases hh
    rw [if_pos hic] at hh;obtain ⟨c,hc⟩:∃ c,rd_T48 cs (i:Int)=c:=⟨_,rfl⟩
    rw [hc] at hh;obtain ⟨y,hy,hh⟩:=Option.bind_eq_some_iff.mp hh;have HY:=sd hy;have HN:=sd hh;have HCc:=sd hc;have HIC:=sd hic;have hic':(i:Int) < (p.cs.length:Int):=by omega
    clear hy hh hc hic;go_upto_region 4 with (fail)
    have hbx:=below_alloc (Below.refl wr.heap.size wr) (Obj.cells #[Value.int IntKind.i64 x.f0,Value.string x.f1,Value.int IntKind.i64 x.f2] 73);have bx:(wr.alloc (Obj.cells #[Value.int IntKind.i64 x.f0,Value.string x.f1,Value.int IntKind.i64 x.f2] 73)).heap[wr.heap.size]?=some (.cells #[Value.int IntKind.i64 x.f0,Value.string x.f1,Value.int IntKind.i64 x.f2] 73 (0,0)):=blk_new _ _;replace HP:=sd (HP.out.below hbx);replace HF:=sd (HF.out.below hbx hbd);clear x0 x1 x2 hwl hwc hWC k0 k1 k2 k3 k4 k5 k6 f0 f1 f2 f3 f4 f5 f6 hbx;generalize wr.alloc (Obj.cells #[Value.int IntKind.i64 x.f0,Value.string x.f1,Value.int IntKind.i64 x.f2] 73)=w4 at *;obtain ⟨gx,hgx⟩:∃ g,g=wr.heap.size:=⟨_,rfl⟩
    rw [← hgx] at bx ⊢;have BX:=sd bx;clear bx hgx;obtain ⟨⟨k0,k1,k2,k3,k4,k5,k6⟩,f0,f1,f2,f3,f4,f5,f6⟩:=HP.out.facts;obtain ⟨cc,hcl2,hM,hcc,hfr⟩:=Kd.R_elem HP.out.rC z48 (i:Int) (by omega) (by omega)
    have hce:cc=[Value.int .i64 c.f0,.int .i64 c.f1,.string c.f2,.int .i64 c.f3]:=by
      have:=k48_openM hM;rw [this,← HCc.out];rfl
    subst hce;have e0:w4.cell? ⟨gc,i * 4,none⟩=some (.int .i64 c.f0):=hcc 0 _ rfl;have e2:w4.cell? ⟨gc,i * 4+2,none⟩=some (.string c.f2):=hcc 2 _ rfl;have e3:w4.cell? ⟨gc,i * 4+3,none⟩=some (.int .i64 c.f3):=hcc 3 _ rfl;have g2_:w4.frozen? ⟨gc,i * 4+2,none⟩=false:=hfr 2;have g3_:w4.frozen? ⟨gc,i * 4+3,none⟩=false:=hfr 3;clear hcl2 hM hcc hfr;obtain ⟨z0,z1,z2,_,_,_⟩:=bk3 BX;have hy:=HY.out;unfold valC at hy;clear HY;by_cases ea:c.f0=1
    · rw [if_pos ea] at hy
      obtain ⟨⟨n1,er1⟩,hq,hy⟩:=Option.bind_eq_some_iff.mp hy;obtain rfl:=Option.some.inj hy;have HNP:=sd (fun W=>num_Parse.calls x.f1 (-1000000000000) 1000000000000 n1 er1 W hq);have qa:decide (c.f0=1)=true:=decide_eq_true ea;clear hy hq;go_wp2_with fail
      refine (HNP.out _).mono ?_;rintro e w5 ⟨rfl,hd⟩;obtain ⟨⟨nd,rfl⟩⟩:=hd;have hbx:=pw_below_drewN (Below.refl w4.heap.size w4) nd;replace BX:=sd (blk_below BX.out hbx);replace HP:=sd (HP.out.below hbx);replace HF:=sd (HF.out.below hbx hbd);clear e0 e2 e3 g2_ g3_ z0 z1 z2 k0 k1 k2 k3 k4 k5 k6 f0 f1 f2 f3 f4 f5 f6 hbx;generalize w4.drewN nd=w5 at *;obtain ⟨cc,hcl2,hM,hcc,hfr⟩:=Kd.R_elem HP.out.rC z48 (i:Int) (by omega) (by omega)
      have hce:cc=[Value.int .i64 c.f0,.int .i64 c.f1,.string c.f2,.int .i64 c.f3]:=by
        have:=k48_openM hM;rw [this,← HCc.out];rfl
      subst hce;have e0:w5.cell? ⟨gc,i * 4,none⟩=some (.int .i64 c.f0):=hcc 0 _ rfl;have e2:w5.cell? ⟨gc,i * 4+2,none⟩=some (.string c.f2):=hcc 2 _ rfl;have e3:w5.cell? ⟨gc,i * 4+3,none⟩=some (.int .i64 c.f3):=hcc 3 _ rfl;have g2_:w5.frozen? ⟨gc,i * 4+2,none⟩=false:=hfr 2;have g3_:w5.frozen? ⟨gc,i * 4+3,none⟩=false:=hfr 3;clear hcl2 hM hcc hfr;obtain ⟨z0,z1,z2,_,_,_⟩:=bk3 BX;by_cases ez:er1=0
      · have hh:=HN.out
        rw [if_pos ez] at hh;have HH:=sd hh;have qz:decide (er1=0)=true:=decide_eq_true ez;obtain ⟨qz3,qz4⟩:=eqI ez;clear hh HN;go_wp2_with fail
        replace HF:=sd (FP.far (o:=i * 4+3) HF.out HGC.out (Or.inl rfl) (.int .i64 n1));replace HP:=sd (elemC' hcl (j:=3) (u:=.int .i64 n1) (x':={ c with f3:=n1 }) HP.out HIC.out HCc.out (by decide) rfl);go_roundw
        case rel=>exact ⟨i+1,cs.set i ({ c with f3:=n1 }),by omega,(by rw [hw]),(by first | rfl | (rw [ez])),by rw [List.length_set];exact hcl,HH,HP,HF⟩
        case measure =>
          refine Nat.sub_lt_sub_left hlt ?_;rw [hw];exact Nat.lt_succ_self i
      have hh:=HN.out;rw [if_neg ez] at hh;obtain ⟨h1_,h2_⟩:=Prod.mk.inj (Option.some.inj hh);obtain ⟨h3_,h4_⟩:=Prod.mk.inj h2_;clear hh HN h2_;have qz:decide (er1=0)=false:=decide_eq_false ez;obtain ⟨qz3,qz4⟩:=neI ez;rw [← h1_,← h3_,← h4_] at HQ;clear h1_ h3_ h4_;go_wp2_with fail
      replace HF:=sd (FP.far (o:=i * 4+3) HF.out HGC.out (Or.inl rfl) (.int .i64 n1));replace HP:=sd (elemC' hcl (j:=3) (u:=.int .i64 n1) (x':={ c with f3:=n1 }) HP.out HIC.out HCc.out (by decide) rfl);rw [← HQ.out];exact ⟨by (try rfl),⟨_,_,_,HP.out⟩,HF.out⟩
    rw [if_neg ea] at hy;have qa:decide (c.f0=1)=false:=decide_eq_false ea;by_cases eb:c.f0=4
    · rw [if_pos eb] at hy
      obtain ⟨⟨n1,er1⟩,hq,hy⟩:=Option.bind_eq_some_iff.mp hy;obtain rfl:=Option.some.inj hy;have HNP:=sd (fun W (hG:Gl W)=>days_Parse.calls k x.f1 n1 er1 W hq hG);have qb:decide (c.f0=4)=true:=decide_eq_true eb;clear hy hq;go_wp2_with fail
      refine (HNP.out _ (HG.out _ HF.out.b)).mono ?_;rintro e w5 ⟨rfl,hbx⟩;replace BX:=sd (blk_below BX.out hbx);replace HP:=sd (HP.out.below hbx);replace HF:=sd (HF.out.below hbx hbd);clear e0 e2 e3 g2_ g3_ z0 z1 z2 k0 k1 k2 k3 k4 k5 k6 f0 f1 f2 f3 f4 f5 f6 hbx;obtain ⟨cc,hcl2,hM,hcc,hfr⟩:=Kd.R_elem HP.out.rC z48 (i:Int) (by omega) (by omega)
      have hce:cc=[Value.int .i64 c.f0,.int .i64 c.f1,.string c.f2,.int .i64 c.f3]:=by
        have:=k48_openM hM;rw [this,← HCc.out];rfl
      subst hce;have e0:w5.cell? ⟨gc,i * 4,none⟩=some (.int .i64 c.f0):=hcc 0 _ rfl;have e2:w5.cell? ⟨gc,i * 4+2,none⟩=some (.string c.f2):=hcc 2 _ rfl;have e3:w5.cell? ⟨gc,i * 4+3,none⟩=some (.int .i64 c.f3):=hcc 3 _ rfl;have g2_:w5.frozen? ⟨gc,i * 4+2,none⟩=false:=hfr 2;have g3_:w5.frozen? ⟨gc,i * 4+3,none⟩=false:=hfr 3;clear hcl2 hM hcc hfr;obtain ⟨z0,z1,z2,_,_,_⟩:=bk3 BX;by_cases ez:er1=0
      · have hh:=HN.out
        rw [if_pos ez] at hh;have HH:=sd hh;have qz:decide (er1=0)=true:=decide_eq_true ez;obtain ⟨qz3,qz4⟩:=eqI ez;clear hh HN;go_wp2_with fail
        replace HF:=sd (FP.far (o:=i * 4+3) HF.out HGC.out (Or.inl rfl) (.int .i64 n1));replace HP:=sd (elemC' hcl (j:=3) (u:=.int .i64 n1) (x':={ c with f3:=n1 }) HP.out HIC.out HCc.out (by decide) rfl);go_roundw
        case rel=>exact ⟨i+1,cs.set i ({ c with f3:=n1 }),by omega,(by rw [hw]),(by first | rfl | (rw [ez])),by rw [List.length_set];exact hcl,HH,HP,HF⟩
        case measure =>
          refine Nat.sub_lt_sub_left hlt ?_;rw [hw];exact Nat.lt_succ_self i
      have hh:=HN.out;rw [if_neg ez] at hh;obtain ⟨h1_,h2_⟩:=Prod.mk.inj (Option.some.inj hh);obtain ⟨h3_,h4_⟩:=Prod.mk.inj h2_;clear hh HN h2_;have qz:decide (er1=0)=false:=decide_eq_false ez;obtain ⟨qz3,qz4⟩:=neI ez;rw [← h1_,← h3_,← h4_] at HQ;clear h1_ h3_ h4_;go_wp2_with fail
      replace HF:=sd (FP.far (o:=i * 4+3) HF.out HGC.out (Or.inl rfl) (.int .i64 n1));replace HP:=sd (elemC' hcl (j:=3) (u:=.int .i64 n1) (x':={ c with f3:=n1 }) HP.out HIC.out HCc.out (by decide) rfl);rw [← HQ.out];exact ⟨by (try rfl),⟨_,_,_,HP.out⟩,HF.out⟩
    rw [if_neg eb] at hy;have qb:decide (c.f0=4)=false:=decide_eq_false eb;obtain rfl:=Option.some.inj hy;clear hy;have hh:=HN.out;rw [if_pos rfl] at hh;have HH:=sd hh;clear hh HN;go_wp2_with fail
    replace HF:=sd (FP.far (o:=i * 4+2) HF.out HGC.out (Or.inl rfl) (.string x.f1));replace HP:=sd (elemC' hcl (j:=2) (u:=.string x.f1) (x':={ c with f2:=x.f1 }) HP.out HIC.out HCc.out (by decide) rfl);go_roundw
    case rel=>exact ⟨i+1,cs.set i ({ c with f2:=x.f1 }),by omega,(by rw [hw]),rfl,by rw [List.length_set];exact hcl,HH,HP,HF⟩
    case measure =>
      refine Nat.sub_lt_sub_left hlt ?_;rw [hw];exact Nat.lt_succ_self i
def parL (k:Nat):List S73→PR→Option (PR×Int×Int)
  | [],p=>some (p,0,0)
  | x :: r,p=>(moveR k p x (codeX x)).bind fun y=>if y.2=14 then some (p,x.f2,27) else parL k r { y.1 with st:=y.2 }
def rules_Parse.f (k:Nat) (s:ByteArray):Option RRes :=
  (words_Cut.f k s).bind fun c=>if c.2.2=0 then (parL k c.1 pr0).bind fun y =>
    if y.2.2=0 then (if y.1.st=8∨y.1.st=13 then (if 0 < y.1.cs.length∧y.1.ws.length≤1000000 then (valL k y.1.ws 0 y.1.cs).bind fun v =>
      if v.2.2=0 then (rules_Check.f k y.1.nm v.1 y.1.acc y.1.par y.1.tg).bind fun e=>if e=0 then some (y.1.nm,v.1,y.1.acc,y.1.par,y.1.tg,0,0) else some (noR 0 e) else some (noR v.2.1 v.2.2) else none)
    else some (noR (s.size:Int) 27)) else some (noR y.2.1 y.2.2) else some (noR c.2.1 c.2.2)
theorem rules_Parse.calls (k:Nat) (a0 r1:ByteArray) (r2:List S48) (r3 r4:ByteArray) (r5:List S50) (r6 r7:Int) (w:World) (h:rules_Parse.f k a0=some (r1,r2,r3,r4,r5,r6,r7)) (hG:Gl w) :
    Calls Tryz.prog 18 #[.string a0] w fun e w'=>∃ v2_ v5_:Value,e=.returned (.tuple #[.agg #[.string r1,v2_,.string r3,.string r4,v5_],.int .i64 r6,.int .i64 r7])∧Kd.R k48 48 w' w.heap.size (fun _=>True) v2_ r2∧Kd.R k50 50 w' w.heap.size (fun _=>True) v5_ r5∧Below w.heap.size w w':=by
  have hgb:=gl_lt hG;have HG:=sd hG;have HGB:=sd hgb;unfold rules_Parse.f at h;obtain ⟨⟨cw,ca,ce⟩,hc,h⟩:=Option.bind_eq_some_iff.mp h;have HC:=sd (fun W=>words_Cut.calls k a0 cw ca ce W hc);have H:=sd h;clear h hc hG hgb;generalize hQ:(fun (e:Ending) (w':World)=>∃ v2_ v5_:Value,e=.returned (.tuple #[.agg #[.string r1,v2_,.string r3,.string r4,v5_],.int .i64 r6,.int .i64 r7])∧Kd.R k48 48 w' w.heap.size (fun _=>True) v2_ r2∧Kd.R k50 50 w' w.heap.size (fun _=>True) v5_ r5∧Below w.heap.size w w')=Post;have HQ:=sd hQ;clear hQ;go_enter Tryz.func18,Tryz.ntmps18
  go_upto_region 1 with (fail)
  have hB1:=below_alloc (Below.refl w.heap.size w) (Obj.cells #[Value.string ⟨#[]⟩,Value.slice none 0 0,Value.string ⟨#[]⟩,Value.string ⟨#[]⟩,Value.slice none 0 0] 25);have b0:(w.alloc (Obj.cells #[Value.string ⟨#[]⟩,Value.slice none 0 0,Value.string ⟨#[]⟩,Value.string ⟨#[]⟩,Value.slice none 0 0] 25)).heap[w.heap.size]?=some (.cells #[Value.string ⟨#[]⟩,Value.slice none 0 0,Value.string ⟨#[]⟩,Value.string ⟨#[]⟩,Value.slice none 0 0] 25 (0,0)):=blk_new _ _;generalize w.alloc (Obj.cells #[Value.string ⟨#[]⟩,Value.slice none 0 0,Value.string ⟨#[]⟩,Value.string ⟨#[]⟩,Value.slice none 0 0] 25)=w1 at *;obtain ⟨gr,hgr⟩:∃ g,g=w.heap.size:=⟨_,rfl⟩
  have HGR:=sd (show w.heap.size≤gr by omega);have hr2:(⟨w.heap.size,0,none⟩:Addr)=⟨gr,0,none⟩:=by rw [hgr]
  rw [← hgr] at b0;rw [hr2];have BR:=sd b0;have HB:=sd hB1;clear b0 hB1 hgr hr2;go_wp2_with fail
  refine (HC.out _).mono ?_;rintro e w2 ⟨v0,rfl,hR0,hb⟩;obtain ⟨va,vc,rfl⟩:=Kd.R_slice hR0;have HR0:=sd (Kd.R_reads' hR0).2.2;have HCV:=sd (Kd.R_reads' hR0).2.1;replace BR:=sd (blk_below BR.out hb);replace HB:=sd (HB.out.trans (hb.mono HB.out.size));clear hb hR0 HC;by_cases hz:ce=0
  case neg =>
    have h:=H.out;rw [if_neg hz] at h;obtain ⟨rfl,rfl,rfl,rfl,rfl,rfl,rfl⟩:=h;obtain ⟨q1,q2⟩:=neI hz;obtain ⟨z0,z1,z2,z3,z4,y0,y1,y2,y3,y4⟩:=bk5 BR;clear hz H;go_wp2_with fail
    exact noretP Post _ _ w gr _ _ rfl rfl rfl BR.out HB.out HGR.out (fun W' hW'=>by rw [← HQ.out];exact ⟨_,_,rfl,Kd.R_nil _ _ _ _ _,Kd.R_nil _ _ _ _ _,hW'⟩)
  have h:=H.out;rw [if_pos hz] at h;subst hz;obtain ⟨⟨p1,at1,e1⟩,hp,h⟩:=Option.bind_eq_some_iff.mp h;have HP1:=sd hp;have HH:=sd h;clear h H hp;go_upto_region 5 with (fail)
  have hB1:=below_alloc (Below.refl w2.heap.size w2) (Obj.cells #[Value.string ⟨#[]⟩,Value.slice none 0 0,Value.string ⟨#[]⟩,Value.string ⟨#[]⟩,Value.slice none 0 0,Value.int IntKind.i64 0,Value.slice none 0 0] 71);have b0:(w2.alloc (Obj.cells #[Value.string ⟨#[]⟩,Value.slice none 0 0,Value.string ⟨#[]⟩,Value.string ⟨#[]⟩,Value.slice none 0 0,Value.int IntKind.i64 0,Value.slice none 0 0] 71)).heap[w2.heap.size]?=some (.cells #[Value.string ⟨#[]⟩,Value.slice none 0 0,Value.string ⟨#[]⟩,Value.string ⟨#[]⟩,Value.slice none 0 0,Value.int IntKind.i64 0,Value.slice none 0 0] 71 (0,0)):=blk_new _ _;generalize w2.alloc (Obj.cells #[Value.string ⟨#[]⟩,Value.slice none 0 0,Value.string ⟨#[]⟩,Value.string ⟨#[]⟩,Value.slice none 0 0,Value.int IntKind.i64 0,Value.slice none 0 0] 71)=w3 at *;obtain ⟨bd,hbd⟩:∃ b,b=w2.heap.size:=⟨_,rfl⟩
  have hW3:Below bd w2 w3:=by rw [hbd];exact hB1
  rw [show (⟨w2.heap.size,0,none⟩:Addr)=⟨bd,0,none⟩ from by rw [hbd]];rw [← hbd] at b0;have HP:=sd (RP.mk (bd:=bd) (p:=pr0) b0 (Kd.R_nil _ _ _ _ _) (Kd.R_nil _ _ _ _ _) (Kd.R_nil _ _ _ _ _) (Nat.le_refl _));have HBD:=sd (show bd≤w3.heap.size from by rw [hbd];exact hB1.size);have HW:=sd hW3;have HBE:=sd hbd;have HGB2:=sd (show gr < bd by rw [hbd];exact blk_lt BR.out);clear b0 hB1 hW3 hbd;go_wp2_with fail
  have HLE:=sd (show w.heap.size≤bd by rw [HBE.out];exact HB.out.size);have HBRW:=sd (fun (W:World) (hb:Below bd w2 W)=>(hb.block gr HGB2.out).trans BR.out);have HBW:=sd (fun (W:World) (hb:Below bd w2 W)=>(HB.out.trans (hb.mono (Nat.le_trans HB.out.size (Nat.le_of_eq HBE.out.symm))):Below w.heap.size w W));have HGW:=sd (fun (W:World) (hb:Below bd w2 W)=>gl_bd (gl_below HG.out HB.out) hb zq28);have HGBD:=sd (show GlLt bd from zq28);go_loopw [24] (fun n_ wr=>∃ (i:Nat) (p:PR) (vC vT vW:Value),i≤cw.length∧n_=.int .i64 (i:Int)∧Aside0 (parL k (cw.drop i) p=some (p1,at1,e1))∧Aside0 (RP wr bd bd p vC vT vW)∧Aside0 (Below bd w2 wr)) (fun n_ _=>(cw.length - (RowKit.intOf n_).toNat))
  case atStart=>exact ⟨0,pr0,_,_,_,Nat.zero_le _,rfl,HP1,HP,HW⟩
  case round =>
    clear HP1 HP HW;obtain ⟨i,p,vC,vT,vW,hi,rfl,HP1,HP,HW⟩:=hrel;rename World=>wr
    have hlw:cw.length≤9223372036854775807:=HR0.out.2.1;by_cases hlt:i < cw.length
    case neg =>
      obtain rfl:i=cw.length:=by omega
      have hlt':¬ (cw.length:Int) < (cw.length:Int):=by omega
      have hh:=HP1.out;rw [List.drop_length] at hh;obtain ⟨rfl,h2⟩:=Prod.mk.inj (Option.some.inj hh);obtain ⟨rfl,rfl⟩:=Prod.mk.inj h2;clear hh h2 HP1;have h:=HH.out;rw [if_pos rfl] at h;have BRw:=sd (HBRW.out _ HW.out);clear HH BR HR0;by_cases e813:p.st=8∨p.st=13
      case neg =>
        rw [if_neg e813] at h;obtain ⟨rfl,rfl,rfl,rfl,rfl,rfl,rfl⟩:=h;obtain ⟨q1,q2⟩:=neI (show ¬ p.st=8 from fun e=>e813 (Or.inl e));obtain ⟨q3,q4⟩:=neI (show ¬ p.st=13 from fun e=>e813 (Or.inr e));obtain ⟨⟨k0,k1,k2,k3,k4,k5,k6⟩,f0,f1,f2,f3,f4,f5,f6⟩:=HP.out.facts;obtain ⟨z0,z1,z2,z3,z4,y0,y1,y2,y3,y4⟩:=bk5 BRw;clear e813;go_wp2_with fail
        exact noretP Post _ _ w gr _ _ rfl rfl rfl BRw.out (HBW.out _ HW.out) HGR.out (fun W' hW'=>by rw [← HQ.out];exact ⟨_,_,rfl,Kd.R_nil _ _ _ _ _,Kd.R_nil _ _ _ _ _,hW'⟩)
      rw [if_pos e813] at h;by_cases hn:0 < p.cs.length∧p.ws.length≤1000000
      case neg=>rw [if_neg hn] at h;cases h
      rw [if_pos hn] at h;obtain ⟨⟨cs2,at2,e2⟩,hv,h⟩:=Option.bind_eq_some_iff.mp h;have HV:=sd hv;have H2:=sd h;have HN:=sd hn;clear h hv hn;obtain ⟨⟨k0,k1,k2,k3,k4,k5,k6⟩,f0,f1,f2,f3,f4,f5,f6⟩:=HP.out.facts;have hbr:bd≤wr.heap.size:=by rw [HBE.out];exact HW.out.size
      have HBR:=sd hbr;clear hbr;rcases e813 with e8 | e8
      all_goals (first | (change p.st=8 at e8;obtain ⟨q1,q2⟩:=eqI e8;clear e8;go_wp2_with fail) | (change p.st=13 at e8;obtain ⟨q1,q2⟩:=eqI e8;obtain ⟨q3,q4⟩:=neI (show ¬ p.st=8 by omega);clear e8;go_wp2_with fail))
      all_goals
        refine (values_calls k bd bd p vC vT vW cs2 at2 e2 wr HP.out HBR.out HN.out.1 HN.out.2 (HGW.out _ HW.out) HGBD.out HV.out).mono ?_;rintro e w5 ⟨rfl,⟨vC',vT',vW',hp2⟩,hf⟩;replace HP:=sd hp2;replace HW:=sd (HW.out.trans hf.b);clear hp2 hf HV k0 k1 k2 k3 k4 k5 k6 f0 f1 f2 f3 f4 f5 f6 q1 q2 BRw;(try clear q3 q4)
        have BRw:=sd (HBRW.out _ HW.out);clear HN;obtain ⟨z0,z1,z2,z3,z4,y0,y1,y2,y3,y4⟩:=bk5 BRw;by_cases e20:e2=0
        case neg =>
          have h:=H2.out;rw [if_neg e20] at h;obtain ⟨rfl,rfl,rfl,rfl,rfl,rfl,rfl⟩:=h;obtain ⟨q1,q2⟩:=neI e20;clear e20 H2;go_wp2_with fail
          exact noretP Post _ _ w gr _ _ rfl rfl rfl BRw.out (HBW.out _ HW.out) HGR.out (fun W' hW'=>by rw [← HQ.out];exact ⟨_,_,rfl,Kd.R_nil _ _ _ _ _,Kd.R_nil _ _ _ _ _,hW'⟩)
        have h:=H2.out;rw [if_pos e20] at h;subst e20;obtain ⟨ec,hec,h⟩:=Option.bind_eq_some_iff.mp h;obtain ⟨AC,cC,rfl⟩:=Kd.R_slice HP.out.rC;obtain ⟨AT,cT,rfl⟩:=Kd.R_slice HP.out.rT;obtain ⟨_,hcC,hCC⟩:=Kd.R_reads' HP.out.rC;obtain ⟨_,hcT,hCT⟩:=Kd.R_reads' HP.out.rT;have NC:=sd (fun W hC hT=>rules_Check.calls k p.nm AC cC cs2 p.acc p.par AT cT p.tg ec W hC hcC hT hcT hec);have H3:=sd h;have CC:=sd hCC;have CT:=sd hCT;clear H2 h hec hcC hCC hcT hCT;obtain ⟨⟨k0,k1,k2,k3,k4,k5,k6⟩,f0,f1,f2,f3,f4,f5,f6⟩:=HP.out.facts;go_wp2_with fail
        refine (NC.out _ CC.out CT.out).mono ?_;rintro e w6 ⟨rfl,hb⟩;clear k0 k1 k2 k3 k4 k5 k6 f0 f1 f2 f3 f4 f5 f6 z0 z1 z2 z3 z4 y0 y1 y2 y3 y4 NC CC CT;replace HP:=sd (HP.out.below hb);replace BRw:=sd (blk_below BRw.out hb);replace HW:=sd (HBW.out _ HW.out |> fun h=>h.trans (hb.mono h.size));clear hb;obtain ⟨z0,z1,z2,z3,z4,y0,y1,y2,y3,y4⟩:=bk5 BRw;obtain ⟨⟨k0,k1,k2,k3,k4,k5,k6⟩,f0,f1,f2,f3,f4,f5,f6⟩:=HP.out.facts;by_cases e30:ec=0
        case neg =>
          have h:=H3.out;rw [if_neg e30] at h;obtain ⟨rfl,rfl,rfl,rfl,rfl,rfl,rfl⟩:=h;obtain ⟨q1,q2⟩:=neI e30;clear e30 H3;go_wp2_with fail
          exact noretP Post _ _ w gr _ _ rfl rfl rfl BRw.out HW.out HGR.out (fun W' hW'=>by rw [← HQ.out];exact ⟨_,_,rfl,Kd.R_nil _ _ _ _ _,Kd.R_nil _ _ _ _ _,hW'⟩)
        have h:=H3.out;rw [if_pos e30] at h;subst e30;obtain ⟨rfl,rfl,rfl,rfl,rfl,rfl,rfl⟩:=h;go_wp2_with fail
        exact yesretP Post _ _ w gr bd _ _ _ _ _ _ _ rfl rfl rfl BRw.out HW.out HGR.out HP.out.rC HP.out.rT (fun W' hC hT hW'=>by rw [← HQ.out];exact ⟨_,_,rfl,Kd.R_lower hC HLE.out,Kd.R_lower hT HLE.out,hW'⟩)
    have hlt':(i:Int) < (cw.length:Int):=by omega
    have h0:(0:Int)≤(i:Int):=by omega
    have hw:wrap64 ((i:Int)+1)=((i+1:Nat):Int):=by unfold wrap64;omega
    obtain ⟨ad,e,x0,x1,x2⟩:=at_T73 HR0.out (i:Int) (by omega) (by omega);have y0:=(HW.out.cell (p:=_) (by rw [HBE.out];exact World.block_lt_of_cell? _ _ x0)).trans x0;have y1:=(HW.out.cell (p:=_) (by rw [HBE.out];exact World.block_lt_of_cell? _ _ x1)).trans x1;have y2:=(HW.out.cell (p:=_) (by rw [HBE.out];exact World.block_lt_of_cell? _ _ x2)).trans x2;clear x0 x1 x2
    cases e
    simp only [Int.toNat_natCast] at y0 y1 y2
    have hd:cw.drop i=rd_T73 cw (i:Int) :: cw.drop (i+1):=by
      unfold rd_T73;rw [List.drop_eq_getElem_cons hlt,Int.toNat_natCast,List.getD_eq_getElem?_getD,List.getElem?_eq_getElem hlt];rfl
    obtain ⟨x,hx⟩:∃ x,rd_T73 cw (i:Int)=x:=⟨_,rfl⟩
    rw [hx] at hd y0 y1 y2;have hh:=HP1.out;rw [hd,parL] at hh;obtain ⟨⟨p2,s2⟩,hm,hh⟩:=Option.bind_eq_some_iff.mp hh;have HM:=sd hm;have HN:=sd hh;clear hd hx HP1 hm hh;have HNP:=sd (show bd < wr.heap.size∧(∀ k,vC.ownBlock=some k→k < wr.heap.size)∧(∀ k,vT.ownBlock=some k→k < wr.heap.size)∧(∀ k,vW.ownBlock=some k→k < wr.heap.size) from ⟨blk_lt HP.out.blk,fun k hk=>((Kd.R_bound HP.out.rC).1 k hk).2.2.1,fun k hk=>((Kd.R_bound HP.out.rT).1 k hk).2.2.1,fun k hk=>((Kd.R_bound HP.out.rW).1 k hk).2.2.1⟩);go_upto_region 8 with (fail)
    have hbr:bd≤wr.heap.size:=by rw [HBE.out];exact HW.out.size
    have hbx:=below_alloc (Below.refl wr.heap.size wr) (Obj.cells #[Value.int IntKind.i64 x.f0,Value.string x.f1,Value.int IntKind.i64 x.f2] 73);have bx:(wr.alloc (Obj.cells #[Value.int IntKind.i64 x.f0,Value.string x.f1,Value.int IntKind.i64 x.f2] 73)).heap[wr.heap.size]?=some (.cells #[Value.int IntKind.i64 x.f0,Value.string x.f1,Value.int IntKind.i64 x.f2] 73 (0,0)):=blk_new _ _;replace HP:=sd (HP.out.below hbx);replace HW:=sd (HW.out.trans (hbx.mono hbr));have hbr4:bd≤(wr.alloc (Obj.cells #[Value.int IntKind.i64 x.f0,Value.string x.f1,Value.int IntKind.i64 x.f2] 73)).heap.size:=Nat.le_trans hbr hbx.size;clear y0 y1 y2 hbx;generalize wr.alloc (Obj.cells #[Value.int IntKind.i64 x.f0,Value.string x.f1,Value.int IntKind.i64 x.f2] 73)=w4 at *;obtain ⟨gx,hgx⟩:∃ g,g=wr.heap.size:=⟨_,rfl⟩
    have HNG:=sd (show bd < gx by rw [hgx];exact HNP.out.1);have HNX:=sd (show gx < w4.heap.size∧gx≠bd∧some gx≠vC.ownBlock∧some gx≠vT.ownBlock∧some gx≠vW.ownBlock from ⟨by rw [hgx];exact blk_lt bx,by rw [hgx];exact Nat.ne_of_gt HNP.out.1,fun e=>Nat.lt_irrefl _ (HNP.out.2.1 gx e.symm |> fun h=>hgx ▸ h),fun e=>Nat.lt_irrefl _ (HNP.out.2.2.1 gx e.symm |> fun h=>hgx ▸ h),fun e=>Nat.lt_irrefl _ (HNP.out.2.2.2 gx e.symm |> fun h=>hgx ▸ h)⟩);rw [← hgx] at bx ⊢;have BX:=sd bx;clear bx hgx;obtain ⟨z0,z1,z2,_,_,_⟩:=bk3 BX;go_wp2_with fail
    have hG4:Gl w4:=gl_bd (gl_below HG.out HB.out) HW.out zq28;refine (read_calls k bd bd p vC vT vW x p2 s2 w4 HP.out hbr4 hG4 HM.out).mono ?_;rintro e w5 ⟨rfl,⟨vC',vT',vW',hp2⟩,hf⟩;replace HP:=sd hp2;replace HW:=sd (HW.out.trans hf.b);clear hp2 z0 z1 z2 hG4;by_cases es:s2=14
    case pos =>
      obtain ⟨qs1,qs2⟩:=eqI es;have hh:=HN.out;rw [if_pos es] at hh;obtain ⟨rfl,h2⟩:=Prod.mk.inj (Option.some.inj hh);obtain ⟨rfl,rfl⟩:=Prod.mk.inj h2;clear hh h2 HN HM;have h:=HH.out;rw [if_neg (by decide)] at h;obtain ⟨rfl,rfl,rfl,rfl,rfl,rfl,rfl⟩:=h;have BX:=sd (hf.fr gx HNX.out.1 HNX.out.2.1 HNX.out.2.2.1 HNX.out.2.2.2.1 HNX.out.2.2.2.2 |>.trans BX.out);have BRw:=sd (HBRW.out _ HW.out);clear HH hf BR HR0 HP;obtain ⟨z0,z1,z2,_,_,_⟩:=bk3 BX;obtain ⟨v0,v1,v2,v3,v4,y0,y1,y2,y3,y4⟩:=bk5 BRw;subst es;go_wp2_with fail
      refine start_ (n:=6) (S:=fun w'=>w'.cell? ⟨gx,2,none⟩=some (.int .i64 x.f2)) (ds:=[]) #[false,false,false,false,false,false] (by kernel_rfl) rfl rfl z2 (fun hHeld=>?_);replace BRw:=sd (blk_below BRw.out (below_drew1 (Below.refl _ _)));replace HW:=sd (HBW.out _ HW.out |> fun h=>h.trans ((below_drew1 (Below.refl w5.heap.size w5)).mono h.size));replace BX:=sd (blk_below BX.out (below_drew1 (Below.refl _ _)));have HNE:=sd (show gx≠gr from fun e=>by have:=HGB2.out;have:=HNX.out.2.1;have:=HNG.out;omega);clear HNX HNP;generalize w5.drew=w9 at BRw HW BX hHeld ⊢;obtain ⟨v0,v1,v2,v3,v4,y0,y1,y2,y3,y4⟩:=bk5 BRw;refine pB 0 32 ?_;refine pB 1 33 ?_;refine tB 2 34 hHeld ?_;refine one_ (i:=3) (N:=none) #[true,true,true,true,false,false] rfl rfl (by kernel_rfl) (by decide) (fun K hK=>?_);refine skip_ (w1:=(((((w9.setCell ⟨gr,0,none⟩ (.string ⟨#[]⟩)).setCell ⟨gr,1,none⟩ (.slice none 0 0)).setCell ⟨gr,2,none⟩ (.string ⟨#[]⟩)).setCell ⟨gr,3,none⟩ (.string ⟨#[]⟩)).setCell ⟨gr,4,none⟩ (.slice none 0 0))) (by rfl) rfl (by go_simp;try rfl) ?_;refine hK.out _ _ ((blk_cell ((Below.heap_setCell _ _ _ gx HNE.out).trans ((Below.heap_setCell _ _ _ gx HNE.out).trans ((Below.heap_setCell _ _ _ gx HNE.out).trans ((Below.heap_setCell _ _ _ gx HNE.out).trans ((Below.heap_setCell _ _ _ gx HNE.out).trans BX.out))))) 2).trans rfl) (fun hHeld=>?_);clear hK K;refine pB 4 3 ?_;refine pB 5 4 ?_;refine done_ (by kernel_rfl) ?_;go_wp2_with fail
      exact noretP Post _ _ w gr _ _ rfl rfl rfl BRw.out HW.out HGR.out (fun W' hW'=>by rw [← HQ.out];exact ⟨_,_,rfl,Kd.R_nil _ _ _ _ _,Kd.R_nil _ _ _ _ _,hW'⟩)
    obtain ⟨qs1,qs2⟩:=neI es;have hh:=HN.out;rw [if_neg es] at hh;have HP1:=sd hh;clear hh HN HM hf;go_wp2_with fail
    go_roundw
    case rel=>exact ⟨i+1,{ p2 with st:=s2 },_,_,_,by omega,rfl,HP1,HP,HW⟩
    case measure =>
      refine Nat.sub_lt_sub_left hlt ?_;exact Nat.lt_succ_self i
def livesR:S25:=⟨⟨#[114,101,110,116]⟩,livesC,⟨#[53,49]⟩,⟨#[112]⟩,livesG⟩
theorem lives_walk (w:World) (hG:Gl w)
  (C1:Aside0 (∀ W,Calls Tryz.prog 27 #[] W fun e w'=>∃ v1 v4:Value,e=.returned (.agg #[.string ⟨#[114,101,110,116]⟩,v1,.string ⟨#[53,49]⟩,.string ⟨#[112]⟩,v4])∧Kd.R k48 48 w' W.heap.size (fun _=>True) v1 livesC∧Kd.R k50 50 w' W.heap.size (fun _=>True) v4 livesG∧Below W.heap.size W w'))
  (C2:Aside0 (∀ W A c A4 c4,Kd.C k48 W A livesC.length livesC→livesC.length≤c→Kd.C k50 W A4 livesG.length livesG→livesG.length≤c4→Gl W→Calls Tryz.prog 16 #[.agg #[.string ⟨#[114,101,110,116]⟩,.slice A livesC.length c,.string ⟨#[53,49]⟩,.string ⟨#[112]⟩,.slice A4 livesG.length c4]] W fun e w'=>e=.returned (.tuple #[.string livesX,.int .i64 0])∧Below W.heap.size W w'))
  (C3:Aside0 (∀ W,Gl W→Calls Tryz.prog 18 #[.string livesX] W fun e w'=>∃ v1 v4:Value,e=.returned (.tuple #[.agg #[.string ⟨#[114,101,110,116]⟩,v1,.string ⟨#[53,49]⟩,.string ⟨#[112]⟩,v4],.int .i64 0,.int .i64 0])∧Kd.R k48 48 w' W.heap.size (fun _=>True) v1 livesC∧Kd.R k50 50 w' W.heap.size (fun _=>True) v4 livesG∧Below W.heap.size W w'))
  (C4:Aside0 (∀ W,Gl W→Calls Tryz.prog 18 #[.string livesY] W fun e w'=>∃ v1 v4:Value,e=.returned (.tuple #[.agg #[.string ⟨#[]⟩,v1,.string ⟨#[]⟩,.string ⟨#[]⟩,v4],.int .i64 20,.int .i64 27])∧Kd.R k48 48 w' W.heap.size (fun _=>True) v1 []∧Kd.R k50 50 w' W.heap.size (fun _=>True) v4 []∧Below W.heap.size W w'))
  (C5:Aside0 (∀ W A c A4 c4 B d B4 d4,Kd.C k48 W A livesC.length livesC→livesC.length≤c→Kd.C k50 W A4 livesG.length livesG→livesG.length≤c4→Kd.C k48 W B livesC.length livesC→livesC.length≤d→Kd.C k50 W B4 livesG.length livesG→livesG.length≤d4→Calls Tryz.prog 19 #[.agg #[.string ⟨#[114,101,110,116]⟩,.slice A livesC.length c,.string ⟨#[53,49]⟩,.string ⟨#[112]⟩,.slice A4 livesG.length c4],.agg #[.string ⟨#[114,101,110,116]⟩,.slice B livesC.length d,.string ⟨#[53,49]⟩,.string ⟨#[112]⟩,.slice B4 livesG.length d4]] W fun e w'=>e=.returned (.bool true)∧Below W.heap.size W w'))
  (C6:Aside0 (∀ W A c A4 c4,Kd.C k48 W A livesC.length livesC→livesC.length≤c→Kd.C k50 W A4 livesG.length livesG→livesG.length≤c4→Gl W→Calls Tryz.prog 12 #[.agg #[.string ⟨#[114,101,110,116]⟩,.slice A livesC.length c,.string ⟨#[53,49]⟩,.string ⟨#[112]⟩,.slice A4 livesG.length c4],.agg #[.int .i64 9,.int .i64 (-120),.string ⟨#[]⟩,.string ⟨#[116,104,101,32,114,101,110,116]⟩]] W fun e w'=>e=.returned (.bool true)∧Below W.heap.size W w'))
  (C7:Aside0 (∀ W A,Kd.C k25 W A 2 [z25,livesR]→Gl W→Calls Tryz.prog 14 #[.slice A 2 2,.agg #[.int .i64 9,.int .i64 (-120),.string ⟨#[]⟩,.string ⟨#[116,104,101,32,114,101,110,116]⟩]] W fun e w'=>e=.returned (.int .i64 1)∧Below W.heap.size W w')) :
  Calls Tryz.prog 11 #[] w fun e w'=>e=.returned (.bool true)∧Below w.heap.size w w':=by
 have HP:=sd (show ∀ W,Below w.heap.size w W→(fun (e:Ending) (w':World)=>e=.returned (.bool true)∧Below w.heap.size w w') (.returned (.bool true)) W from fun W hW=>⟨rfl,hW⟩);generalize (fun (e:Ending) (w':World)=>e=.returned (.bool true)∧Below w.heap.size w w')=Post at HP ⊢;have HG:=sd hG;have HB:=sd (Below.refl w.heap.size w);clear hG;go_enter Tryz.func11,Tryz.ntmps11
 go_wp2_with fail
 refine (C1.out _).mono ?_;rintro e W1 ⟨v1,v4,rfl,hR,hT,hb⟩;obtain ⟨A1,c1,rfl,hc1,hC1⟩:=Kd.R_reads hR;obtain ⟨A4,c4,rfl,hc4,hC4⟩:=Kd.R_reads hT;replace HB:=sd (HB.out.trans (hb.mono HB.out.size));have P1:=sd hC1;have P2:=sd hc1;have P3:=sd hC4;have P4:=sd hc4;clear hR hT hb hC1 hc1 hC4 hc4;go_wp2_with fail
 refine (C2.out _ _ _ _ _ P1.out P2.out P3.out P4.out (gl_below HG.out HB.out)).mono ?_;rintro e W2 ⟨rfl,hb⟩;replace HB:=sd (HB.out.trans (hb.mono HB.out.size));clear hb P1 P2 P3 P4;go_wp2_with fail
 refine (C3.out _ (gl_below HG.out HB.out)).mono ?_;rintro e W3 ⟨v1,v4,rfl,hR,hT,hb⟩;obtain ⟨A,c,rfl,hc1,hC1⟩:=Kd.R_reads hR;obtain ⟨A4',c4',rfl,hc4,hC4⟩:=Kd.R_reads hT;replace HB:=sd (HB.out.trans (hb.mono HB.out.size));have P1:=sd hC1;have P2:=sd hc1;have P3:=sd hC4;have P4:=sd hc4;clear hR hT hb hC1 hc1 hC4 hc4;go_upto_region 3 with (fail)
 have hbl:=below_alloc (Below.refl W3.heap.size W3) (.cells #[.string ⟨#[114,101,110,116]⟩,.slice A livesC.length c,.string ⟨#[53,49]⟩,.string ⟨#[112]⟩,.slice A4' livesG.length c4'] 25);have b3:=blk_new W3 (.cells #[.string ⟨#[114,101,110,116]⟩,.slice A livesC.length c,.string ⟨#[53,49]⟩,.string ⟨#[112]⟩,.slice A4' livesG.length c4'] 25);generalize W3.alloc (.cells #[.string ⟨#[114,101,110,116]⟩,.slice A livesC.length c,.string ⟨#[53,49]⟩,.string ⟨#[112]⟩,.slice A4' livesG.length c4'] 25)=W4 at *;obtain ⟨g3,hg3⟩:∃ g,g=W3.heap.size:=⟨_,rfl⟩
 rw [← hg3] at b3 ⊢;have B3:=sd b3;replace P1:=sd (Kd.C_below P1.out hbl);replace P3:=sd (Kd.C_below P3.out hbl);replace HB:=sd (HB.out.trans (hbl.mono HB.out.size));clear hbl b3 hg3;go_wp2_with fail
 refine (C4.out _ (gl_below HG.out HB.out)).mono ?_;rintro e W5 ⟨v1,v4,rfl,hR,hT,hb⟩;obtain ⟨B_,d_,rfl⟩:=Kd.R_slice hR;obtain ⟨B4_,d4_,rfl⟩:=Kd.R_slice hT;replace B3:=sd (blk_below B3.out hb);replace P1:=sd (Kd.C_below P1.out hb);replace P3:=sd (Kd.C_below P3.out hb);replace HB:=sd (HB.out.trans (hb.mono HB.out.size));clear hR hT hb;go_upto_region 5 with (fail)
 obtain ⟨W6,hW6⟩:∃ W,W=W5.alloc (.cells #[.string ⟨#[]⟩,.slice B_ 0 d_,.string ⟨#[]⟩,.string ⟨#[]⟩,.slice B4_ 0 d4_] 25):=⟨_,rfl⟩
 have hb1:Below W5.heap.size W5 W6:=by rw [hW6];exact below_alloc (Below.refl _ _) _
 have e1:W6.heap.size=W5.heap.size+1:=by rw [hW6];simp
 rw [← hW6];have hb2:=below_alloc (Below.refl W6.heap.size W6) (.cells #[.int .i64 9,.int .i64 (-120),.string ⟨#[]⟩,.string ⟨#[116,104,101,32,114,101,110,116]⟩] 32);have b9:=blk_new W6 (.cells #[.int .i64 9,.int .i64 (-120),.string ⟨#[]⟩,.string ⟨#[116,104,101,32,114,101,110,116]⟩] 32);rw [e1] at b9;have hbx:=hb1.trans (hb2.mono hb1.size);generalize W6.alloc (.cells #[.int .i64 9,.int .i64 (-120),.string ⟨#[]⟩,.string ⟨#[116,104,101,32,114,101,110,116]⟩] 32)=W7 at *;obtain ⟨g9,hg9⟩:∃ g,g=W5.heap.size+1:=⟨_,rfl⟩
 rw [show (⟨W5.heap.size+1,0,none⟩:Addr)=⟨g9,0,none⟩ by rw [hg9]];rw [← hg9] at b9;have B9:=sd b9;replace B3:=sd (blk_below B3.out hbx);replace P1:=sd (Kd.C_below P1.out hbx);replace P3:=sd (Kd.C_below P3.out hbx);replace HB:=sd (HB.out.trans (hbx.mono HB.out.size));clear hW6 hb1 e1 hb2 b9 hbx hg9;have hbx:=below_drew1 (Below.refl W7.heap.size W7);replace B3:=sd (blk_below B3.out hbx);replace B9:=sd (blk_below B9.out hbx);replace HB:=sd (HB.out.trans (hbx.mono HB.out.size));replace P1:=sd (Kd.C_below P1.out hbx);replace P3:=sd (Kd.C_below P3.out hbx);clear hbx;obtain ⟨k0,k1,k2,k3,k4,_⟩:=bk5 B3;obtain ⟨m0,m1,m2,m3,_⟩:=bk4 B9;refine start_ (n:=41) (S:=fun w'=>w'.cell? ⟨g3,0,none⟩=some (.string ⟨#[114,101,110,116]⟩)∧w'.cell? ⟨g3,1,none⟩=some (.slice A livesC.length c)∧w'.cell? ⟨g3,2,none⟩=some (.string ⟨#[53,49]⟩)∧w'.cell? ⟨g3,3,none⟩=some (.string ⟨#[112]⟩)∧w'.cell? ⟨g3,4,none⟩=some (.slice A4' livesG.length c4')∧w'.cell? ⟨g9,0,none⟩=some (.int .i64 9)∧w'.cell? ⟨g9,1,none⟩=some (.int .i64 (-120))∧w'.cell? ⟨g9,2,none⟩=some (.string ⟨#[]⟩)∧w'.cell? ⟨g9,3,none⟩=some (.string ⟨#[116,104,101,32,114,101,110,116]⟩)) (ds:=[]) #[false,false,false,false,false,false,false,false,false,false,false,false,false,false,false,false,false,false,false,false,false,false,false,false,false,false,false,false,false,false,false,false,false,false,false,false,false,false,false,false,false] (by kernel_rfl) rfl rfl ⟨k0,k1,k2,k3,k4,m0,m1,m2,m3⟩ (fun hHeld=>?_);clear k0 k1 k2 k3 k4 m0 m1 m2 m3;generalize W7.drew=W8 at *;refine pB 0 26 ?_;refine pure_ (i:=1) (N:=some 27) (v:=.bool true) (a':=?_) #[true,true,false,false,false,false,false,false,false,false,false,false,false,false,false,false,false,false,false,false,false,false,false,false,false,false,false,false,false,false,false,false,false,false,false,false,false,false,false,false,false] rfl rfl (by kernel_rfl) (fun _ _ _ h=>h) (.inl ⟨by rfl,by intro w';go_simp;exact livesX_L⟩) ?_ ?_;rotate_left
 ·simp only [Act.put,List.setIfInBounds_toArray,List.set_cons_zero,List.set_cons_succ,i64_w,i32_w]
  rfl
 refine pB 2 28 ?_;refine pB 3 29 ?_;refine pB 4 30 ?_;refine pB 5 31 ?_;refine pB 6 32 ?_;refine tB 7 33 hHeld ?_;refine one_ (i:=8) (N:=some 34) #[true,true,true,true,true,true,true,true,true,false,false,false,false,false,false,false,false,false,false,false,false,false,false,false,false,false,false,false,false,false,false,false,false,false,false,false,false,false,false,false,false] rfl rfl (by kernel_rfl) (by decide) (fun K hK=>?_);refine goes_ Tryz.func27 (by kernel_rfl) rfl #[] (by rfl) rfl rfl zq30 ?_;refine (C1.out _).mono ?_;rintro e W9 ⟨v1,v4,rfl,hR,hT,hb⟩;obtain ⟨F1,Fc1,rfl,hc1,hC1⟩:=Kd.R_reads hR;obtain ⟨F4,Fc4,rfl,hc4,hC4⟩:=Kd.R_reads hT;have Q1:=sd hC1;have Q2:=sd hc1;have Q3:=sd hC4;have Q4:=sd hc4;clear hR hT hC1 hc1 hC4 hc4;refine ⟨_,rfl,?_⟩;replace B3:=sd (blk_below B3.out hb);replace B9:=sd (blk_below B9.out hb);replace HB:=sd (HB.out.trans (hb.mono HB.out.size));replace P1:=sd (Kd.C_below P1.out hb);replace P3:=sd (Kd.C_below P3.out hb);clear hb hHeld;obtain ⟨k0,k1,k2,k3,k4,_⟩:=bk5 B3;obtain ⟨m0,m1,m2,m3,_⟩:=bk4 B9;refine hK.out _ _ ⟨k0,k1,k2,k3,k4,m0,m1,m2,m3⟩ (fun hHeld=>?_);clear hK K k0 k1 k2 k3 k4 m0 m1 m2 m3;refine nA 34 ?_;refine one_ (i:=9) (N:=some 35) #[true,true,true,true,true,true,true,true,true,true,false,false,false,false,false,false,false,false,false,false,false,false,false,false,false,false,false,false,false,false,false,false,false,false,false,false,false,false,false,false,false] rfl rfl (by kernel_rfl) (by decide) (fun K hK=>?_);refine goes_ Tryz.func19 (by kernel_rfl) rfl #[.agg #[.string ⟨#[114,101,110,116]⟩,.slice A livesC.length c,.string ⟨#[53,49]⟩,.string ⟨#[112]⟩,.slice A4' livesG.length c4'],.agg #[.string ⟨#[114,101,110,116]⟩,.slice F1 livesC.length Fc1,.string ⟨#[53,49]⟩,.string ⟨#[112]⟩,.slice F4 livesG.length Fc4]] (by rfl) rfl rfl zq30 ?_;refine (C5.out _ _ _ _ _ _ _ _ _ P1.out P2.out P3.out P4.out Q1.out Q2.out Q3.out Q4.out).mono ?_;rintro e W10 ⟨rfl,hb⟩;refine ⟨_,rfl,?_⟩;replace B3:=sd (blk_below B3.out hb);replace B9:=sd (blk_below B9.out hb);replace HB:=sd (HB.out.trans (hb.mono HB.out.size));clear hb hHeld;obtain ⟨k0,k1,k2,k3,k4,_⟩:=bk5 B3;obtain ⟨m0,m1,m2,m3,_⟩:=bk4 B9;refine hK.out _ _ ⟨k0,k1,k2,k3,k4,m0,m1,m2,m3⟩ (fun hHeld=>?_);clear hK K k0 k1 k2 k3 k4 m0 m1 m2 m3;refine nA 35 ?_;clear P1 P2 P3 P4 Q1 Q2 Q3 Q4;refine pB 10 36 ?_;refine pB 11 37 ?_;refine pB 12 38 ?_;refine pB 13 39 ?_;refine pB 14 40 ?_;refine pB 15 41 ?_;refine pB 16 42 ?_;refine pB 17 43 ?_;refine pB 18 44 ?_;refine pB 19 45 ?_;refine pB 20 46 ?_;refine pB 21 47 ?_;refine pB 22 48 ?_;refine pB 23 49 ?_;refine pB 24 50 ?_;refine pB 25 51 ?_;refine pB 26 52 ?_;refine pB 27 53 ?_;refine tB 29 55 hHeld ?_;refine one_ (i:=28) (N:=some 54) #[true,true,true,true,true,true,true,true,true,true,true,true,true,true,true,true,true,true,true,true,true,true,true,true,true,true,true,true,true,true,false,false,false,false,false,false,false,false,false,false,false] rfl rfl (by kernel_rfl) (by decide) (fun K hK=>?_);refine goes_ Tryz.func27 (by kernel_rfl) rfl #[] (by rfl) rfl rfl zq30 ?_;refine (C1.out _).mono ?_;rintro e W11 ⟨v1,v4,rfl,hR,hT,hb⟩;obtain ⟨F1,Fc1,rfl,hc1,hC1⟩:=Kd.R_reads hR;obtain ⟨F4,Fc4,rfl,hc4,hC4⟩:=Kd.R_reads hT;have P1:=sd hC1;have P2:=sd hc1;have P3:=sd hC4;have P4:=sd hc4;clear hR hT hC1 hc1 hC4 hc4;refine ⟨_,rfl,?_⟩;replace B3:=sd (blk_below B3.out hb);replace B9:=sd (blk_below B9.out hb);replace HB:=sd (HB.out.trans (hb.mono HB.out.size));clear hb hHeld;obtain ⟨k0,k1,k2,k3,k4,_⟩:=bk5 B3;obtain ⟨m0,m1,m2,m3,_⟩:=bk4 B9;refine hK.out _ _ ⟨k0,k1,k2,k3,k4,m0,m1,m2,m3⟩ (fun hHeld=>?_);clear hK K k0 k1 k2 k3 k4 m0 m1 m2 m3;refine nA 54 ?_;refine one_ (i:=30) (N:=some 56) #[true,true,true,true,true,true,true,true,true,true,true,true,true,true,true,true,true,true,true,true,true,true,true,true,true,true,true,true,true,true,true,false,false,false,false,false,false,false,false,false,false] rfl rfl (by kernel_rfl) (by decide) (fun K hK=>?_);refine goes_ Tryz.func12 (by kernel_rfl) rfl #[.agg #[.string ⟨#[114,101,110,116]⟩,.slice F1 livesC.length Fc1,.string ⟨#[53,49]⟩,.string ⟨#[112]⟩,.slice F4 livesG.length Fc4],.agg #[.int .i64 9,.int .i64 (-120),.string ⟨#[]⟩,.string ⟨#[116,104,101,32,114,101,110,116]⟩]] (by rfl) rfl rfl zq30 ?_;refine (C6.out _ _ _ _ _ P1.out P2.out P3.out P4.out (gl_below HG.out HB.out)).mono ?_;rintro e W12 ⟨rfl,hb⟩;refine ⟨_,rfl,?_⟩;replace B3:=sd (blk_below B3.out hb);replace B9:=sd (blk_below B9.out hb);replace HB:=sd (HB.out.trans (hb.mono HB.out.size));clear hb hHeld;obtain ⟨k0,k1,k2,k3,k4,_⟩:=bk5 B3;obtain ⟨m0,m1,m2,m3,_⟩:=bk4 B9;refine hK.out _ _ ⟨k0,k1,k2,k3,k4,m0,m1,m2,m3⟩ (fun hHeld=>?_);clear hK K k0 k1 k2 k3 k4 m0 m1 m2 m3;refine nA 56 ?_;clear P1 P2 P3 P4;refine pB 31 57 ?_;refine pB 32 58 ?_;refine pB 33 59 ?_;refine tB 36 62 hHeld ?_;refine one_ (i:=34) (N:=some 60) #[true,true,true,true,true,true,true,true,true,true,true,true,true,true,true,true,true,true,true,true,true,true,true,true,true,true,true,true,true,true,true,true,true,true,true,false,true,false,false,false,false] rfl rfl (by kernel_rfl) (by decide) (fun K hK=>?_);refine goes_ Tryz.func27 (by kernel_rfl) rfl #[] (by rfl) rfl rfl zq30 ?_;refine (C1.out _).mono ?_;rintro e W13 ⟨v1,v4,rfl,hR,hT,hb⟩;obtain ⟨F1,Fc1,rfl,hc1,hC1⟩:=Kd.R_reads hR;obtain ⟨F4,Fc4,rfl,hc4,hC4⟩:=Kd.R_reads hT;have P1:=sd hC1;have P2:=sd hc1;have P3:=sd hC4;have P4:=sd hc4;clear hR hT hC1 hc1 hC4 hc4;refine ⟨_,rfl,?_⟩;replace B3:=sd (blk_below B3.out hb);replace B9:=sd (blk_below B9.out hb);replace HB:=sd (HB.out.trans (hb.mono HB.out.size));clear hb hHeld;obtain ⟨k0,k1,k2,k3,k4,_⟩:=bk5 B3;obtain ⟨m0,m1,m2,m3,_⟩:=bk4 B9;refine hK.out _ _ ⟨k0,k1,k2,k3,k4,m0,m1,m2,m3⟩ (fun hHeld=>?_);clear hK K k0 k1 k2 k3 k4 m0 m1 m2 m3;refine nA 60 ?_;have T2:=sd (two25 W13 livesR P2.out P1.out P4.out P3.out);refine one_ (i:=35) (N:=some 61) #[true,true,true,true,true,true,true,true,true,true,true,true,true,true,true,true,true,true,true,true,true,true,true,true,true,true,true,true,true,true,true,true,true,true,true,true,true,false,false,false,false] rfl rfl (by kernel_rfl) (by decide) (fun K hK=>?_);refine value_ (v:=.slice (some ⟨W13.heap.size,0,none⟩) 2 2) (w1:=W13.alloc (.cells #[.string ⟨#[]⟩,.slice none 0 0,.string ⟨#[]⟩,.string ⟨#[]⟩,.slice none 0 0,.string ⟨#[114,101,110,116]⟩,.slice F1 livesC.length Fc1,.string ⟨#[53,49]⟩,.string ⟨#[112]⟩,.slice F4 livesG.length Fc4] 25)) (by rfl) rfl (by go_simp) ?_;have hb:=below_alloc (Below.refl W13.heap.size W13) (.cells #[.string ⟨#[]⟩,.slice none 0 0,.string ⟨#[]⟩,.string ⟨#[]⟩,.slice none 0 0,.string ⟨#[114,101,110,116]⟩,.slice F1 livesC.length Fc1,.string ⟨#[53,49]⟩,.string ⟨#[112]⟩,.slice F4 livesG.length Fc4] 25);replace B3:=sd (blk_below B3.out hb);replace B9:=sd (blk_below B9.out hb);replace HB:=sd (HB.out.trans (hb.mono HB.out.size));clear hb hHeld P1 P2 P3 P4;obtain ⟨k0,k1,k2,k3,k4,_⟩:=bk5 B3;obtain ⟨m0,m1,m2,m3,_⟩:=bk4 B9;refine hK.out _ _ ⟨k0,k1,k2,k3,k4,m0,m1,m2,m3⟩ (fun hHeld=>?_);clear hK K k0 k1 k2 k3 k4 m0 m1 m2 m3;refine nA 61 ?_;refine one_ (i:=37) (N:=some 63) #[true,true,true,true,true,true,true,true,true,true,true,true,true,true,true,true,true,true,true,true,true,true,true,true,true,true,true,true,true,true,true,true,true,true,true,true,true,true,false,false,false] rfl rfl (by kernel_rfl) (by decide) (fun K hK=>?_);refine goes_ Tryz.func14 (by kernel_rfl) rfl #[.slice (some ⟨W13.heap.size,0,none⟩) 2 2,.agg #[.int .i64 9,.int .i64 (-120),.string ⟨#[]⟩,.string ⟨#[116,104,101,32,114,101,110,116]⟩]] (by rfl) rfl rfl zq30 ?_;refine (C7.out _ _ T2.out (gl_below HG.out HB.out)).mono ?_;rintro e W14 ⟨rfl,hb⟩;refine ⟨_,rfl,?_⟩;replace B3:=sd (blk_below B3.out hb);replace B9:=sd (blk_below B9.out hb);replace HB:=sd (HB.out.trans (hb.mono HB.out.size));clear hb hHeld;obtain ⟨k0,k1,k2,k3,k4,_⟩:=bk5 B3;obtain ⟨m0,m1,m2,m3,_⟩:=bk4 B9;refine hK.out _ _ ⟨k0,k1,k2,k3,k4,m0,m1,m2,m3⟩ (fun hHeld=>?_);clear hK K k0 k1 k2 k3 k4 m0 m1 m2 m3;refine nA 63 ?_;refine pB 38 64 ?_;refine pB 39 65 ?_;refine pB 40 0 ?_;refine done_ (by kernel_rfl) ?_;go_wp2_with fail
 exact HP.out _ HB.out
end Go.Proofs.YtkbgkekegjfkfaaGreatDoor.A
