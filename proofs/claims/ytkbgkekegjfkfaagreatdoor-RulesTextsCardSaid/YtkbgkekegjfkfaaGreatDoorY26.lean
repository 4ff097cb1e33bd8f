-- By pack.py, a program of this session's.
import Derived.Test.YtkbgkekegjfkfaaGreatDoorY14
import Derived.Test.YtkbgkekegjfkfaaGreatDoorY23
import Derived.Test.YtkbgkekegjfkfaaGreatDoorY24
set_option linter.unusedVariables false
set_option linter.unusedSimpArgs false
namespace Go.Proofs.YtkbgkekegjfkfaaGreatDoor.A
open Go.RowKit B WW WL WM
attribute [local go_sem] max2_int min2_int max_two min_two max_three min_three max_four min_four
set_option maxHeartbeats 8000000
set_option maxRecDepth 100000
theorem head_all (k bd g:Nat) (p:PR) (vC vT vW:Value) (x:S73) (code:Bool) (p':PR) (r:Int) (w:World) (hp:RP w bd g p vC vT vW) (hbd:bd≤w.heap.size) (hG:Gl w) (h:moveR k p x code=some (p',r)) :
    Calls Tryz.prog 81 #[.pointer (some ⟨g,0,none⟩),.agg #[.int .i64 x.f0,.string x.f1,.int .i64 x.f2],.bool code] w (StepPost bd g vC vT vW p' r w):=by
  rcases Int.lt_or_le p.st 5 with h5 | h5
  · unfold moveR at h
    by_cases e:p.st=0
    · rw [if_pos e] at h;obtain ⟨rfl,rfl⟩:=Prod.mk.inj (Option.some.inj h);exact head_0 bd g p vC vT vW x code w hp hbd e
    rw [if_neg e] at h;by_cases e:p.st=1
    · rw [if_pos e] at h;obtain ⟨rfl,rfl⟩:=Prod.mk.inj (Option.some.inj h);exact head_1 bd g p vC vT vW x code w hp hbd e
    rw [if_neg e] at h;by_cases e:p.st=2
    · rw [if_pos e] at h;obtain ⟨rfl,rfl⟩:=Prod.mk.inj (Option.some.inj h);exact head_2 bd g p vC vT vW x code w hp hbd e
    rw [if_neg e] at h;by_cases e:p.st=3
    · rw [if_pos e] at h
      by_cases c:p.cs.length≤1000000
      · rw [if_pos c] at h;obtain ⟨rfl,rfl⟩:=Prod.mk.inj (Option.some.inj h);exact head_3 bd g p vC vT vW x code w hp hbd e hG c
      rw [if_neg c] at h;cases h
    rw [if_neg e] at h;by_cases e:p.st=4
    · rw [if_pos e] at h
      by_cases c:0 < p.cs.length
      · rw [if_pos c] at h
        obtain ⟨b,hb,h⟩:=Option.bind_eq_some_iff.mp h;obtain ⟨rfl,rfl⟩:=Prod.mk.inj (Option.some.inj h);exact head_4 bd g p vC vT vW x code w hp hbd e hG c k b hb
      rw [if_neg c] at h;cases h
    rw [if_neg e,if_neg (by omega),if_neg (by omega),if_neg (by omega),if_neg (by omega),if_neg (by omega),if_neg (by omega),if_neg (by omega),if_neg (by omega),if_neg (by omega)] at h
    cases h
  · exact head_t bd g p vC vT vW x code p' r w hp hbd h5 (fun W hW hb=>tail_all k bd g p vC vT vW x code p' r W hW hb h5 h)
theorem read_calls (k bd g:Nat) (p:PR) (vC vT vW:Value) (x:S73) (p':PR) (r:Int) (w:World) (hp:RP w bd g p vC vT vW) (hbd:bd≤w.heap.size) (hG:Gl w) (h:moveR k p x (codeX x)=some (p',r)) :
    Calls Tryz.prog 40 #[.pointer (some ⟨g,0,none⟩),.agg #[.int .i64 x.f0,.string x.f1,.int .i64 x.f2]] w (ReadPost bd g vC vT vW p' r w):=by
  have HP:=sd hp;have HF:=sd (FP.refl bd g vC vT vW w);have HG:=sd hG;have HH:=sd h;clear hp hG h;generalize hQ:ReadPost bd g vC vT vW p' r w=Post;have HQ:=sd hQ;clear hQ;go_enter Tryz.func40,Tryz.ntmps40
  go_upto_region 1 with (fail)
  have hB1:=below_alloc (Below.refl w.heap.size w) (Obj.cells #[Value.int IntKind.i64 x.f0,Value.string x.f1,Value.int IntKind.i64 x.f2] 73);have b0:(w.alloc (Obj.cells #[Value.int IntKind.i64 x.f0,Value.string x.f1,Value.int IntKind.i64 x.f2] 73)).heap[w.heap.size]?=some (.cells #[Value.int IntKind.i64 x.f0,Value.string x.f1,Value.int IntKind.i64 x.f2] 73 (0,0)):=blk_new _ _;replace HP:=sd (HP.out.below hB1);replace HF:=sd (HF.out.below hB1 hbd);replace HG:=sd (gl_below HG.out hB1);generalize w.alloc (Obj.cells #[Value.int IntKind.i64 x.f0,Value.string x.f1,Value.int IntKind.i64 x.f2] 73)=w1 at *;obtain ⟨gw,hgw⟩:∃ gw,gw=w.heap.size:=⟨_,rfl⟩
  rw [← hgw] at b0 ⊢;have BW:=sd b0;clear b0 hB1 hgw;obtain ⟨w0_,w1_,w2_,_,_,_⟩:=bk3 BW;by_cases e1:x.f0=1
  · obtain ⟨q1,q1_⟩:=eqI e1
    have hcx:codeX x=true:=decide_eq_true (Or.inl e1);rw [hcx] at HH;clear hcx e1;go_wp2_with fail
    refine (head_all k bd g p vC vT vW x _ p' r w1 HP.out (below_base HF.out.b hbd) HG.out HH.out).mono ?_;rintro e wn ⟨rfl,⟨vC',vT',vW',hp2⟩,hf2⟩;replace HF:=sd (HF.out.trans hf2);have HP2:=sd hp2;clear hf2 hp2 w0_ w1_ w2_;obtain ⟨⟨k0,k1,k2,k3,k4,k5,k6⟩,f0,f1,f2,f3,f4,f5,f6⟩:=HP2.out.facts;go_wp2_with fail
    rw [← HQ.out];exact ⟨by (try rfl),⟨_,_,_,HP2.out.set 5 (.int .i64 r) { p' with st:=r } rfl rfl rfl rfl⟩,FP.set (o:=5) HF.out HP2.out.hbd (.int .i64 r)⟩
  obtain ⟨q1,q1_⟩:=neI e1;by_cases e2:x.f0=2
  · obtain ⟨q2,q2_⟩:=eqI e2
    have hcx:codeX x=true:=decide_eq_true (Or.inr e2);rw [hcx] at HH;clear hcx e1 e2;go_wp2_with fail
    refine (head_all k bd g p vC vT vW x _ p' r w1 HP.out (below_base HF.out.b hbd) HG.out HH.out).mono ?_;rintro e wn ⟨rfl,⟨vC',vT',vW',hp2⟩,hf2⟩;replace HF:=sd (HF.out.trans hf2);have HP2:=sd hp2;clear hf2 hp2 w0_ w1_ w2_;obtain ⟨⟨k0,k1,k2,k3,k4,k5,k6⟩,f0,f1,f2,f3,f4,f5,f6⟩:=HP2.out.facts;go_wp2_with fail
    rw [← HQ.out];exact ⟨by (try rfl),⟨_,_,_,HP2.out.set 5 (.int .i64 r) { p' with st:=r } rfl rfl rfl rfl⟩,FP.set (o:=5) HF.out HP2.out.hbd (.int .i64 r)⟩
  obtain ⟨q2,q2_⟩:=neI e2;have hcx:codeX x=false:=decide_eq_false (fun h=>h.elim e1 e2);rw [hcx] at HH;clear hcx e1 e2;go_wp2_with fail
  refine (head_all k bd g p vC vT vW x _ p' r w1 HP.out (below_base HF.out.b hbd) HG.out HH.out).mono ?_;rintro e wn ⟨rfl,⟨vC',vT',vW',hp2⟩,hf2⟩;replace HF:=sd (HF.out.trans hf2);have HP2:=sd hp2;clear hf2 hp2 w0_ w1_ w2_;obtain ⟨⟨k0,k1,k2,k3,k4,k5,k6⟩,f0,f1,f2,f3,f4,f5,f6⟩:=HP2.out.facts;go_wp2_with fail
  rw [← HQ.out];exact ⟨by (try rfl),⟨_,_,_,HP2.out.set 5 (.int .i64 r) { p' with st:=r } rfl rfl rfl rfl⟩,FP.set (o:=5) HF.out HP2.out.hbd (.int .i64 r)⟩
theorem rules_Parse.calls (k:Nat) (a0 r1:ByteArray) (r2:List S48) (r3 r4:ByteArray) (r5:List S50) (r6 r7:Int) (w:World) (h:rules_Parse.f k a0=some (r1,r2,r3,r4,r5,r6,r7)) (hG:Gl w) :
    Calls Tryz.prog 18 #[.string a0] w fun e w'=>∃ v2_ v5_:Value,e=.returned (.tuple #[.agg #[.string r1,v2_,.string r3,.string r4,v5_],.int .i64 r6,.int .i64 r7])∧Kd.R k48 48 w' w.heap.size (fun _=>True) v2_ r2∧Kd.R k50 50 w' w.heap.size (fun _=>True) v5_ r5∧Below w.heap.size w w':=by
  have hgb:=gl_lt hG;have HG:=sd hG;have HGB:=sd hgb;unfold rules_Parse.f at h;obtain ⟨⟨cw,ca,ce⟩,hc,h⟩:=Option.bind_eq_some_iff.mp h;have HC:=sd (fun W=>words_Cut.calls k a0 cw ca ce W hc);have H:=sd h;clear h hc hG hgb;generalize hQ:(fun (e:Ending) (w':World)=>∃ v2_ v5_:Value,e=.returned (.tuple #[.agg #[.string r1,v2_,.string r3,.string r4,v5_],.int .i64 r6,.int .i64 r7])∧Kd.R k48 48 w' w.heap.size (fun _=>True) v2_ r2∧Kd.R k50 50 w' w.heap.size (fun _=>True) v5_ r5∧Below w.heap.size w w')=Post;have HQ:=sd hQ;clear hQ;go_enter Tryz.func18,Tryz.ntmps18
  go_upto_region 1 with (fail)
  have hB1:=below_alloc (Below.refl w.heap.size w) (Obj.cells #[Value.string ⟨#[]⟩,Value.slice none 0 0,Value.string ⟨#[]⟩,Value.string ⟨#[]⟩,Value.slice none 0 0] 25);have b0:(w.alloc (Obj.cells #[Value.string ⟨#[]⟩,Value.slice none 0 0,Value.string ⟨#[]⟩,Value.string ⟨#[]⟩,Value.slice none 0 0] 25)).heap[w.heap.size]?=some (.cells #[Value.string ⟨#[]⟩,Value.slice none 0 0,Value.string ⟨#[]⟩,Value.string ⟨#[]⟩,Value.slice none 0 0] 25 (0,0)):=blk_new _ _;generalize w.alloc (Obj.cells #[Value.string ⟨#[]⟩,Value.slice none 0 0,Value.string ⟨#[]⟩,Value.string ⟨#[]⟩,Value.slice none 0 0] 25)=w1 at *;obtain ⟨gr,hgr⟩:∃ g,g=w.heap.size:=⟨_,rfl⟩
  have HGR:=sd (show w.heap.size≤gr by omega);have hr2:(⟨w.heap.size,0,none⟩:Addr)=⟨gr,0,none⟩:=by rw [hgr]
  rw [← hgr] at b0;rw [hr2];have BR:=sd b0;have HB:=sd hB1;clear b0 hB1 hgr hr2;go_wp2_with fail
  refine (HC.out _).mono ?_;rintro e w2 ⟨v0,rfl,hR0,hb⟩;obtain ⟨va,vc,rfl⟩:=Kd.R_slice hR0;have HR0:=sd (Kd.R_reads' hR0).2.2;have HCV:=sd (Kd.R_reads' hR0).2.1;replace BR:=sd (blk_below BR.out hb);replace HB:=sd (HB.out.trans (hb.mono HB.out.size));clear hb hR0 HC;by_cases hz:ce=0
  case neg =>
    have h:=H.out;rw [if_neg hz] at h;obtain ⟨rfl,rfl,rfl,rfl,rfl,rfl,rfl⟩:=h;obtain ⟨q1,q2⟩:=neI hz;obtain ⟨z0,z1,z2,z3,z4,y0,y1,y2,y3,y4⟩:=bk5 BR;clear hz H;go_wp2_with fail
    exact noretP Post _ _ w gr _ _ rfl rfl rfl BR.out HB.out HGR.out (fun W' hW'=>by rw [← HQ.out];exact ⟨_,_,rfl,Kd.R_nil _ _ _ _ _,Kd.R_nil _ _ _ _ _,hW'⟩)
  have h:=H.out;rw [if_pos hz] at h;subst hz;obtain ⟨⟨p1,at1,e1⟩,hp,h⟩:=Option.bind_eq_some_iff.mp h;have HP1:=sd hp;have HH:=sd h;clear h H hp;go_upto_region 5 with (fail)
  have hB1:=below_alloc (Below.refl w2.heap.size w2) (Obj.cells #[Value.string ⟨#[]⟩,Value.slice none 0 0,Value.string ⟨#[]⟩,Value.string ⟨#[]⟩,Value.slice none 0 0,Value.int IntKind.i64 0,Value.slice none 0 0] 71);have b0:(w2.alloc (Obj.cells #[Value.string ⟨#[]⟩,Value.slice none 0 0,Value.string ⟨#[]⟩,Value.string ⟨#[]⟩,Value.slice none 0 0,Value.int IntKind.i64 0,Value.slice none 0 0] 71)).heap[w2.heap.size]?=some (.cells #[Value.string ⟨#[]⟩,Value.slice none 0 0,Value.string ⟨#[]⟩,Value.string ⟨#[]⟩,Value.slice none 0 0,Value.int IntKind.i64 0,Value.slice none 0 0] 71 (0,0)):=blk_new _ _;generalize w2.alloc (Obj.cells #[Value.string ⟨#[]⟩,Value.slice none 0 0,Value.string ⟨#[]⟩,Value.string ⟨#[]⟩,Value.slice none 0 0,Value.int IntKind.i64 0,Value.slice none 0 0] 71)=w3 at *;obtain ⟨bd,hbd⟩:∃ b,b=w2.heap.size:=⟨_,rfl⟩
  have hW3:Below bd w2 w3:=by rw [hbd];exact hB1
  rw [show (⟨w2.heap.size,0,none⟩:Addr)=⟨bd,0,none⟩ from by rw [hbd]];rw [← hbd] at b0;have HP:=sd (RP.mk (bd:=bd) (p:=pr0) b0 (Kd.R_nil _ _ _ _ _) (Kd.R_nil _ _ _ _ _) (Kd.R_nil _ _ _ _ _) (Nat.le_refl _));have HBD:=sd (show bd≤w3.heap.size from by rw [hbd];exact hB1.size);have HW:=sd hW3;have HBE:=sd hbd;have HGB2:=sd (show gr < bd by rw [hbd];exact blk_lt BR.out);clear b0 hB1 hW3 hbd;go_wp2_with fail
  have HLE:=sd (show w.heap.size≤bd by rw [HBE.out];exact HB.out.size);have HBRW:=sd (fun (W:World) (hb:Below bd w2 W)=>(hb.block gr HGB2.out).trans BR.out);have HBW:=sd (fun (W:World) (hb:Below bd w2 W)=>(HB.out.trans (hb.mono (Nat.le_trans HB.out.size (Nat.le_of_eq HBE.out.symm))):Below w.heap.size w W));have HGW:=sd (fun (W:World) (hb:Below bd w2 W)=>gl_bd (gl_below HG.out HB.out) hb zq28);have HGBD:=sd (show GlLt bd from zq28);go_loopw [24] (fun n_ wr=>∃ (i:Nat) (p:PR) (vC vT vW:Value),i≤cw.length∧n_=.int .i64 (i:Int)∧Aside0 (parL k (cw.drop i) p=some (p1,at1,e1))∧Aside0 (RP wr bd bd p vC vT vW)∧Aside0 (Below bd w2 wr)) (fun n_ _=>(cw.length - (RowKit.intOf n_).toNat))
  case atStart=>exact ⟨0,pr0,_,_,_,Nat.zero_le _,rfl,HP1,HP,HW⟩
  case round =>
    clear HP1 HP HW;obtain ⟨i,p,vC,vT,vW,hi,rfl,HP1,HP,HW⟩:=hrel;rename World=>wr
    have hlw:cw.length≤9223372036854775807:=HR0.out.2.1;by_cases hlt:i < cw.length
    case neg =>
      obtain rfl:i=cw.length:=by omega
      have hlt':¬ (cw.length:Int) < (cw.length:Int):=by omega
      have hh:=HP1.out;rw [List.drop_length] at hh;obtain ⟨rfl,h2⟩:=Prod.mk.inj (Option.some.inj hh);obtain ⟨rfl,rfl⟩:=Prod.mk.inj h2;clear hh h2 HP1;have h:=HH.out;rw [if_pos rfl] at h;have BRw:=sd (HBRW.out _ HW.out);clear HH BR HR0;by_cases e813:p.st=8∨p.st=13
      case neg =>
        rw [if_neg e813] at h;obtain ⟨rfl,rfl,rfl,rfl,rfl,rfl,rfl⟩:=h;obtain ⟨q1,q2⟩:=neI (show ¬ p.st=8 from fun e=>e813 (Or.inl e));obtain ⟨q3,q4⟩:=neI (show ¬ p.st=13 from fun e=>e813 (Or.inr e));obtain ⟨⟨k0,k1,k2,k3,k4,k5,k6⟩,f0,f1,f2,f3,f4,f5,f6⟩:=HP.out.facts;obtain ⟨z0,z1,z2,z3,z4,y0,y1,y2,y3,y4⟩:=bk5 BRw;clear e813;go_wp2_with fail
        exact noretP Post _ _ w gr _ _ rfl rfl rfl BRw.out (HBW.out _ HW.out) HGR.out (fun W' hW'=>by rw [← HQ.out];exact ⟨_,_,rfl,Kd.R_nil _ _ _ _ _,Kd.R_nil _ _ _ _ _,hW'⟩)
      rw [if_pos e813] at h;by_cases hn:0 < p.cs.length∧p.ws.length≤1000000
      case neg=>rw [if_neg hn] at h;cases h
      rw [if_pos hn] at h;obtain ⟨⟨cs2,at2,e2⟩,hv,h⟩:=Option.bind_eq_some_iff.mp h;have HV:=sd hv;have H2:=sd h;have HN:=sd hn;clear h hv hn;obtain ⟨⟨k0,k1,k2,k3,k4,k5,k6⟩,f0,f1,f2,f3,f4,f5,f6⟩:=HP.out.facts;have hbr:bd≤wr.heap.size:=by rw [HBE.out];exact HW.out.size
      have HBR:=sd hbr;clear hbr;rcases e813 with e8 | e8
      all_goals (first | (change p.st=8 at e8;obtain ⟨q1,q2⟩:=eqI e8;clear e8;go_wp2_with fail) | (change p.st=13 at e8;obtain ⟨q1,q2⟩:=eqI e8;obtain ⟨q3,q4⟩:=neI (show ¬ p.st=8 by omega);clear e8;go_wp2_with fail))
      all_goals
        refine (values_calls k bd bd p vC vT vW cs2 at2 e2 wr HP.out HBR.out HN.out.1 HN.out.2 (HGW.out _ HW.out) HGBD.out HV.out).mono ?_;rintro e w5 ⟨rfl,⟨vC',vT',vW',hp2⟩,hf⟩;replace HP:=sd hp2;replace HW:=sd (HW.out.trans hf.b);clear hp2 hf HV k0 k1 k2 k3 k4 k5 k6 f0 f1 f2 f3 f4 f5 f6 q1 q2 BRw;(try clear q3 q4)
        have BRw:=sd (HBRW.out _ HW.out);clear HN;obtain ⟨z0,z1,z2,z3,z4,y0,y1,y2,y3,y4⟩:=bk5 BRw;by_cases e20:e2=0
        case neg =>
          have h:=H2.out;rw [if_neg e20] at h;obtain ⟨rfl,rfl,rfl,rfl,rfl,rfl,rfl⟩:=h;obtain ⟨q1,q2⟩:=neI e20;clear e20 H2;go_wp2_with fail
          exact noretP Post _ _ w gr _ _ rfl rfl rfl BRw.out (HBW.out _ HW.out) HGR.out (fun W' hW'=>by rw [← HQ.out];exact ⟨_,_,rfl,Kd.R_nil _ _ _ _ _,Kd.R_nil _ _ _ _ _,hW'⟩)
        have h:=H2.out;rw [if_pos e20] at h;subst e20;obtain ⟨ec,hec,h⟩:=Option.bind_eq_some_iff.mp h;obtain ⟨AC,cC,rfl⟩:=Kd.R_slice HP.out.rC;obtain ⟨AT,cT,rfl⟩:=Kd.R_slice HP.out.rT;obtain ⟨_,hcC,hCC⟩:=Kd.R_reads' HP.out.rC;obtain ⟨_,hcT,hCT⟩:=Kd.R_reads' HP.out.rT;have NC:=sd (fun W hC hT=>rules_Check.calls k p.nm AC cC cs2 p.acc p.par AT cT p.tg ec W hC hcC hT hcT hec);have H3:=sd h;have CC:=sd hCC;have CT:=sd hCT;clear H2 h hec hcC hCC hcT hCT;obtain ⟨⟨k0,k1,k2,k3,k4,k5,k6⟩,f0,f1,f2,f3,f4,f5,f6⟩:=HP.out.facts;go_wp2_with fail
        refine (NC.out _ CC.out CT.out).mono ?_;rintro e w6 ⟨rfl,hb⟩;clear k0 k1 k2 k3 k4 k5 k6 f0 f1 f2 f3 f4 f5 f6 z0 z1 z2 z3 z4 y0 y1 y2 y3 y4 NC CC CT;replace HP:=sd (HP.out.below hb);replace BRw:=sd (blk_below BRw.out hb);replace HW:=sd (HBW.out _ HW.out |> fun h=>h.trans (hb.mono h.size));clear hb;obtain ⟨z0,z1,z2,z3,z4,y0,y1,y2,y3,y4⟩:=bk5 BRw;obtain ⟨⟨k0,k1,k2,k3,k4,k5,k6⟩,f0,f1,f2,f3,f4,f5,f6⟩:=HP.out.facts;by_cases e30:ec=0
        case neg =>
          have h:=H3.out;rw [if_neg e30] at h;obtain ⟨rfl,rfl,rfl,rfl,rfl,rfl,rfl⟩:=h;obtain ⟨q1,q2⟩:=neI e30;clear e30 H3;go_wp2_with fail
          exact noretP Post _ _ w gr _ _ rfl rfl rfl BRw.out HW.out HGR.out (fun W' hW'=>by rw [← HQ.out];exact ⟨_,_,rfl,Kd.R_nil _ _ _ _ _,Kd.R_nil _ _ _ _ _,hW'⟩)
        have h:=H3.out;rw [if_pos e30] at h;subst e30;obtain ⟨rfl,rfl,rfl,rfl,rfl,rfl,rfl⟩:=h;go_wp2_with fail
        exact yesretP Post _ _ w gr bd _ _ _ _ _ _ _ rfl rfl rfl BRw.out HW.out HGR.out HP.out.rC HP.out.rT (fun W' hC hT hW'=>by rw [← HQ.out];exact ⟨_,_,rfl,Kd.R_lower hC HLE.out,Kd.R_lower hT HLE.out,hW'⟩)
    have hlt':(i:Int) < (cw.length:Int):=by omega
    have h0:(0:Int)≤(i:Int):=by omega
    have hw:wrap64 ((i:Int)+1)=((i+1:Nat):Int):=by unfold wrap64;omega
    obtain ⟨ad,e,x0,x1,x2⟩:=at_T73 HR0.out (i:Int) (by omega) (by omega);have y0:=(HW.out.cell (p:=_) (by rw [HBE.out];exact World.block_lt_of_cell? _ _ x0)).trans x0;have y1:=(HW.out.cell (p:=_) (by rw [HBE.out];exact World.block_lt_of_cell? _ _ x1)).trans x1;have y2:=(HW.out.cell (p:=_) (by rw [HBE.out];exact World.block_lt_of_cell? _ _ x2)).trans x2;clear x0 x1 x2
    cases e
    simp only [Int.toNat_natCast] at y0 y1 y2
    have hd:cw.drop i=rd_T73 cw (i:Int) :: cw.drop (i+1):=by
      unfold rd_T73;rw [List.drop_eq_getElem_cons hlt,Int.toNat_natCast,List.getD_eq_getElem?_getD,List.getElem?_eq_getElem hlt];rfl
    obtain ⟨x,hx⟩:∃ x,rd_T73 cw (i:Int)=x:=⟨_,rfl⟩
    rw [hx] at hd y0 y1 y2;have hh:=HP1.out;rw [hd,parL] at hh;obtain ⟨⟨p2,s2⟩,hm,hh⟩:=Option.bind_eq_some_iff.mp hh;have HM:=sd hm;have HN:=sd hh;clear hd hx HP1 hm hh;have HNP:=sd (show bd < wr.heap.size∧(∀ k,vC.ownBlock=some k→k < wr.heap.size)∧(∀ k,vT.ownBlock=some k→k < wr.heap.size)∧(∀ k,vW.ownBlock=some k→k < wr.heap.size) from ⟨blk_lt HP.out.blk,fun k hk=>((Kd.R_bound HP.out.rC).1 k hk).2.2.1,fun k hk=>((Kd.R_bound HP.out.rT).1 k hk).2.2.1,fun k hk=>((Kd.R_bound HP.out.rW).1 k hk).2.2.1⟩);go_upto_region 8 with (fail)
    have hbr:bd≤wr.heap.size:=by rw [HBE.out];exact HW.out.size
    have hbx:=below_alloc (Below.refl wr.heap.size wr) (Obj.cells #[Value.int IntKind.i64 x.f0,Value.string x.f1,Value.int IntKind.i64 x.f2] 73);have bx:(wr.alloc (Obj.cells #[Value.int IntKind.i64 x.f0,Value.string x.f1,Value.int IntKind.i64 x.f2] 73)).heap[wr.heap.size]?=some (.cells #[Value.int IntKind.i64 x.f0,Value.string x.f1,Value.int IntKind.i64 x.f2] 73 (0,0)):=blk_new _ _;replace HP:=sd (HP.out.below hbx);replace HW:=sd (HW.out.trans (hbx.mono hbr));have hbr4:bd≤(wr.alloc (Obj.cells #[Value.int IntKind.i64 x.f0,Value.string x.f1,Value.int IntKind.i64 x.f2] 73)).heap.size:=Nat.le_trans hbr hbx.size;clear y0 y1 y2 hbx;generalize wr.alloc (Obj.cells #[Value.int IntKind.i64 x.f0,Value.string x.f1,Value.int IntKind.i64 x.f2] 73)=w4 at *;obtain ⟨gx,hgx⟩:∃ g,g=wr.heap.size:=⟨_,rfl⟩
    have HNG:=sd (show bd < gx by rw [hgx];exact HNP.out.1);have HNX:=sd (show gx < w4.heap.size∧gx≠bd∧some gx≠vC.ownBlock∧some gx≠vT.ownBlock∧some gx≠vW.ownBlock from ⟨by rw [hgx];exact blk_lt bx,by rw [hgx];exact Nat.ne_of_gt HNP.out.1,fun e=>Nat.lt_irrefl _ (HNP.out.2.1 gx e.symm |> fun h=>hgx ▸ h),fun e=>Nat.lt_irrefl _ (HNP.out.2.2.1 gx e.symm |> fun h=>hgx ▸ h),fun e=>Nat.lt_irrefl _ (HNP.out.2.2.2 gx e.symm |> fun h=>hgx ▸ h)⟩);rw [← hgx] at bx ⊢;have BX:=sd bx;clear bx hgx;obtain ⟨z0,z1,z2,_,_,_⟩:=bk3 BX;go_wp2_with fail
    have hG4:Gl w4:=gl_bd (gl_below HG.out HB.out) HW.out zq28;refine (read_calls k bd bd p vC vT vW x p2 s2 w4 HP.out hbr4 hG4 HM.out).mono ?_;rintro e w5 ⟨rfl,⟨vC',vT',vW',hp2⟩,hf⟩;replace HP:=sd hp2;replace HW:=sd (HW.out.trans hf.b);clear hp2 z0 z1 z2 hG4;by_cases es:s2=14
    case pos =>
      obtain ⟨qs1,qs2⟩:=eqI es;have hh:=HN.out;rw [if_pos es] at hh;obtain ⟨rfl,h2⟩:=Prod.mk.inj (Option.some.inj hh);obtain ⟨rfl,rfl⟩:=Prod.mk.inj h2;clear hh h2 HN HM;have h:=HH.out;rw [if_neg (by decide)] at h;obtain ⟨rfl,rfl,rfl,rfl,rfl,rfl,rfl⟩:=h;have BX:=sd (hf.fr gx HNX.out.1 HNX.out.2.1 HNX.out.2.2.1 HNX.out.2.2.2.1 HNX.out.2.2.2.2 |>.trans BX.out);have BRw:=sd (HBRW.out _ HW.out);clear HH hf BR HR0 HP;obtain ⟨z0,z1,z2,_,_,_⟩:=bk3 BX;obtain ⟨v0,v1,v2,v3,v4,y0,y1,y2,y3,y4⟩:=bk5 BRw;subst es;go_wp2_with fail
      refine start_ (n:=6) (S:=fun w'=>w'.cell? ⟨gx,2,none⟩=some (.int .i64 x.f2)) (ds:=[]) #[false,false,false,false,false,false] (by kernel_rfl) rfl rfl z2 (fun hHeld=>?_);replace BRw:=sd (blk_below BRw.out (below_drew1 (Below.refl _ _)));replace HW:=sd (HBW.out _ HW.out |> fun h=>h.trans ((below_drew1 (Below.refl w5.heap.size w5)).mono h.size));replace BX:=sd (blk_below BX.out (below_drew1 (Below.refl _ _)));have HNE:=sd (show gx≠gr from fun e=>by have:=HGB2.out;have:=HNX.out.2.1;have:=HNG.out;omega);clear HNX HNP;generalize w5.drew=w9 at BRw HW BX hHeld ⊢;obtain ⟨v0,v1,v2,v3,v4,y0,y1,y2,y3,y4⟩:=bk5 BRw;refine pB 0 32 ?_;refine pB 1 33 ?_;refine tB 2 34 hHeld ?_;refine one_ (i:=3) (N:=none) #[true,true,true,true,false,false] rfl rfl (by kernel_rfl) (by decide) (fun K hK=>?_);refine skip_ (w1:=(((((w9.setCell ⟨gr,0,none⟩ (.string ⟨#[]⟩)).setCell ⟨gr,1,none⟩ (.slice none 0 0)).setCell ⟨gr,2,none⟩ (.string ⟨#[]⟩)).setCell ⟨gr,3,none⟩ (.string ⟨#[]⟩)).setCell ⟨gr,4,none⟩ (.slice none 0 0))) (by rfl) rfl (by go_simp;try rfl) ?_;refine hK.out _ _ ((blk_cell ((Below.heap_setCell _ _ _ gx HNE.out).trans ((Below.heap_setCell _ _ _ gx HNE.out).trans ((Below.heap_setCell _ _ _ gx HNE.out).trans ((Below.heap_setCell _ _ _ gx HNE.out).trans ((Below.heap_setCell _ _ _ gx HNE.out).trans BX.out))))) 2).trans rfl) (fun hHeld=>?_);clear hK K;refine pB 4 3 ?_;refine pB 5 4 ?_;refine done_ (by kernel_rfl) ?_;go_wp2_with fail
      exact noretP Post _ _ w gr _ _ rfl rfl rfl BRw.out HW.out HGR.out (fun W' hW'=>by rw [← HQ.out];exact ⟨_,_,rfl,Kd.R_nil _ _ _ _ _,Kd.R_nil _ _ _ _ _,hW'⟩)
    obtain ⟨qs1,qs2⟩:=neI es;have hh:=HN.out;rw [if_neg es] at hh;have HP1:=sd hh;clear hh HN HM hf;go_wp2_with fail
    go_roundw
    case rel=>exact ⟨i+1,{ p2 with st:=s2 },_,_,_,by omega,rfl,HP1,HP,HW⟩
    case measure =>
      refine Nat.sub_lt_sub_left hlt ?_;exact Nat.lt_succ_self i
theorem lw48_lives.calls (r:Bool) (w:World) (h:lw48_lives.f=some r) (hG:Gl w) :
  Calls Tryz.prog 11 #[] w fun e w'=>e=.returned (.bool r)∧Below w.heap.size w w':=by
 obtain rfl:=Option.some.inj h
 exact lives_walk w hG ⟨fun W=>lw48_example.calls ⟨#[114,101,110,116]⟩ livesC ⟨#[53,49]⟩ ⟨#[112]⟩ livesG W rfl⟩
  ⟨fun W A c A4 c4 hC hl hT ht hG=>rules_Text.calls 400 ⟨#[114,101,110,116]⟩ A c livesC ⟨#[53,49]⟩ ⟨#[112]⟩ A4 c4 livesG livesX 0 W hC hl hT ht (by kernel_rfl) hG⟩
  ⟨fun W hG=>rules_Parse.calls 400 livesX ⟨#[114,101,110,116]⟩ livesC ⟨#[53,49]⟩ ⟨#[112]⟩ livesG 0 0 W (by kernel_rfl) hG⟩
  ⟨fun W hG=>rules_Parse.calls 400 livesY ⟨#[]⟩ [] ⟨#[]⟩ ⟨#[]⟩ [] 20 27 W (by kernel_rfl) hG⟩
  ⟨fun W A c A4 c4 B d B4 d4 hC hl hT ht hC' hl' hT' ht'=>rf48_Same.calls 400 ⟨#[114,101,110,116]⟩ A c livesC ⟨#[53,49]⟩ ⟨#[112]⟩ A4 c4 livesG ⟨#[114,101,110,116]⟩ B d livesC ⟨#[53,49]⟩ ⟨#[112]⟩ B4 d4 livesG true W hC hl hT ht hC' hl' hT' ht' (by kernel_rfl)⟩
  ⟨fun W A c A4 c4 hC hl hT ht hG=>rules_Holds.calls 400 ⟨#[114,101,110,116]⟩ A c livesC ⟨#[53,49]⟩ ⟨#[112]⟩ A4 c4 livesG 9 (-120) ⟨#[]⟩ ⟨#[116,104,101,32,114,101,110,116]⟩ true W hC hl hT ht (by kernel_rfl) hG⟩
  ⟨fun W A hC hG=>rules_First.calls 400 A 2 [z25,livesR] 9 (-120) ⟨#[]⟩ ⟨#[116,104,101,32,114,101,110,116]⟩ 1 W hC (Nat.le_refl _) (by kernel_rfl) hG⟩
theorem lw48_RulesTexts.calls (k:Nat) (a0_0:ByteArray) (A0_1:Option Addr) (c0_1:Nat) (l0_1:List (S48)) (a0_2 a0_3:ByteArray) (A0_4:Option Addr) (c0_4:Nat) (l0_4:List (S50)) (r:Bool) (w:World) (hr0_1:Kd.C k48 w A0_1 l0_1.length l0_1) (hc0_1:l0_1.length≤c0_1) (hr0_4:Kd.C k50 w A0_4 l0_4.length l0_4) (hc0_4:l0_4.length≤c0_4) (h:lw48_RulesTexts.f k a0_0 l0_1 a0_2 a0_3 l0_4=some r) (hG:Gl w) :
  Calls Tryz.prog 6 #[.agg #[.string a0_0,.slice A0_1 l0_1.length c0_1,.string a0_2,.string a0_3,.slice A0_4 l0_4.length c0_4]] w fun e w'=>e=.returned (.bool r)∧Below w.heap.size w w':=by
 have HG:=sd hG;clear hG;have hu25:=Tryz.underlying25;have HR0_1:=sd hr0_1;have HC0_1:=sd hc0_1;clear hr0_1 hc0_1;have HR0_4:=sd hr0_4;have HC0_4:=sd hc0_4;clear hr0_4 hc0_4;have HB:=sd (Below.refl w.heap.size w);have H:=h;clear h;unfold lw48_RulesTexts.f at H;replace H:=bdI H;obtain ⟨t358,A2,H⟩:=H;(try dsimp only at H)
 by_cases c3:t358=true
 ·subst c3;rw [if_pos rfl] at H;obtain rfl:=Option.some.inj H;go_enter Tryz.func6,Tryz.ntmps6
  go_wp2_with (first | ((with_reducible refine gate_dst (N:=1) rfl ?_);refine bxA 1 #[.string a0_0,.slice A0_1 l0_1.length c0_1,.string a0_2,.string a0_3,.slice A0_4 l0_4.length c0_4] 25 ?_;intro gb357 hg w4 hbox hb;have BK357:=sd (hbox);have GW357:=gem hg HB;have GE357:=GW357;replace HB:=hbm HB hb;clear hb hbox hg;obtain ⟨_,_,_,_,_,_,_,_,_,_⟩:=bk5 BK357) | ((with_reducible refine gate_callee (f:=8) rfl ?_);refine gL 11 Tryz.func8 #[.agg #[.string a0_0,.slice A0_1 l0_1.length c0_1,.string a0_2,.string a0_3,.slice A0_4 l0_4.length c0_4]] ?_;(with_reducible refine (lw48_large.calls k a0_0 _ _ l0_1 a0_2 a0_3 _ _ l0_4 true _ ?side1 ?side2 ?side3 ?side4 A2.out).mono ?_);(case side1=>exact zq48);(case side2=>exact HC0_1.out);(case side3=>exact zq40);(case side4=>exact HC0_4.out);rintro e w6 ⟨rfl,hb⟩;refine ⟨_,rfl,?_⟩;replace BK357:=bkm BK357 hb;replace HB:=hbm HB hb;clear hb))
  go_ret
  exact ⟨zq4,zq109⟩
 replace c3:=Bool.eq_false_iff.mpr c3;subst c3;rw [if_neg Bool.false_ne_true] at H;replace H:=bdI H;obtain ⟨⟨t359,t360⟩,A7,H⟩:=H;(try dsimp only at H)
 replace H:=bdI H;obtain ⟨⟨t361,t362⟩,A8,H⟩:=H;(try dsimp only at H)
 have HC9:=sd H;clear H;go_enter Tryz.func6,Tryz.ntmps6
 go_upto_region 5 with (first | ((with_reducible refine gate_dst (N:=1) rfl ?_);refine bxA 1 #[.string a0_0,.slice A0_1 l0_1.length c0_1,.string a0_2,.string a0_3,.slice A0_4 l0_4.length c0_4] 25 ?_;intro gb357 hg w10 hbox hb;have BK357:=sd (hbox);have GW357:=gem hg HB;have GE357:=GW357;replace HB:=hbm HB hb;clear hb hbox hg;obtain ⟨_,_,_,_,_,_,_,_,_,_⟩:=bk5 BK357) | ((with_reducible refine gate_callee (f:=8) rfl ?_);refine gL 11 Tryz.func8 #[.agg #[.string a0_0,.slice A0_1 l0_1.length c0_1,.string a0_2,.string a0_3,.slice A0_4 l0_4.length c0_4]] ?_;(with_reducible refine (lw48_large.calls k a0_0 _ _ l0_1 a0_2 a0_3 _ _ l0_4 false _ ?side1 ?side2 ?side3 ?side4 A2.out).mono ?_);(case side1=>exact zq48);(case side2=>exact HC0_1.out);(case side3=>exact zq40);(case side4=>exact HC0_4.out);rintro e w12 ⟨rfl,hb⟩;refine ⟨_,rfl,?_⟩;replace BK357:=bkm BK357 hb;replace HB:=hbm HB hb;clear hb;obtain ⟨_,_,_,_,_,_,_,_,_,_⟩:=bk5 BK357) | ((with_reducible refine gate_callee (f:=16) rfl ?_);refine gL 14 Tryz.func16 #[.agg #[.string a0_0,.slice A0_1 l0_1.length c0_1,.string a0_2,.string a0_3,.slice A0_4 l0_4.length c0_4]] ?_;(with_reducible refine (rules_Text.calls k a0_0 _ _ l0_1 a0_2 a0_3 _ _ l0_4 t359 t360 _ ?side1 ?side2 ?side3 ?side4 A7.out (gl_below HG.out zq110)).mono ?_);(case side1=>exact zq48);(case side2=>exact HC0_1.out);(case side3=>exact zq40);(case side4=>exact HC0_4.out);rintro e w14 ⟨rfl,hb⟩;refine ⟨_,rfl,?_⟩;replace BK357:=bkm BK357 hb;replace HB:=hbm HB hb;clear hb;obtain ⟨_,_,_,_,_,_,_,_,_,_⟩:=bk5 BK357) | ((with_reducible refine gate_callee (f:=17) rfl ?_);refine gL 19 Tryz.func17 #[.agg #[.string a0_0,.slice A0_1 l0_1.length c0_1,.string a0_2,.string a0_3,.slice A0_4 l0_4.length c0_4]] ?_;(with_reducible refine (rf48_Text.calls k a0_0 _ _ l0_1 a0_2 a0_3 _ _ l0_4 t361 t362 _ ?side1 ?side2 ?side3 ?side4 A8.out).mono ?_);(case side1=>exact zq48);(case side2=>exact HC0_1.out);(case side3=>exact zq40);(case side4=>exact HC0_4.out);rintro e w16 ⟨rfl,hb⟩;refine ⟨_,rfl,?_⟩;replace BK357:=bkm BK357 hb;replace HB:=hbm HB hb;clear hb))
 (try simp only [Act.put,List.setIfInBounds_toArray,List.set_cons_zero,List.set_cons_succ])
 go_cut [33] (fun v33 wc=>∃ (kq:Nat) (x33_8:Bool),v33=.bool x33_8∧Aside0 (lw48_RulesTexts.j0 kq t359 t362 x33_8 a0_0 l0_1 a0_2 a0_3 l0_4=some r)∧Aside0 (kq≤k)∧Aside0 (wc.heap[gb357]?=some (.cells #[.string a0_0,(.slice A0_1 l0_1.length c0_1),.string a0_2,.string a0_3,(.slice A0_4 l0_4.length c0_4)] 25 (0,0)))∧Aside0 (Below w.heap.size w wc))
 case first =>
  have H:=HC9.out;clear HC9;replace H:=ifI H;rcases H with ⟨c17,H⟩ | ⟨c17,H⟩
  ·obtain ⟨c17b0,c17b1⟩:=eqI c17;clear c17;(first | rw [c17b0] | (simp only [i64_w,i32_w];rw [c17b0]) | skip)
   replace H:=ifI H;rcases H with ⟨c18,H⟩ | ⟨c18,H⟩
   ·obtain ⟨c18b0,c18b1⟩:=eqI c18;clear c18;replace H:=bdI H;obtain ⟨t363,A19,H⟩:=H;(try dsimp only at H)
    have H':=sd H;clear H;go_wp2_with (first | (go_at_call 11;(with_reducible refine (lw48_lives.calls  t363 _ A19.out (gl_below HG.out zq110)).mono ?_);rintro e w20 ⟨rfl,hb⟩;replace BK357:=bkm BK357 hb;replace HB:=hbm HB hb;clear hb))
    go_meet
    case rel=>exact ⟨_,(!t363),zq7,H',⟨by first | omega | exact Nat.le_refl _⟩,⟨zq111⟩,⟨zq109⟩⟩
   obtain ⟨c18b0,c18b1⟩:=neI c18;have H':=sd H;clear H;go_wp2
   go_meet
   case rel=>exact ⟨_,(true),zq7,H',⟨by first | omega | exact Nat.le_refl _⟩,⟨zq111⟩,⟨zq109⟩⟩
  obtain ⟨c17b0,c17b1⟩:=neI c17;(first | rw [c17b0] | (simp only [i64_w,i32_w];rw [c17b0]) | skip)
  have H':=sd H;clear H;go_wp2
  go_meet
  case rel=>exact ⟨_,(true),zq7,H',⟨by first | omega | exact Nat.le_refl _⟩,⟨zq111⟩,⟨zq109⟩⟩
 case rest =>
  clear HC9;try clear c1
  try clear p2
  try clear c3
  try clear c6
  try clear c8
  try clear c16
  try clear c17
  try clear c17b0
  try clear c17b1
  try clear c18
  try clear c18b0
  try clear c18b1
  try clear hcz11_0
  try clear hcz11_1
  try clear hcz11_2
  try clear hcz11_3
  try clear hcz11_4
  try clear hcz13_0
  try clear hcz13_1
  try clear hcz13_2
  try clear hcz13_3
  try clear hcz13_4
  try clear hcz15_0
  try clear hcz15_1
  try clear hcz15_2
  try clear hcz15_3
  try clear hcz15_4
  try clear hcz5_0
  try clear hcz5_1
  try clear hcz5_2
  try clear hcz5_3
  try clear hcz5_4
  try clear hfz11_0
  try clear hfz11_1
  try clear hfz11_2
  try clear hfz11_3
  try clear hfz11_4
  try clear hfz13_0
  try clear hfz13_1
  try clear hfz13_2
  try clear hfz13_3
  try clear hfz13_4
  try clear hfz15_0
  try clear hfz15_1
  try clear hfz15_2
  try clear hfz15_3
  try clear hfz15_4
  try clear hfz5_0
  try clear hfz5_1
  try clear hfz5_2
  try clear hfz5_3
  try clear hfz5_4
  obtain ⟨kq,x33_8,rfl,HA,HJ8,BK357,HB⟩:=hcut
  cases kq with
  | zero=>exact absurd HA.out (by simp [lw48_RulesTexts.j0])
  | succ kj8 =>
   have H:=HA.out;clear HA;simp only [lw48_RulesTexts.j0] at H
   by_cases c21:x33_8=true
   ·subst c21;rw [if_pos rfl] at H;obtain rfl:=Option.some.inj H;go_wp2
    go_ret
    exact ⟨zq4,zq109⟩
   replace c21:=Bool.eq_false_iff.mpr c21;subst c21;rw [if_neg Bool.false_ne_true] at H;replace H:=ifI H;rcases H with ⟨c22,H⟩ | ⟨c22,H⟩
   ·obtain ⟨c22b0,c22b1⟩:=eqI c22;clear c22;replace H:=bdI H;obtain ⟨⟨t364,t365,t368,t369,t370,t373,t374⟩,A23,H⟩:=H;(try dsimp only at H)
    replace H:=bdI H;obtain ⟨t376,A24,H⟩:=H;(try dsimp only at H)
    by_cases c25:t376=true
    ·subst c25;rw [if_pos rfl] at H;replace H:=ifI H;rcases H with ⟨c26,H⟩ | ⟨c26,H⟩
     ·obtain ⟨c26b0,c26b1⟩:=eqI c26;clear c26;obtain rfl:=Option.some.inj H;go_wp2_with (first | ((with_reducible refine gate_callee (f:=18) rfl ?_);refine gL 38 Tryz.func18 #[.string t359] ?_;(with_reducible refine (rules_Parse.calls kj8 t359 t364 t365 t368 t369 t370 t373 t374 _ A23.out (gl_below HG.out zq110)).mono ?_);rintro e w27 ⟨v366,v371,rfl,ho0,ho1,hb⟩;refine ⟨_,rfl,?_⟩;have HO367:=sd (Kd.R_lower ho0 (below_size zq109));have HO372:=sd (Kd.R_lower ho1 (below_size zq109));replace BK357:=bkm BK357 hb;replace HB:=hbm HB hb;clear hb;(try clear ho0);(try clear ho1)) | ((with_reducible refine gate_dst (N:=7) rfl ?_);refine bxA 7 #[.string (⟨#[]⟩:ByteArray),.slice none 0 0,.string (⟨#[]⟩:ByteArray),.string (⟨#[]⟩:ByteArray),.slice none 0 0] 25 ?_;intro gb375 hg w28 hbox hb;have BK375:=sd (hbox);have GW375:=gem hg HB;have GE375:=GW375;have NB357_375:=nlm hg BK357;have NB375_357:=ngm hg BK357;replace HO367:=rbm HO367 hb;replace HO372:=rbm HO372 hb;replace BK357:=bkm BK357 hb;replace HB:=hbm HB hb;clear hb hbox hg;have hnb29:=NB375_357.out;have hnc29:=NB357_375.out;obtain ⟨_,_,_,_,_,_,_,_,_,_⟩:=bk5 BK375;obtain ⟨Ao31,co31,eo31⟩:=Kd.R_slice HO367.out;subst eo31;obtain ⟨Ao32,co32,eo32⟩:=Kd.R_slice HO372.out;subst eo32;obtain ⟨_,_,_,_,_,_,_,_,_,_⟩:=bk5 BK357) | ((with_reducible refine gate_callee (f:=19) rfl ?_);refine gL 44 Tryz.func19 #[.agg #[.string t364,.slice Ao31 t365.length co31,.string t368,.string t369,.slice Ao32 t370.length co32],.agg #[.string a0_0,.slice A0_1 l0_1.length c0_1,.string a0_2,.string a0_3,.slice A0_4 l0_4.length c0_4]] ?_;(with_reducible refine (rf48_Same.calls kj8 t364 _ _ t365 t368 t369 _ _ t370 a0_0 _ _ l0_1 a0_2 a0_3 _ _ l0_4 true _ ?side1 ?side2 ?side3 ?side4 ?side5 ?side6 ?side7 ?side8 A24.out).mono ?_);(case side1=>exact (by refine (Kd.R_reads' (e:=48) (base:=w.heap.size) (ok:=fun k_=>True) (n:=t365.length) (c:=co31) ?_).2.2;exact (by (with_reducible repeat (first | apply Kd.R_alloc | apply Kd.R_drewN | apply Kd.R_drew));exact (Kd.R_mono (Kd.R_far (p:=⟨gb375,4,none⟩) (Kd.R_far (p:=⟨gb375,3,none⟩) (Kd.R_far (p:=⟨gb375,2,none⟩) (Kd.R_far (p:=⟨gb375,1,none⟩) (Kd.R_far (p:=⟨gb375,0,none⟩) (Kd.R_types HO367.out BK375.out (by decide)) (fun _ hk=>hk.2) (.string t364)) (fun _ hk=>hk.2) (.slice Ao31 t365.length co31)) (fun _ hk=>hk.2) (.string t368)) (fun _ hk=>hk.2) (.string t369)) (fun _ hk=>hk.2) (.slice Ao32 t370.length co32)) (fun _ h_=>h_.1)))));(case side2=>exact (Kd.R_reads' HO367.out).2.1);(case side3=>exact (by refine (Kd.R_reads' (e:=50) (base:=w.heap.size) (ok:=fun k_=>True) (n:=t370.length) (c:=co32) ?_).2.2;exact (by (with_reducible repeat (first | apply Kd.R_alloc | apply Kd.R_drewN | apply Kd.R_drew));exact (Kd.R_mono (Kd.R_far (p:=⟨gb375,4,none⟩) (Kd.R_far (p:=⟨gb375,3,none⟩) (Kd.R_far (p:=⟨gb375,2,none⟩) (Kd.R_far (p:=⟨gb375,1,none⟩) (Kd.R_far (p:=⟨gb375,0,none⟩) (Kd.R_types HO372.out BK375.out (by decide)) (fun _ hk=>hk.2) (.string t364)) (fun _ hk=>hk.2) (.slice Ao31 t365.length co31)) (fun _ hk=>hk.2) (.string t368)) (fun _ hk=>hk.2) (.string t369)) (fun _ hk=>hk.2) (.slice Ao32 t370.length co32)) (fun _ h_=>h_.1)))));(case side4=>exact (Kd.R_reads' HO372.out).2.1);(case side5=>exact zq112);(case side6=>exact HC0_1.out);(case side7=>exact zq113);(case side8=>exact HC0_4.out);rintro e w34 ⟨rfl,hb⟩;refine ⟨_,rfl,?_⟩;replace HO367:=sd (Kd.R_below (by (with_reducible repeat (first | apply Kd.R_alloc | apply Kd.R_drewN | apply Kd.R_drew));exact (Kd.R_mono (Kd.R_far (p:=⟨gb375,4,none⟩) (Kd.R_far (p:=⟨gb375,3,none⟩) (Kd.R_far (p:=⟨gb375,2,none⟩) (Kd.R_far (p:=⟨gb375,1,none⟩) (Kd.R_far (p:=⟨gb375,0,none⟩) (Kd.R_types HO367.out BK375.out (by decide)) (fun _ hk=>hk.2) (.string t364)) (fun _ hk=>hk.2) (.slice Ao31 t365.length co31)) (fun _ hk=>hk.2) (.string t368)) (fun _ hk=>hk.2) (.string t369)) (fun _ hk=>hk.2) (.slice Ao32 t370.length co32)) (fun _ h_=>h_.1))) hb);replace HO372:=sd (Kd.R_below (by (with_reducible repeat (first | apply Kd.R_alloc | apply Kd.R_drewN | apply Kd.R_drew));exact (Kd.R_mono (Kd.R_far (p:=⟨gb375,4,none⟩) (Kd.R_far (p:=⟨gb375,3,none⟩) (Kd.R_far (p:=⟨gb375,2,none⟩) (Kd.R_far (p:=⟨gb375,1,none⟩) (Kd.R_far (p:=⟨gb375,0,none⟩) (Kd.R_types HO372.out BK375.out (by decide)) (fun _ hk=>hk.2) (.string t364)) (fun _ hk=>hk.2) (.slice Ao31 t365.length co31)) (fun _ hk=>hk.2) (.string t368)) (fun _ hk=>hk.2) (.string t369)) (fun _ hk=>hk.2) (.slice Ao32 t370.length co32)) (fun _ h_=>h_.1))) hb);replace BK357:=sd (blk_below (g:=gb357) (o:=.cells #[.string a0_0,.slice A0_1 l0_1.length c0_1,.string a0_2,.string a0_3,.slice A0_4 l0_4.length c0_4] 25 (0,0)) zq114 hb);replace BK375:=sd (blk_below (g:=gb375) (o:=.cells #[.string t364,.slice Ao31 t365.length co31,.string t368,.string t369,.slice Ao32 t370.length co32] 25 (0,0)) (by (with_reducible repeat (first | refine blk_drewN ?_ _ | refine blk_drew ?_ | refine blk_alloc ?_ _));refine blk_put (cs:=#[.string t364,.slice Ao31 t365.length co31,.string t368,.string t369,.slice none 0 0]) ?_ 4 _ rfl;(with_reducible repeat (first | refine blk_drewN ?_ _ | refine blk_drew ?_ | refine blk_alloc ?_ _));refine blk_put (cs:=#[.string t364,.slice Ao31 t365.length co31,.string t368,.string (⟨#[]⟩:ByteArray),.slice none 0 0]) ?_ 3 _ rfl;(with_reducible repeat (first | refine blk_drewN ?_ _ | refine blk_drew ?_ | refine blk_alloc ?_ _));refine blk_put (cs:=#[.string t364,.slice Ao31 t365.length co31,.string (⟨#[]⟩:ByteArray),.string (⟨#[]⟩:ByteArray),.slice none 0 0]) ?_ 2 _ rfl;(with_reducible repeat (first | refine blk_drewN ?_ _ | refine blk_drew ?_ | refine blk_alloc ?_ _));refine blk_put (cs:=#[.string t364,.slice none 0 0,.string (⟨#[]⟩:ByteArray),.string (⟨#[]⟩:ByteArray),.slice none 0 0]) ?_ 1 _ rfl;(with_reducible repeat (first | refine blk_drewN ?_ _ | refine blk_drew ?_ | refine blk_alloc ?_ _));refine blk_put (cs:=#[.string (⟨#[]⟩:ByteArray),.slice none 0 0,.string (⟨#[]⟩:ByteArray),.string (⟨#[]⟩:ByteArray),.slice none 0 0]) ?_ 0 _ rfl;(with_reducible repeat (first | refine blk_drewN ?_ _ | refine blk_drew ?_ | refine blk_alloc ?_ _));exact BK375.out) hb);replace HB:=hbm HB hb;clear hb))
      go_ret
      exact ⟨zq4,zq115⟩
     obtain ⟨c26b0,c26b1⟩:=neI c26;obtain rfl:=Option.some.inj H;go_wp2_with (first | ((with_reducible refine gate_callee (f:=18) rfl ?_);refine gL 38 Tryz.func18 #[.string t359] ?_;(with_reducible refine (rules_Parse.calls kj8 t359 t364 t365 t368 t369 t370 t373 t374 _ A23.out (gl_below HG.out zq110)).mono ?_);rintro e w35 ⟨v366,v371,rfl,ho0,ho1,hb⟩;refine ⟨_,rfl,?_⟩;have HO367:=sd (Kd.R_lower ho0 (below_size zq109));have HO372:=sd (Kd.R_lower ho1 (below_size zq109));replace BK357:=bkm BK357 hb;replace HB:=hbm HB hb;clear hb;(try clear ho0);(try clear ho1)) | ((with_reducible refine gate_dst (N:=7) rfl ?_);refine bxA 7 #[.string (⟨#[]⟩:ByteArray),.slice none 0 0,.string (⟨#[]⟩:ByteArray),.string (⟨#[]⟩:ByteArray),.slice none 0 0] 25 ?_;intro gb375 hg w36 hbox hb;have BK375:=sd (hbox);have GW375:=gem hg HB;have GE375:=GW375;have NB357_375:=nlm hg BK357;have NB375_357:=ngm hg BK357;replace HO367:=rbm HO367 hb;replace HO372:=rbm HO372 hb;replace BK357:=bkm BK357 hb;replace HB:=hbm HB hb;clear hb hbox hg;have hnb37:=NB375_357.out;have hnc37:=NB357_375.out;obtain ⟨_,_,_,_,_,_,_,_,_,_⟩:=bk5 BK375;obtain ⟨Ao39,co39,eo39⟩:=Kd.R_slice HO367.out;subst eo39;obtain ⟨Ao40,co40,eo40⟩:=Kd.R_slice HO372.out;subst eo40;obtain ⟨_,_,_,_,_,_,_,_,_,_⟩:=bk5 BK357) | ((with_reducible refine gate_callee (f:=19) rfl ?_);refine gL 44 Tryz.func19 #[.agg #[.string t364,.slice Ao39 t365.length co39,.string t368,.string t369,.slice Ao40 t370.length co40],.agg #[.string a0_0,.slice A0_1 l0_1.length c0_1,.string a0_2,.string a0_3,.slice A0_4 l0_4.length c0_4]] ?_;(with_reducible refine (rf48_Same.calls kj8 t364 _ _ t365 t368 t369 _ _ t370 a0_0 _ _ l0_1 a0_2 a0_3 _ _ l0_4 true _ ?side1 ?side2 ?side3 ?side4 ?side5 ?side6 ?side7 ?side8 A24.out).mono ?_);(case side1=>exact (by refine (Kd.R_reads' (e:=48) (base:=w.heap.size) (ok:=fun k_=>True) (n:=t365.length) (c:=co39) ?_).2.2;exact (by (with_reducible repeat (first | apply Kd.R_alloc | apply Kd.R_drewN | apply Kd.R_drew));exact (Kd.R_mono (Kd.R_far (p:=⟨gb375,4,none⟩) (Kd.R_far (p:=⟨gb375,3,none⟩) (Kd.R_far (p:=⟨gb375,2,none⟩) (Kd.R_far (p:=⟨gb375,1,none⟩) (Kd.R_far (p:=⟨gb375,0,none⟩) (Kd.R_types HO367.out BK375.out (by decide)) (fun _ hk=>hk.2) (.string t364)) (fun _ hk=>hk.2) (.slice Ao39 t365.length co39)) (fun _ hk=>hk.2) (.string t368)) (fun _ hk=>hk.2) (.string t369)) (fun _ hk=>hk.2) (.slice Ao40 t370.length co40)) (fun _ h_=>h_.1)))));(case side2=>exact (Kd.R_reads' HO367.out).2.1);(case side3=>exact (by refine (Kd.R_reads' (e:=50) (base:=w.heap.size) (ok:=fun k_=>True) (n:=t370.length) (c:=co40) ?_).2.2;exact (by (with_reducible repeat (first | apply Kd.R_alloc | apply Kd.R_drewN | apply Kd.R_drew));exact (Kd.R_mono (Kd.R_far (p:=⟨gb375,4,none⟩) (Kd.R_far (p:=⟨gb375,3,none⟩) (Kd.R_far (p:=⟨gb375,2,none⟩) (Kd.R_far (p:=⟨gb375,1,none⟩) (Kd.R_far (p:=⟨gb375,0,none⟩) (Kd.R_types HO372.out BK375.out (by decide)) (fun _ hk=>hk.2) (.string t364)) (fun _ hk=>hk.2) (.slice Ao39 t365.length co39)) (fun _ hk=>hk.2) (.string t368)) (fun _ hk=>hk.2) (.string t369)) (fun _ hk=>hk.2) (.slice Ao40 t370.length co40)) (fun _ h_=>h_.1)))));(case side4=>exact (Kd.R_reads' HO372.out).2.1);(case side5=>exact zq112);(case side6=>exact HC0_1.out);(case side7=>exact zq113);(case side8=>exact HC0_4.out);rintro e w42 ⟨rfl,hb⟩;refine ⟨_,rfl,?_⟩;replace HO367:=sd (Kd.R_below (by (with_reducible repeat (first | apply Kd.R_alloc | apply Kd.R_drewN | apply Kd.R_drew));exact (Kd.R_mono (Kd.R_far (p:=⟨gb375,4,none⟩) (Kd.R_far (p:=⟨gb375,3,none⟩) (Kd.R_far (p:=⟨gb375,2,none⟩) (Kd.R_far (p:=⟨gb375,1,none⟩) (Kd.R_far (p:=⟨gb375,0,none⟩) (Kd.R_types HO367.out BK375.out (by decide)) (fun _ hk=>hk.2) (.string t364)) (fun _ hk=>hk.2) (.slice Ao39 t365.length co39)) (fun _ hk=>hk.2) (.string t368)) (fun _ hk=>hk.2) (.string t369)) (fun _ hk=>hk.2) (.slice Ao40 t370.length co40)) (fun _ h_=>h_.1))) hb);replace HO372:=sd (Kd.R_below (by (with_reducible repeat (first | apply Kd.R_alloc | apply Kd.R_drewN | apply Kd.R_drew));exact (Kd.R_mono (Kd.R_far (p:=⟨gb375,4,none⟩) (Kd.R_far (p:=⟨gb375,3,none⟩) (Kd.R_far (p:=⟨gb375,2,none⟩) (Kd.R_far (p:=⟨gb375,1,none⟩) (Kd.R_far (p:=⟨gb375,0,none⟩) (Kd.R_types HO372.out BK375.out (by decide)) (fun _ hk=>hk.2) (.string t364)) (fun _ hk=>hk.2) (.slice Ao39 t365.length co39)) (fun _ hk=>hk.2) (.string t368)) (fun _ hk=>hk.2) (.string t369)) (fun _ hk=>hk.2) (.slice Ao40 t370.length co40)) (fun _ h_=>h_.1))) hb);replace BK357:=sd (blk_below (g:=gb357) (o:=.cells #[.string a0_0,.slice A0_1 l0_1.length c0_1,.string a0_2,.string a0_3,.slice A0_4 l0_4.length c0_4] 25 (0,0)) zq114 hb);replace BK375:=sd (blk_below (g:=gb375) (o:=.cells #[.string t364,.slice Ao39 t365.length co39,.string t368,.string t369,.slice Ao40 t370.length co40] 25 (0,0)) (by (with_reducible repeat (first | refine blk_drewN ?_ _ | refine blk_drew ?_ | refine blk_alloc ?_ _));refine blk_put (cs:=#[.string t364,.slice Ao39 t365.length co39,.string t368,.string t369,.slice none 0 0]) ?_ 4 _ rfl;(with_reducible repeat (first | refine blk_drewN ?_ _ | refine blk_drew ?_ | refine blk_alloc ?_ _));refine blk_put (cs:=#[.string t364,.slice Ao39 t365.length co39,.string t368,.string (⟨#[]⟩:ByteArray),.slice none 0 0]) ?_ 3 _ rfl;(with_reducible repeat (first | refine blk_drewN ?_ _ | refine blk_drew ?_ | refine blk_alloc ?_ _));refine blk_put (cs:=#[.string t364,.slice Ao39 t365.length co39,.string (⟨#[]⟩:ByteArray),.string (⟨#[]⟩:ByteArray),.slice none 0 0]) ?_ 2 _ rfl;(with_reducible repeat (first | refine blk_drewN ?_ _ | refine blk_drew ?_ | refine blk_alloc ?_ _));refine blk_put (cs:=#[.string t364,.slice none 0 0,.string (⟨#[]⟩:ByteArray),.string (⟨#[]⟩:ByteArray),.slice none 0 0]) ?_ 1 _ rfl;(with_reducible repeat (first | refine blk_drewN ?_ _ | refine blk_drew ?_ | refine blk_alloc ?_ _));refine blk_put (cs:=#[.string (⟨#[]⟩:ByteArray),.slice none 0 0,.string (⟨#[]⟩:ByteArray),.string (⟨#[]⟩:ByteArray),.slice none 0 0]) ?_ 0 _ rfl;(with_reducible repeat (first | refine blk_drewN ?_ _ | refine blk_drew ?_ | refine blk_alloc ?_ _));exact BK375.out) hb);replace HB:=hbm HB hb;clear hb))
     go_ret
     exact ⟨zq4,zq115⟩
    replace c25:=Bool.eq_false_iff.mpr c25;subst c25;rw [if_neg Bool.false_ne_true] at H;obtain rfl:=Option.some.inj H;go_wp2_with (first | ((with_reducible refine gate_callee (f:=18) rfl ?_);refine gL 38 Tryz.func18 #[.string t359] ?_;(with_reducible refine (rules_Parse.calls kj8 t359 t364 t365 t368 t369 t370 t373 t374 _ A23.out (gl_below HG.out zq110)).mono ?_);rintro e w43 ⟨v366,v371,rfl,ho0,ho1,hb⟩;refine ⟨_,rfl,?_⟩;have HO367:=sd (Kd.R_lower ho0 (below_size zq109));have HO372:=sd (Kd.R_lower ho1 (below_size zq109));replace BK357:=bkm BK357 hb;replace HB:=hbm HB hb;clear hb;(try clear ho0);(try clear ho1)) | ((with_reducible refine gate_dst (N:=7) rfl ?_);refine bxA 7 #[.string (⟨#[]⟩:ByteArray),.slice none 0 0,.string (⟨#[]⟩:ByteArray),.string (⟨#[]⟩:ByteArray),.slice none 0 0] 25 ?_;intro gb375 hg w44 hbox hb;have BK375:=sd (hbox);have GW375:=gem hg HB;have GE375:=GW375;have NB357_375:=nlm hg BK357;have NB375_357:=ngm hg BK357;replace HO367:=rbm HO367 hb;replace HO372:=rbm HO372 hb;replace BK357:=bkm BK357 hb;replace HB:=hbm HB hb;clear hb hbox hg;have hnb45:=NB375_357.out;have hnc45:=NB357_375.out;obtain ⟨_,_,_,_,_,_,_,_,_,_⟩:=bk5 BK375;obtain ⟨Ao47,co47,eo47⟩:=Kd.R_slice HO367.out;subst eo47;obtain ⟨Ao48,co48,eo48⟩:=Kd.R_slice HO372.out;subst eo48;obtain ⟨_,_,_,_,_,_,_,_,_,_⟩:=bk5 BK357) | ((with_reducible refine gate_callee (f:=19) rfl ?_);refine gL 44 Tryz.func19 #[.agg #[.string t364,.slice Ao47 t365.length co47,.string t368,.string t369,.slice Ao48 t370.length co48],.agg #[.string a0_0,.slice A0_1 l0_1.length c0_1,.string a0_2,.string a0_3,.slice A0_4 l0_4.length c0_4]] ?_;(with_reducible refine (rf48_Same.calls kj8 t364 _ _ t365 t368 t369 _ _ t370 a0_0 _ _ l0_1 a0_2 a0_3 _ _ l0_4 false _ ?side1 ?side2 ?side3 ?side4 ?side5 ?side6 ?side7 ?side8 A24.out).mono ?_);(case side1=>exact (by refine (Kd.R_reads' (e:=48) (base:=w.heap.size) (ok:=fun k_=>True) (n:=t365.length) (c:=co47) ?_).2.2;exact (by (with_reducible repeat (first | apply Kd.R_alloc | apply Kd.R_drewN | apply Kd.R_drew));exact (Kd.R_mono (Kd.R_far (p:=⟨gb375,4,none⟩) (Kd.R_far (p:=⟨gb375,3,none⟩) (Kd.R_far (p:=⟨gb375,2,none⟩) (Kd.R_far (p:=⟨gb375,1,none⟩) (Kd.R_far (p:=⟨gb375,0,none⟩) (Kd.R_types HO367.out BK375.out (by decide)) (fun _ hk=>hk.2) (.string t364)) (fun _ hk=>hk.2) (.slice Ao47 t365.length co47)) (fun _ hk=>hk.2) (.string t368)) (fun _ hk=>hk.2) (.string t369)) (fun _ hk=>hk.2) (.slice Ao48 t370.length co48)) (fun _ h_=>h_.1)))));(case side2=>exact (Kd.R_reads' HO367.out).2.1);(case side3=>exact (by refine (Kd.R_reads' (e:=50) (base:=w.heap.size) (ok:=fun k_=>True) (n:=t370.length) (c:=co48) ?_).2.2;exact (by (with_reducible repeat (first | apply Kd.R_alloc | apply Kd.R_drewN | apply Kd.R_drew));exact (Kd.R_mono (Kd.R_far (p:=⟨gb375,4,none⟩) (Kd.R_far (p:=⟨gb375,3,none⟩) (Kd.R_far (p:=⟨gb375,2,none⟩) (Kd.R_far (p:=⟨gb375,1,none⟩) (Kd.R_far (p:=⟨gb375,0,none⟩) (Kd.R_types HO372.out BK375.out (by decide)) (fun _ hk=>hk.2) (.string t364)) (fun _ hk=>hk.2) (.slice Ao47 t365.length co47)) (fun _ hk=>hk.2) (.string t368)) (fun _ hk=>hk.2) (.string t369)) (fun _ hk=>hk.2) (.slice Ao48 t370.length co48)) (fun _ h_=>h_.1)))));(case side4=>exact (Kd.R_reads' HO372.out).2.1);(case side5=>exact zq112);(case side6=>exact HC0_1.out);(case side7=>exact zq113);(case side8=>exact HC0_4.out);rintro e w50 ⟨rfl,hb⟩;refine ⟨_,rfl,?_⟩;replace HO367:=sd (Kd.R_below (by (with_reducible repeat (first | apply Kd.R_alloc | apply Kd.R_drewN | apply Kd.R_drew));exact (Kd.R_mono (Kd.R_far (p:=⟨gb375,4,none⟩) (Kd.R_far (p:=⟨gb375,3,none⟩) (Kd.R_far (p:=⟨gb375,2,none⟩) (Kd.R_far (p:=⟨gb375,1,none⟩) (Kd.R_far (p:=⟨gb375,0,none⟩) (Kd.R_types HO367.out BK375.out (by decide)) (fun _ hk=>hk.2) (.string t364)) (fun _ hk=>hk.2) (.slice Ao47 t365.length co47)) (fun _ hk=>hk.2) (.string t368)) (fun _ hk=>hk.2) (.string t369)) (fun _ hk=>hk.2) (.slice Ao48 t370.length co48)) (fun _ h_=>h_.1))) hb);replace HO372:=sd (Kd.R_below (by (with_reducible repeat (first | apply Kd.R_alloc | apply Kd.R_drewN | apply Kd.R_drew));exact (Kd.R_mono (Kd.R_far (p:=⟨gb375,4,none⟩) (Kd.R_far (p:=⟨gb375,3,none⟩) (Kd.R_far (p:=⟨gb375,2,none⟩) (Kd.R_far (p:=⟨gb375,1,none⟩) (Kd.R_far (p:=⟨gb375,0,none⟩) (Kd.R_types HO372.out BK375.out (by decide)) (fun _ hk=>hk.2) (.string t364)) (fun _ hk=>hk.2) (.slice Ao47 t365.length co47)) (fun _ hk=>hk.2) (.string t368)) (fun _ hk=>hk.2) (.string t369)) (fun _ hk=>hk.2) (.slice Ao48 t370.length co48)) (fun _ h_=>h_.1))) hb);replace BK357:=sd (blk_below (g:=gb357) (o:=.cells #[.string a0_0,.slice A0_1 l0_1.length c0_1,.string a0_2,.string a0_3,.slice A0_4 l0_4.length c0_4] 25 (0,0)) zq114 hb);replace BK375:=sd (blk_below (g:=gb375) (o:=.cells #[.string t364,.slice Ao47 t365.length co47,.string t368,.string t369,.slice Ao48 t370.length co48] 25 (0,0)) (by (with_reducible repeat (first | refine blk_drewN ?_ _ | refine blk_drew ?_ | refine blk_alloc ?_ _));refine blk_put (cs:=#[.string t364,.slice Ao47 t365.length co47,.string t368,.string t369,.slice none 0 0]) ?_ 4 _ rfl;(with_reducible repeat (first | refine blk_drewN ?_ _ | refine blk_drew ?_ | refine blk_alloc ?_ _));refine blk_put (cs:=#[.string t364,.slice Ao47 t365.length co47,.string t368,.string (⟨#[]⟩:ByteArray),.slice none 0 0]) ?_ 3 _ rfl;(with_reducible repeat (first | refine blk_drewN ?_ _ | refine blk_drew ?_ | refine blk_alloc ?_ _));refine blk_put (cs:=#[.string t364,.slice Ao47 t365.length co47,.string (⟨#[]⟩:ByteArray),.string (⟨#[]⟩:ByteArray),.slice none 0 0]) ?_ 2 _ rfl;(with_reducible repeat (first | refine blk_drewN ?_ _ | refine blk_drew ?_ | refine blk_alloc ?_ _));refine blk_put (cs:=#[.string t364,.slice none 0 0,.string (⟨#[]⟩:ByteArray),.string (⟨#[]⟩:ByteArray),.slice none 0 0]) ?_ 1 _ rfl;(with_reducible repeat (first | refine blk_drewN ?_ _ | refine blk_drew ?_ | refine blk_alloc ?_ _));refine blk_put (cs:=#[.string (⟨#[]⟩:ByteArray),.slice none 0 0,.string (⟨#[]⟩:ByteArray),.string (⟨#[]⟩:ByteArray),.slice none 0 0]) ?_ 0 _ rfl;(with_reducible repeat (first | refine blk_drewN ?_ _ | refine blk_drew ?_ | refine blk_alloc ?_ _));exact BK375.out) hb);replace HB:=hbm HB hb;clear hb))
    go_ret
    exact ⟨zq4,zq115⟩
   obtain ⟨c22b0,c22b1⟩:=neI c22;obtain rfl:=Option.some.inj H;go_wp2
   go_ret
   exact ⟨zq4,zq109⟩
end Go.Proofs.YtkbgkekegjfkfaaGreatDoor.A
