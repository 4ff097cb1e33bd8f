-- By pack.py, a program of this session's.
import Derived.Test.YtlblkojjpagbkaaDoorZ12
set_option linter.unusedVariables false
set_option linter.unusedSimpArgs false
namespace Go.Proofs.YtlblkojjpagbkaaDoor
namespace A
open Go.RowKit B WW WL WM
attribute [local go_sem] max2_int min2_int max_two min_two max_three min_three max_four min_four
set_option maxHeartbeats 8000000
set_option maxRecDepth 100000
theorem head_0 (bd g:Nat) (p:PR) (vC vT vW:Value) (x:S66) (code:Bool) (w:World) (hp:RP w bd g p vC vT vW) (hbd:bd≤w.heap.size) (hst:p.st=0) :
    Calls Tryd.prog 52 #[.pointer (some ⟨g,0,none⟩),.agg #[.int .i64 x.f0,.string x.f1,.int .i64 x.f2],.bool code] w (StepPost bd g vC vT vW (p) (fol (keyB x (⟨#[114,117,108,101]⟩:ByteArray)) 1) w):=by
  have hmf:∀ (fn:Fn) (first cap:Array Value) (w:World),(Instr.makeFunc fn first cap).run Tryd.prog w=.ok (.func fn first cap) w:=fun _ _ _ _=>rfl
  have HP:=sd hp;have HNE:=sd (show ¬ w.heap.size=g from fun h=>by have:=blk_lt hp.blk;omega);have HNW:=sd (Kd.R_lt HP.out.rW);have HF:=sd (FP.refl bd g vC vT vW w);clear hp;generalize hQ:StepPost bd g vC vT vW (p) (fol (keyB x (⟨#[114,117,108,101]⟩:ByteArray)) 1) w=Post;have HQ:=sd hQ;clear hQ;go_enter Tryd.func52,Tryd.ntmps52
  go_upto_region 1 with (fail)
  have hB1:=below_alloc (Below.refl w.heap.size w) (Obj.cells #[Value.int IntKind.i64 x.f0,Value.string x.f1,Value.int IntKind.i64 x.f2] 66);have b0:(w.alloc (Obj.cells #[Value.int IntKind.i64 x.f0,Value.string x.f1,Value.int IntKind.i64 x.f2] 66)).heap[w.heap.size]?=some (.cells #[Value.int IntKind.i64 x.f0,Value.string x.f1,Value.int IntKind.i64 x.f2] 66 (0,0)):=blk_new _ _;replace HP:=sd (HP.out.below hB1);replace HF:=sd (HF.out.below hB1 hbd);generalize w.alloc (Obj.cells #[Value.int IntKind.i64 x.f0,Value.string x.f1,Value.int IntKind.i64 x.f2] 66)=w1 at *;obtain ⟨gw,hgw⟩:∃ gw,gw=w.heap.size:=⟨_,rfl⟩
  have hgg:gw≠g:=by have:=blk_lt HP.out.blk;have:=hB1.size;intro h;rw [hgw] at h;exact absurd h (HNE.out)
  have HGN:=sd (show some gw≠Value.ownBlock vW from fun e=>by have:=HNW.out gw e.symm;omega);clear HNW;rw [← hgw] at b0 ⊢;have BW:=sd b0;have HB1:=sd hB1;clear b0 hB1 hgw;obtain ⟨⟨k0,k1,k2,k3,k4,k5,k6⟩,f0,f1,f2,f3,f4,f5,f6⟩:=HP.out.facts;rw [hst] at k5;obtain ⟨w0_,w1_,w2_,_,_,_⟩:=bk3 BW;go_wp2_with fail
  refine (key_calls gw x.f0 x.f1 (⟨#[114,117,108,101]⟩:ByteArray) _ w0_ w1_).mono ?_;rintro e wn ⟨rfl,hd⟩;obtain ⟨⟨nd,rfl⟩⟩:=hd;replace HP:=sd (HP.out.below (pw_below_drewN (Below.refl _ _) nd));replace HF:=sd (HF.out.below (pw_below_drewN (Below.refl _ _) nd) hbd);generalize w1.drewN nd=w2 at HP HF ⊢;go_wp2_with fail
  refine (follow_calls _ 1 _).mono ?_;rintro e wn ⟨rfl,hd⟩;obtain ⟨⟨nd,rfl⟩⟩:=hd;replace HP:=sd (HP.out.below (pw_below_drewN (Below.refl _ _) nd));replace HF:=sd (HF.out.below (pw_below_drewN (Below.refl _ _) nd) hbd);generalize w2.drewN nd=w3 at HP HF ⊢;go_wp2_with fail
  rw [← HQ.out];exact ⟨by (try rfl),⟨_,_,_,HP.out⟩,HF.out⟩
theorem head_2 (bd g:Nat) (p:PR) (vC vT vW:Value) (x:S66) (code:Bool) (w:World) (hp:RP w bd g p vC vT vW) (hbd:bd≤w.heap.size) (hst:p.st=2) :
    Calls Tryd.prog 52 #[.pointer (some ⟨g,0,none⟩),.agg #[.int .i64 x.f0,.string x.f1,.int .i64 x.f2],.bool code] w (StepPost bd g vC vT vW (p) (fol (keyB x (⟨#[105,102]⟩:ByteArray)) 3) w):=by
  have hmf:∀ (fn:Fn) (first cap:Array Value) (w:World),(Instr.makeFunc fn first cap).run Tryd.prog w=.ok (.func fn first cap) w:=fun _ _ _ _=>rfl
  have HP:=sd hp;have HNE:=sd (show ¬ w.heap.size=g from fun h=>by have:=blk_lt hp.blk;omega);have HNW:=sd (Kd.R_lt HP.out.rW);have HF:=sd (FP.refl bd g vC vT vW w);clear hp;generalize hQ:StepPost bd g vC vT vW (p) (fol (keyB x (⟨#[105,102]⟩:ByteArray)) 3) w=Post;have HQ:=sd hQ;clear hQ;go_enter Tryd.func52,Tryd.ntmps52
  go_upto_region 1 with (fail)
  have hB1:=below_alloc (Below.refl w.heap.size w) (Obj.cells #[Value.int IntKind.i64 x.f0,Value.string x.f1,Value.int IntKind.i64 x.f2] 66);have b0:(w.alloc (Obj.cells #[Value.int IntKind.i64 x.f0,Value.string x.f1,Value.int IntKind.i64 x.f2] 66)).heap[w.heap.size]?=some (.cells #[Value.int IntKind.i64 x.f0,Value.string x.f1,Value.int IntKind.i64 x.f2] 66 (0,0)):=blk_new _ _;replace HP:=sd (HP.out.below hB1);replace HF:=sd (HF.out.below hB1 hbd);generalize w.alloc (Obj.cells #[Value.int IntKind.i64 x.f0,Value.string x.f1,Value.int IntKind.i64 x.f2] 66)=w1 at *;obtain ⟨gw,hgw⟩:∃ gw,gw=w.heap.size:=⟨_,rfl⟩
  have hgg:gw≠g:=by have:=blk_lt HP.out.blk;have:=hB1.size;intro h;rw [hgw] at h;exact absurd h (HNE.out)
  have HGN:=sd (show some gw≠Value.ownBlock vW from fun e=>by have:=HNW.out gw e.symm;omega);clear HNW;rw [← hgw] at b0 ⊢;have BW:=sd b0;have HB1:=sd hB1;clear b0 hB1 hgw;obtain ⟨⟨k0,k1,k2,k3,k4,k5,k6⟩,f0,f1,f2,f3,f4,f5,f6⟩:=HP.out.facts;rw [hst] at k5;obtain ⟨w0_,w1_,w2_,_,_,_⟩:=bk3 BW;go_wp2_with fail
  refine (key_calls gw x.f0 x.f1 (⟨#[105,102]⟩:ByteArray) _ w0_ w1_).mono ?_;rintro e wn ⟨rfl,hd⟩;obtain ⟨⟨nd,rfl⟩⟩:=hd;replace HP:=sd (HP.out.below (pw_below_drewN (Below.refl _ _) nd));replace HF:=sd (HF.out.below (pw_below_drewN (Below.refl _ _) nd) hbd);generalize w1.drewN nd=w2 at HP HF ⊢;go_wp2_with fail
  refine (follow_calls _ 3 _).mono ?_;rintro e wn ⟨rfl,hd⟩;obtain ⟨⟨nd,rfl⟩⟩:=hd;replace HP:=sd (HP.out.below (pw_below_drewN (Below.refl _ _) nd));replace HF:=sd (HF.out.below (pw_below_drewN (Below.refl _ _) nd) hbd);generalize w2.drewN nd=w3 at HP HF ⊢;go_wp2_with fail
  rw [← HQ.out];exact ⟨by (try rfl),⟨_,_,_,HP.out⟩,HF.out⟩
theorem head_1 (bd g:Nat) (p:PR) (vC vT vW:Value) (x:S66) (code:Bool) (w:World) (hp:RP w bd g p vC vT vW) (hbd:bd≤w.heap.size) (hst:p.st=1) :
    Calls Tryd.prog 52 #[.pointer (some ⟨g,0,none⟩),.agg #[.int .i64 x.f0,.string x.f1,.int .i64 x.f2],.bool code] w (StepPost bd g vC vT vW ({ p with nm:=x.f1 }) (fol code 2) w):=by
  have hmf:∀ (fn:Fn) (first cap:Array Value) (w:World),(Instr.makeFunc fn first cap).run Tryd.prog w=.ok (.func fn first cap) w:=fun _ _ _ _=>rfl
  have HP:=sd hp;have HNE:=sd (show ¬ w.heap.size=g from fun h=>by have:=blk_lt hp.blk;omega);have HNW:=sd (Kd.R_lt HP.out.rW);have HF:=sd (FP.refl bd g vC vT vW w);clear hp;generalize hQ:StepPost bd g vC vT vW ({ p with nm:=x.f1 }) (fol code 2) w=Post;have HQ:=sd hQ;clear hQ;go_enter Tryd.func52,Tryd.ntmps52
  go_upto_region 1 with (fail)
  have hB1:=below_alloc (Below.refl w.heap.size w) (Obj.cells #[Value.int IntKind.i64 x.f0,Value.string x.f1,Value.int IntKind.i64 x.f2] 66);have b0:(w.alloc (Obj.cells #[Value.int IntKind.i64 x.f0,Value.string x.f1,Value.int IntKind.i64 x.f2] 66)).heap[w.heap.size]?=some (.cells #[Value.int IntKind.i64 x.f0,Value.string x.f1,Value.int IntKind.i64 x.f2] 66 (0,0)):=blk_new _ _;replace HP:=sd (HP.out.below hB1);replace HF:=sd (HF.out.below hB1 hbd);generalize w.alloc (Obj.cells #[Value.int IntKind.i64 x.f0,Value.string x.f1,Value.int IntKind.i64 x.f2] 66)=w1 at *;obtain ⟨gw,hgw⟩:∃ gw,gw=w.heap.size:=⟨_,rfl⟩
  have hgg:gw≠g:=by have:=blk_lt HP.out.blk;have:=hB1.size;intro h;rw [hgw] at h;exact absurd h (HNE.out)
  have HGN:=sd (show some gw≠Value.ownBlock vW from fun e=>by have:=HNW.out gw e.symm;omega);clear HNW;rw [← hgw] at b0 ⊢;have BW:=sd b0;have HB1:=sd hB1;clear b0 hB1 hgw;obtain ⟨⟨k0,k1,k2,k3,k4,k5,k6⟩,f0,f1,f2,f3,f4,f5,f6⟩:=HP.out.facts;rw [hst] at k5;obtain ⟨w0_,w1_,w2_,_,_,_⟩:=bk3 BW;go_wp2_with fail
  replace HP:=sd (HP.out.set 0 (.string x.f1) { p with nm:=x.f1 } rfl rfl rfl rfl);replace HF:=sd (FP.set (o:=0) HF.out HP.out.hbd (.string x.f1));generalize w1.setCell ⟨g,0,none⟩ (.string x.f1)=w2 at HP HF ⊢;refine (follow_calls _ 2 _).mono ?_;rintro e wn ⟨rfl,hd⟩;obtain ⟨⟨nd,rfl⟩⟩:=hd;replace HP:=sd (HP.out.below (pw_below_drewN (Below.refl _ _) nd));replace HF:=sd (HF.out.below (pw_below_drewN (Below.refl _ _) nd) hbd);generalize w2.drewN nd=w3 at HP HF ⊢;go_wp2_with fail
  rw [← HQ.out];exact ⟨by (try rfl),⟨_,_,_,HP.out⟩,HF.out⟩
theorem n48r:∀ q,q∈(27:Nat) :: k27.E→q≠25:=by decide
theorem yesretP (Post:Ending→World→Prop) (T:Array Value) (W w0:World) (gr bd:Nat) (nm acc par:ByteArray) (cs:List S27) (tg:List S35) (vC vT:Value) (t2:T.getD 2 undef=.pointer (some ⟨gr,0,none⟩)) (t3:T.getD 3 undef=.int .i64 0) (t4:T.getD 4 undef=.int .i64 0)
    (hg:W.heap[gr]?=some (.cells #[Value.string ⟨#[]⟩,.slice none 0 0,.string ⟨#[]⟩,.string ⟨#[]⟩,.slice none 0 0] 25 (0,0))) (hB:Below w0.heap.size w0 W) (hge:w0.heap.size≤gr) (hC:Kd.R k27 27 W bd (fun _=>True) vC cs) (hT:Kd.R k35 35 W bd (fun _=>True) vT tg)
    (hp:∀ W',Kd.R k27 27 W' bd (fun _=>True) vC cs→Kd.R k35 35 W' bd (fun _=>True) vT tg→Below w0.heap.size w0 W'→Post (.returned (.tuple #[.agg #[.string nm,vC,.string acc,.string par,vT],.int .i64 0,.int .i64 0])) W') :
    bodyPost Tryd.prog Tryd.f11 Post .ret { tmps:=T,defers:=[] } (((((W.setCell ⟨gr,0,none⟩ (.string nm)).setCell ⟨gr,1,none⟩ (vC)).setCell ⟨gr,2,none⟩ (.string acc)).setCell ⟨gr,3,none⟩ (.string par)).setCell ⟨gr,4,none⟩ (vT)):=by
  have b0:=blk_put (cs':=#[.string nm,.slice none 0 0,.string ⟨#[]⟩,.string ⟨#[]⟩,.slice none 0 0]) hg 0 (.string nm) rfl;have c0:=Kd.R_set hC hg n48r 0 (.string nm);have d0:=Kd.R_set hT hg n50r 0 (.string nm);have b1:=blk_put (cs':=#[.string nm,vC,.string ⟨#[]⟩,.string ⟨#[]⟩,.slice none 0 0]) b0 1 (vC) rfl;have c1:=Kd.R_set c0 b0 n48r 1 (vC);have d1:=Kd.R_set d0 b0 n50r 1 (vC);have b2:=blk_put (cs':=#[.string nm,vC,.string acc,.string ⟨#[]⟩,.slice none 0 0]) b1 2 (.string acc) rfl;have c2:=Kd.R_set c1 b1 n48r 2 (.string acc);have d2:=Kd.R_set d1 b1 n50r 2 (.string acc);have b3:=blk_put (cs':=#[.string nm,vC,.string acc,.string par,.slice none 0 0]) b2 3 (.string par) rfl;have c3:=Kd.R_set c2 b2 n48r 3 (.string par);have d3:=Kd.R_set d2 b2 n50r 3 (.string par);have b4:=blk_put (cs':=#[.string nm,vC,.string acc,.string par,vT]) b3 4 (vT) rfl;have c4:=Kd.R_set c3 b3 n48r 4 (vT);have d4:=Kd.R_set d3 b3 n50r 4 (vT);exact sretP Post T _ gr _ 0 0 t2 t3 t4 b4 rfl (hp _ c4 d4 (below_setN (below_setN (below_setN (below_setN (below_setN hB hge _) hge _) hge _) hge _) hge _))
def livesC:List S27:=[⟨1,3,⟨#[]⟩,-100⟩,⟨3,4,⟨#[114,101,110,116]⟩,0⟩]
end A
namespace WW
open Go.RowKit
section
variable {P:Program} {ops:Array Oper} {rest:List Oper} {o:Oper} {a:Act} {Q:Exit→Act→World→Prop} {W:World}
theorem gate_guard (hw:Region.wanted o (yielded ops a.tmps)=true) (h:wpList P ops Q ({ o with guard:=none } :: rest) a W):wpList P ops Q (o :: rest) a W:=by
  have h1:Region.wanted { o with guard:=none } (yielded ops a.tmps)=true:=rfl;unfold wpList at h ⊢;rw [if_pos h1] at h;rw [if_pos hw];exact h
end
end WW
namespace A
open Go.RowKit B WW WL WM
attribute [local go_sem] max2_int min2_int max_two min_two max_three min_three max_four min_four
set_option maxHeartbeats 8000000
set_option maxRecDepth 100000
attribute [local go_sem high] eqA27 eqA35
theorem rf09_Same.calls (k:Nat) (A0:Option Addr) (c0:Nat) (l0:List (S35)) (A1:Option Addr) (c1:Nat) (l1:List (S35)) (r:Bool) (w:World) (hr0:Kd.C k35 w A0 l0.length l0) (hc0:l0.length≤c0) (hr1:Kd.C k35 w A1 l1.length l1) (hc1:l1.length≤c1) (h:rf09_Same.f k l0 l1=some r) :
  Calls Tryd.prog 34 #[.slice A0 l0.length c0,.slice A1 l1.length c1] w fun e w'=>e=.returned (.bool r)∧Drawn0 w w':=by
 have hu35:=Tryd.underlying35;have HR0:=sd hr0;have HC0:=sd hc0;clear hr0 hc0;have HR1:=sd hr1;have HC1:=sd hc1;clear hr1 hc1;have H:=h;clear h;unfold rf09_Same.f at H;replace H:=ifI H;rcases H with ⟨c3,H⟩|⟨c3,H⟩
 ·obtain ⟨c3b0,c3b1⟩:=eqI c3;have c3b2:(l0.length == l1.length)=true:=by first|simpa using c3|(simp at c3 ⊢;omega)
  clear c3;have H':=sd H;clear H;go_enter Tryd.func34,Tryd.ntmps34
  go_wp2
  repeat (go_quiet (fail);try go_wp2)
  go_loopg [5] k (fun kq v5 w'=>∃ (x5_1:Int),v5=.int .i64 x5_1∧Aside0 (rf09_Same.l0 kq l0 l1 x5_1=some r)∧Aside0 (kq≤k)∧Drawn0 w w')
  case atStart=>exact ⟨(0),zq7,H',⟨Nat.le_refl _⟩,zq15⟩
  case round =>
   clear H';try clear c1
   obtain ⟨x5_1,rfl,HA,HK1,⟨m1,rfl⟩⟩:=hrel
   cases gk with
  |zero=>exact absurd HA.out (by simp [rf09_Same.l0])
  |succ k1 =>
    have H:=HA.out;clear HA;simp only [rf09_Same.l0] at H
    replace H:=ifI H;rcases H with ⟨c4,H⟩|⟨c4,H⟩
    ·have c4b0:decide (x5_1 < (l0.length:Int))=true:=decide_eq_true c4;clear c4;replace H:=ifI H;rcases H with ⟨c5,H⟩|⟨c5,H⟩
     ·have c5b0:decide (0≤x5_1)=true:=decide_eq_true c5;clear c5;replace H:=ifI H;rcases H with ⟨c6,H⟩|⟨c6,H⟩
      ·have c6b0:decide (x5_1 < (l1.length:Int))=true:=decide_eq_true c6;clear c6;replace H:=ifI H;rcases H with ⟨c7,H⟩|⟨c7,H⟩
       ·have c7b0:(!((((rd_T35 l0 x5_1).f0).toList) == (((rd_T35 l1 x5_1).f0).toList)) || (!((((rd_T35 l0 x5_1).f1).toList) == (((rd_T35 l1 x5_1).f1).toList))))=true:=c7;clear c7;obtain rfl:=Option.some.inj H;have p215:0≤(x5_1:Int):=od;have q215:x5_1 < (l0.length:Int):=od;obtain ⟨ad215,e215,hx215_0,hx215_1⟩:=at_T35 HR0.out x5_1 p215 q215
        cases e215
        replace p215:=eq_true p215;replace q215:=eq_true q215;have p216:0≤(x5_1:Int):=od;have q216:x5_1 < (l1.length:Int):=od;obtain ⟨ad216,e216,hx216_0,hx216_1⟩:=at_T35 HR1.out x5_1 p216 q216
        cases e216
        replace p216:=eq_true p216;replace q216:=eq_true q216;go_wp2
        repeat (go_quiet (fail);try go_wp2)
        go_ret
        exact ⟨zq7,zq15⟩
       have c7b0:(!((((rd_T35 l0 x5_1).f0).toList) == (((rd_T35 l1 x5_1).f0).toList)) || (!((((rd_T35 l0 x5_1).f1).toList) == (((rd_T35 l1 x5_1).f1).toList))))=false:=by simpa using c7
       clear c7;have H':=sd H;clear H;have p215:0≤(x5_1:Int):=od;have q215:x5_1 < (l0.length:Int):=od;obtain ⟨ad215,e215,hx215_0,hx215_1⟩:=at_T35 HR0.out x5_1 p215 q215
       cases e215
       replace p215:=eq_true p215;replace q215:=eq_true q215;have p216:0≤(x5_1:Int):=od;have q216:x5_1 < (l1.length:Int):=od;obtain ⟨ad216,e216,hx216_0,hx216_1⟩:=at_T35 HR1.out x5_1 p216 q216
       cases e216
       replace p216:=eq_true p216;replace q216:=eq_true q216;go_wp2
       repeat (go_quiet (fail);try go_wp2)
       go_roundg k1
       case measure=>have:=HK1.out;omega
       case rel=>exact ⟨(wrap64 (x5_1+1)),zq7,H',⟨by have:=HK1.out;omega⟩,zq15⟩
      exact absurd H (by simp)
     exact absurd H (by simp)
    have c4b0:decide (x5_1 < (l0.length:Int))=false:=decide_eq_false c4;clear c4;obtain rfl:=Option.some.inj H;go_wp2
    repeat (go_quiet (fail);try go_wp2)
    go_ret
    exact ⟨zq7,zq15⟩
 obtain ⟨c3b0,c3b1⟩:=neI c3;have c3b2:(l0.length == l1.length)=false:=by first|simpa using c3|(simp at c3 ⊢;omega)
 obtain rfl:=Option.some.inj H;go_enter Tryd.func34,Tryd.ntmps34
 go_wp2
 repeat (go_quiet (fail);try go_wp2)
 go_ret
 exact ⟨zq7,zq15⟩
theorem rf48_Same.calls (k:Nat) (a0_0:ByteArray) (A0_1:Option Addr) (c0_1:Nat) (l0_1:List (S27)) (a0_2 a0_3:ByteArray) (A0_4:Option Addr) (c0_4:Nat) (l0_4:List (S35)) (a1_0:ByteArray) (A1_1:Option Addr) (c1_1:Nat) (l1_1:List (S27)) (a1_2 a1_3:ByteArray) (A1_4:Option Addr) (c1_4:Nat) (l1_4:List (S35)) (r:Bool) (w:World) (hr0_1:Kd.C k27 w A0_1 l0_1.length l0_1) (hc0_1:l0_1.length≤c0_1) (hr0_4:Kd.C k35 w A0_4 l0_4.length l0_4) (hc0_4:l0_4.length≤c0_4) (hr1_1:Kd.C k27 w A1_1 l1_1.length l1_1) (hc1_1:l1_1.length≤c1_1) (hr1_4:Kd.C k35 w A1_4 l1_4.length l1_4) (hc1_4:l1_4.length≤c1_4) (h:rf48_Same.f k a0_0 l0_1 a0_2 a0_3 l0_4 a1_0 l1_1 a1_2 a1_3 l1_4=some r) :
  Calls Tryd.prog 12 #[.agg #[.string a0_0,.slice A0_1 l0_1.length c0_1,.string a0_2,.string a0_3,.slice A0_4 l0_4.length c0_4],.agg #[.string a1_0,.slice A1_1 l1_1.length c1_1,.string a1_2,.string a1_3,.slice A1_4 l1_4.length c1_4]] w fun e w'=>e=.returned (.bool r)∧Below w.heap.size w w':=by
 have hu25:=Tryd.underlying25;have hu27:=Tryd.underlying27;have HR0_1:=sd hr0_1;have HC0_1:=sd hc0_1;clear hr0_1 hc0_1;have HR0_4:=sd hr0_4;have HC0_4:=sd hc0_4;clear hr0_4 hc0_4;have HR1_1:=sd hr1_1;have HC1_1:=sd hc1_1;clear hr1_1 hc1_1;have HR1_4:=sd hr1_4;have HC1_4:=sd hc1_4;clear hr1_4 hc1_4;have HB:=sd (Below.refl w.heap.size w);have H:=h;clear h;unfold rf48_Same.f at H;have HC3:=sd H;clear H;go_enter Tryd.func12,Tryd.ntmps12
 go_upto_region 1 with (first|((with_reducible refine gate_dst (N:=2) rfl ?_);(try (refine gate_guard (by rfl) ?_;dsimp only));refine bxA 2 #[.string a0_0,.slice A0_1 l0_1.length c0_1,.string a0_2,.string a0_3,.slice A0_4 l0_4.length c0_4] 25 ?_;intro gb217 hg w4 hbox hb;have BK217:=sd (hbox);have GW217:=gem hg HB;have GE217:=GW217;replace HB:=hbm HB hb;clear hb hbox hg)|((with_reducible refine gate_dst (N:=3) rfl ?_);(try (refine gate_guard (by rfl) ?_;dsimp only));refine bxA 3 #[.string a1_0,.slice A1_1 l1_1.length c1_1,.string a1_2,.string a1_3,.slice A1_4 l1_4.length c1_4] 25 ?_;intro gb218 hg w5 hbox hb;have BK218:=sd (hbox);have GW218:=gem hg HB;have GE218:=GW218;have NB217_218:=nlm hg BK217;have NB218_217:=ngm hg BK217;replace BK217:=bkm BK217 hb;replace HB:=hbm HB hb;clear hb hbox hg))
 repeat (go_quiet (first|((with_reducible refine gate_dst (N:=2) rfl ?_);(try (refine gate_guard (by rfl) ?_;dsimp only));refine bxA 2 #[.string a0_0,.slice A0_1 l0_1.length c0_1,.string a0_2,.string a0_3,.slice A0_4 l0_4.length c0_4] 25 ?_;intro gb217 hg w4 hbox hb;have BK217:=sd (hbox);have GW217:=gem hg HB;have GE217:=GW217;replace HB:=hbm HB hb;clear hb hbox hg)|((with_reducible refine gate_dst (N:=3) rfl ?_);(try (refine gate_guard (by rfl) ?_;dsimp only));refine bxA 3 #[.string a1_0,.slice A1_1 l1_1.length c1_1,.string a1_2,.string a1_3,.slice A1_4 l1_4.length c1_4] 25 ?_;intro gb218 hg w5 hbox hb;have BK218:=sd (hbox);have GW218:=gem hg HB;have GE218:=GW218;have NB217_218:=nlm hg BK217;have NB218_217:=ngm hg BK217;replace BK217:=bkm BK217 hb;replace HB:=hbm HB hb;clear hb hbox hg));go_upto_region 1 with (first|((with_reducible refine gate_dst (N:=2) rfl ?_);(try (refine gate_guard (by rfl) ?_;dsimp only));refine bxA 2 #[.string a0_0,.slice A0_1 l0_1.length c0_1,.string a0_2,.string a0_3,.slice A0_4 l0_4.length c0_4] 25 ?_;intro gb217 hg w4 hbox hb;have BK217:=sd (hbox);have GW217:=gem hg HB;have GE217:=GW217;replace HB:=hbm HB hb;clear hb hbox hg)|((with_reducible refine gate_dst (N:=3) rfl ?_);(try (refine gate_guard (by rfl) ?_;dsimp only));refine bxA 3 #[.string a1_0,.slice A1_1 l1_1.length c1_1,.string a1_2,.string a1_3,.slice A1_4 l1_4.length c1_4] 25 ?_;intro gb218 hg w5 hbox hb;have BK218:=sd (hbox);have GW218:=gem hg HB;have GE218:=GW218;have NB217_218:=nlm hg BK217;have NB218_217:=ngm hg BK217;replace BK217:=bkm BK217 hb;replace HB:=hbm HB hb;clear hb hbox hg)))
 (try simp only [Act.put,List.setIfInBounds_toArray,List.set_cons_zero,List.set_cons_succ])
 go_cut [41] (fun v41 wc=>∃ (kq:Nat) (x41_2:Bool),v41=.bool x41_2∧Aside0 (rf48_Same.j0 kq x41_2 a0_0 l0_1 a0_2 a0_3 l0_4 a1_0 l1_1 a1_2 a1_3 l1_4=some r)∧Aside0 (kq≤k)∧Aside0 (wc.heap[gb217]?=some (.cells #[.string a0_0,(.slice A0_1 l0_1.length c0_1),.string a0_2,.string a0_3,(.slice A0_4 l0_4.length c0_4)] 25 (0,0)))∧Aside0 (wc.heap[gb218]?=some (.cells #[.string a1_0,(.slice A1_1 l1_1.length c1_1),.string a1_2,.string a1_3,(.slice A1_4 l1_4.length c1_4)] 25 (0,0)))∧Aside0 (Below w.heap.size w wc))
 case first =>
  have H:=HC3.out;clear HC3;replace H:=ifI H;rcases H with ⟨c6,H⟩|⟨c6,H⟩
  ·obtain ⟨c6b0,c6b1⟩:=eqI c6;clear c6;(first|rw [c6b0]|(simp only [i64_w,i32_w];rw [c6b0])|skip)
   replace H:=ifI H;rcases H with ⟨c7,H⟩|⟨c7,H⟩
   ·obtain ⟨c7b0,c7b1⟩:=eqI c7;clear c7;replace H:=ifI H;rcases H with ⟨c8,H⟩|⟨c8,H⟩
    ·obtain ⟨c8b0,c8b1⟩:=eqI c8;clear c8;replace H:=ifI H;rcases H with ⟨c9,H⟩|⟨c9,H⟩
     ·obtain ⟨c9b0,c9b1⟩:=eqI c9;have c9b2:(l0_1.length == l1_1.length)=true:=by first|simpa using c9|(simp at c9 ⊢;omega)
      clear c9;replace H:=bdI H;obtain ⟨t219,A10,H⟩:=H;(try dsimp only at H)
      have H':=sd H;clear H;have hnb11:=NB217_218.out;have hnc11:=NB218_217.out;obtain ⟨_,_,_,_,_,_,_,_,_,_⟩:=bk5 BK217;obtain ⟨_,_,_,_,_,_,_,_,_,_⟩:=bk5 BK218;go_wp2_with (first|(go_at_call 34;(with_reducible refine (rf09_Same.calls k _ _ l0_4 _ _ l1_4 t219 _ ?side1 ?side2 ?side3 ?side4 A10.out).mono ?_);(case side1=>exact zq29);(case side2=>exact HC0_4.out);(case side3=>exact zq30);(case side4=>exact HC1_4.out);rintro e w' ⟨rfl,⟨nd,rfl⟩⟩;(try first|exact ⟨rfl,_,World.drewN_drewN _ _ _⟩|exact ⟨rfl,_,Eq.trans (World.drewN_drewN _ _ _) (congrArg (World.drewN _) (Nat.add_assoc _ _ _))⟩)))
      repeat (go_quiet (first|(go_at_call 34;(with_reducible refine (rf09_Same.calls k _ _ l0_4 _ _ l1_4 t219 _ ?side1 ?side2 ?side3 ?side4 A10.out).mono ?_);(case side1=>exact zq29);(case side2=>exact HC0_4.out);(case side3=>exact zq30);(case side4=>exact HC1_4.out);rintro e w' ⟨rfl,⟨nd,rfl⟩⟩;(try first|exact ⟨rfl,_,World.drewN_drewN _ _ _⟩|exact ⟨rfl,_,Eq.trans (World.drewN_drewN _ _ _) (congrArg (World.drewN _) (Nat.add_assoc _ _ _))⟩)));try go_wp2_with (first|(go_at_call 34;(with_reducible refine (rf09_Same.calls k _ _ l0_4 _ _ l1_4 t219 _ ?side1 ?side2 ?side3 ?side4 A10.out).mono ?_);(case side1=>exact zq29);(case side2=>exact HC0_4.out);(case side3=>exact zq30);(case side4=>exact HC1_4.out);rintro e w' ⟨rfl,⟨nd,rfl⟩⟩;(try first|exact ⟨rfl,_,World.drewN_drewN _ _ _⟩|exact ⟨rfl,_,Eq.trans (World.drewN_drewN _ _ _) (congrArg (World.drewN _) (Nat.add_assoc _ _ _))⟩))))
      go_meet
      case rel=>exact ⟨_,(!t219),zq7,H',⟨by first|omega|exact Nat.le_refl _⟩,⟨zq31⟩,⟨zq32⟩,⟨zq33⟩⟩
     obtain ⟨c9b0,c9b1⟩:=neI c9;have c9b2:(l0_1.length == l1_1.length)=false:=by first|simpa using c9|(simp at c9 ⊢;omega)
     have H':=sd H;clear H;have hnb14:=NB217_218.out;have hnc14:=NB218_217.out;obtain ⟨_,_,_,_,_,_,_,_,_,_⟩:=bk5 BK217;obtain ⟨_,_,_,_,_,_,_,_,_,_⟩:=bk5 BK218;go_wp2
     repeat (go_quiet (fail);try go_wp2)
     go_meet
     case rel=>exact ⟨_,(true),zq7,H',⟨by first|omega|exact Nat.le_refl _⟩,⟨zq31⟩,⟨zq32⟩,⟨zq33⟩⟩
    obtain ⟨c8b0,c8b1⟩:=neI c8;have H':=sd H;clear H;have hnb17:=NB217_218.out;have hnc17:=NB218_217.out;obtain ⟨_,_,_,_,_,_,_,_,_,_⟩:=bk5 BK217;obtain ⟨_,_,_,_,_,_,_,_,_,_⟩:=bk5 BK218;go_wp2
    repeat (go_quiet (fail);try go_wp2)
    go_meet
    case rel=>exact ⟨_,(true),zq7,H',⟨by first|omega|exact Nat.le_refl _⟩,⟨zq31⟩,⟨zq32⟩,⟨zq33⟩⟩
   obtain ⟨c7b0,c7b1⟩:=neI c7;have H':=sd H;clear H;have hnb20:=NB217_218.out;have hnc20:=NB218_217.out;obtain ⟨_,_,_,_,_,_,_,_,_,_⟩:=bk5 BK217;obtain ⟨_,_,_,_,_,_,_,_,_,_⟩:=bk5 BK218;go_wp2
   repeat (go_quiet (fail);try go_wp2)
   go_meet
   case rel=>exact ⟨_,(true),zq7,H',⟨by first|omega|exact Nat.le_refl _⟩,⟨zq31⟩,⟨zq32⟩,⟨zq33⟩⟩
  obtain ⟨c6b0,c6b1⟩:=neI c6;(first|rw [c6b0]|(simp only [i64_w,i32_w];rw [c6b0])|skip)
  have H':=sd H;clear H;have hnb23:=NB217_218.out;have hnc23:=NB218_217.out;obtain ⟨_,_,_,_,_,_,_,_,_,_⟩:=bk5 BK217;obtain ⟨_,_,_,_,_,_,_,_,_,_⟩:=bk5 BK218;go_wp2
  repeat (go_quiet (fail);try go_wp2)
  go_meet
  case rel=>exact ⟨_,(true),zq7,H',⟨by first|omega|exact Nat.le_refl _⟩,⟨zq31⟩,⟨zq32⟩,⟨zq33⟩⟩
 case rest =>
  clear HC3;try clear c1
  obtain ⟨kq,x41_2,rfl,HA,HJ2,BK217,BK218,HB⟩:=hcut
  cases kq with
 |zero=>exact absurd HA.out (by simp [rf48_Same.j0])
 |succ kj2 =>
   have H:=HA.out;clear HA;simp only [rf48_Same.j0] at H
   by_cases c26:x41_2=true
   ·subst c26;rw [if_pos rfl] at H;obtain rfl:=Option.some.inj H;go_wp2
    repeat (go_quiet (fail);try go_wp2)
    go_ret
    exact ⟨zq4,zq33⟩
   replace c26:=Bool.eq_false_iff.mpr c26;subst c26;rw [if_neg Bool.false_ne_true] at H;have H':=sd H;clear H;go_wp2
   repeat (go_quiet (fail);try go_wp2)
   go_loopg [5] kj2 (fun kq v5 w'=>∃ (x5_2:Int),v5=.int .i64 x5_2∧Aside0 (rf48_Same.l0 kq x5_2 a0_0 l0_1 a0_2 a0_3 l0_4 a1_0 l1_1 a1_2 a1_3 l1_4=some r)∧Aside0 (kq≤kj2)∧Aside0 (w'.heap[gb217]?=some (.cells #[.string a0_0,(.slice A0_1 l0_1.length c0_1),.string a0_2,.string a0_3,(.slice A0_4 l0_4.length c0_4)] 25 (0,0)))∧Aside0 (w'.heap[gb218]?=some (.cells #[.string a1_0,(.slice A1_1 l1_1.length c1_1),.string a1_2,.string a1_3,(.slice A1_4 l1_4.length c1_4)] 25 (0,0)))∧Aside0 (Below w.heap.size w w'))
   case atStart=>exact ⟨(0),zq7,H',⟨Nat.le_refl _⟩,⟨zq31⟩,⟨zq32⟩,⟨zq33⟩⟩
   case round =>
    clear H';try clear c1
    obtain ⟨x5_2,rfl,HA,HK2,BK217,BK218,HB⟩:=hrel
    cases gk with
   |zero=>exact absurd HA.out (by simp [rf48_Same.l0])
   |succ k2 =>
     have H:=HA.out;clear HA;simp only [rf48_Same.l0] at H
     replace H:=ifI H;rcases H with ⟨c27,H⟩|⟨c27,H⟩
     ·have c27b0:decide (x5_2 < (l0_1.length:Int))=true:=decide_eq_true c27;clear c27;replace H:=ifI H;rcases H with ⟨c28,H⟩|⟨c28,H⟩
      ·have c28b0:decide (0≤x5_2)=true:=decide_eq_true c28;clear c28;replace H:=ifI H;rcases H with ⟨c29,H⟩|⟨c29,H⟩
       ·have c29b0:decide (x5_2 < (l1_1.length:Int))=true:=decide_eq_true c29;clear c29;replace H:=ifI H;rcases H with ⟨c30,H⟩|⟨c30,H⟩
        ·have c30b0:(!(((rd_T27 l0_1 x5_2).f0) == ((rd_T27 l1_1 x5_2).f0)) || (!(((rd_T27 l0_1 x5_2).f1) == ((rd_T27 l1_1 x5_2).f1)) || (!((((rd_T27 l0_1 x5_2).f2).toList) == (((rd_T27 l1_1 x5_2).f2).toList)) || (!(((rd_T27 l0_1 x5_2).f3) == ((rd_T27 l1_1 x5_2).f3))))))=true:=c30;clear c30;obtain rfl:=Option.some.inj H;have hnb31:=NB217_218.out;have hnc31:=NB218_217.out;obtain ⟨_,_,_,_,_,_,_,_,_,_⟩:=bk5 BK217;have p220:0≤(x5_2:Int):=od;have q220:x5_2 < (l0_1.length:Int):=od;obtain ⟨ad220,e220,hx220_0,hx220_1,hx220_2,hx220_3⟩:=at_T27 HR0_1.out x5_2 p220 q220
         cases e220
         replace hx220_0:=(HB.out.cell (World.block_lt_of_cell? w _ hx220_0)).trans hx220_0;replace hx220_1:=(HB.out.cell (World.block_lt_of_cell? w _ hx220_1)).trans hx220_1;replace hx220_2:=(HB.out.cell (World.block_lt_of_cell? w _ hx220_2)).trans hx220_2;replace hx220_3:=(HB.out.cell (World.block_lt_of_cell? w _ hx220_3)).trans hx220_3;replace p220:=eq_true p220;replace q220:=eq_true q220;obtain ⟨_,_,_,_,_,_,_,_,_,_⟩:=bk5 BK218;have p221:0≤(x5_2:Int):=od;have q221:x5_2 < (l1_1.length:Int):=od;obtain ⟨ad221,e221,hx221_0,hx221_1,hx221_2,hx221_3⟩:=at_T27 HR1_1.out x5_2 p221 q221
         cases e221
         replace hx221_0:=(HB.out.cell (World.block_lt_of_cell? w _ hx221_0)).trans hx221_0;replace hx221_1:=(HB.out.cell (World.block_lt_of_cell? w _ hx221_1)).trans hx221_1;replace hx221_2:=(HB.out.cell (World.block_lt_of_cell? w _ hx221_2)).trans hx221_2;replace hx221_3:=(HB.out.cell (World.block_lt_of_cell? w _ hx221_3)).trans hx221_3;replace p221:=eq_true p221;replace q221:=eq_true q221;go_wp2
         repeat (go_quiet (fail);try go_wp2)
         go_ret
         exact ⟨zq4,zq33⟩
        have c30b0:(!(((rd_T27 l0_1 x5_2).f0) == ((rd_T27 l1_1 x5_2).f0)) || (!(((rd_T27 l0_1 x5_2).f1) == ((rd_T27 l1_1 x5_2).f1)) || (!((((rd_T27 l0_1 x5_2).f2).toList) == (((rd_T27 l1_1 x5_2).f2).toList)) || (!(((rd_T27 l0_1 x5_2).f3) == ((rd_T27 l1_1 x5_2).f3))))))=false:=by simpa using c30
        clear c30;have H':=sd H;clear H;have hnb34:=NB217_218.out;have hnc34:=NB218_217.out;obtain ⟨_,_,_,_,_,_,_,_,_,_⟩:=bk5 BK217;have p220:0≤(x5_2:Int):=od;have q220:x5_2 < (l0_1.length:Int):=od;obtain ⟨ad220,e220,hx220_0,hx220_1,hx220_2,hx220_3⟩:=at_T27 HR0_1.out x5_2 p220 q220
        cases e220
        replace hx220_0:=(HB.out.cell (World.block_lt_of_cell? w _ hx220_0)).trans hx220_0;replace hx220_1:=(HB.out.cell (World.block_lt_of_cell? w _ hx220_1)).trans hx220_1;replace hx220_2:=(HB.out.cell (World.block_lt_of_cell? w _ hx220_2)).trans hx220_2;replace hx220_3:=(HB.out.cell (World.block_lt_of_cell? w _ hx220_3)).trans hx220_3;replace p220:=eq_true p220;replace q220:=eq_true q220;obtain ⟨_,_,_,_,_,_,_,_,_,_⟩:=bk5 BK218;have p221:0≤(x5_2:Int):=od;have q221:x5_2 < (l1_1.length:Int):=od;obtain ⟨ad221,e221,hx221_0,hx221_1,hx221_2,hx221_3⟩:=at_T27 HR1_1.out x5_2 p221 q221
        cases e221
        replace hx221_0:=(HB.out.cell (World.block_lt_of_cell? w _ hx221_0)).trans hx221_0;replace hx221_1:=(HB.out.cell (World.block_lt_of_cell? w _ hx221_1)).trans hx221_1;replace hx221_2:=(HB.out.cell (World.block_lt_of_cell? w _ hx221_2)).trans hx221_2;replace hx221_3:=(HB.out.cell (World.block_lt_of_cell? w _ hx221_3)).trans hx221_3;replace p221:=eq_true p221;replace q221:=eq_true q221;go_wp2
        repeat (go_quiet (fail);try go_wp2)
        go_roundg k2
        case measure=>have:=HJ2.out;have:=HK2.out;omega
        case rel=>exact ⟨(wrap64 (x5_2+1)),zq7,H',⟨by have:=HJ2.out;have:=HK2.out;omega⟩,⟨zq31⟩,⟨zq32⟩,⟨zq33⟩⟩
       exact absurd H (by simp)
      exact absurd H (by simp)
     have c27b0:decide (x5_2 < (l0_1.length:Int))=false:=decide_eq_false c27;clear c27;obtain rfl:=Option.some.inj H;have hnb37:=NB217_218.out;have hnc37:=NB218_217.out;obtain ⟨_,_,_,_,_,_,_,_,_,_⟩:=bk5 BK217;go_wp2
     repeat (go_quiet (fail);try go_wp2)
     go_ret
     exact ⟨zq4,zq33⟩
end A
namespace A
open Go.RowKit B WW WL WM
attribute [local go_sem] max2_int min2_int max_two min_two max_three min_three max_four min_four
structure S25 where
  f0:ByteArray
  f1:(List S27)
  f2:ByteArray
  f3:ByteArray
  f4:(List S35)
def z25:S25:=⟨(⟨#[]⟩:ByteArray),([]:List S27),(⟨#[]⟩:ByteArray),(⟨#[]⟩:ByteArray),([]:List S35)⟩
def k25:Kd S25:=Kd.iso (Kd.pair Kd.string (Kd.pair (Kd.slice 27 k27) (Kd.pair Kd.string (Kd.pair Kd.string (Kd.slice 35 k35))))) (fun x:S25=>(x.f0,x.f1,x.f2,x.f3,x.f4))
theorem k25_open {w:World} {x:S25} {cs:List Value} (h:k25.K w x cs):∃ A1 c1 A4 c4,cs=[.string x.f0,.slice A1 x.f1.length c1,.string x.f2,.string x.f3,.slice A4 x.f4.length c4]∧x.f1.length≤c1∧k27.C w A1 x.f1.length x.f1∧x.f4.length≤c4∧k35.C w A4 x.f4.length x.f4:=by
  obtain ⟨_,_,rfl,rfl,⟨_,_,rfl,⟨A1,c1,rfl,l1,g1⟩,⟨_,_,rfl,rfl,⟨_,_,rfl,rfl,⟨A4,c4,rfl,l4,g4⟩⟩⟩⟩⟩:=h;exact ⟨A1,c1,A4,c4,rfl,l1,g1,l4,g4⟩
theorem k25_mk (w:World) (x:S25) {A1:Option Addr} {c1:Nat} (l1:x.f1.length≤c1) (g1:k27.C w A1 x.f1.length x.f1) {A4:Option Addr} {c4:Nat} (l4:x.f4.length≤c4) (g4:k35.C w A4 x.f4.length x.f4):k25.K w x [.string x.f0,.slice A1 x.f1.length c1,.string x.f2,.string x.f3,.slice A4 x.f4.length c4]:=⟨[.string x.f0],[.slice A1 x.f1.length c1,.string x.f2,.string x.f3,.slice A4 x.f4.length c4],rfl,rfl,⟨[.slice A1 x.f1.length c1],[.string x.f2,.string x.f3,.slice A4 x.f4.length c4],rfl,⟨A1,c1,rfl,l1,g1⟩,⟨[.string x.f2],[.string x.f3,.slice A4 x.f4.length c4],rfl,rfl,⟨[.string x.f3],[.slice A4 x.f4.length c4],rfl,rfl,⟨A4,c4,rfl,l4,g4⟩⟩⟩⟩⟩
def rd_T25 (xs:List S25) (i:Int):S25:=xs.getD i.toNat z25
theorem at_T25 {w:World} {A:Option Addr} {n:Nat} {xs:List S25} (h:Kd.C k25 w A n xs) (i:Int) (h0:0≤i) (h1:i < n):∃ ad A1 c1 A4 c4,A=some ad∧w.cell? (ad.add (i.toNat * 5))=some (.string (rd_T25 xs i).f0)∧w.cell? ⟨(ad.add (i.toNat * 5)).block,(ad.add (i.toNat * 5)).off+1,none⟩=some (.slice A1 (rd_T25 xs i).f1.length c1)∧w.cell? ⟨(ad.add (i.toNat * 5)).block,(ad.add (i.toNat * 5)).off+2,none⟩=some (.string (rd_T25 xs i).f2)∧w.cell? ⟨(ad.add (i.toNat * 5)).block,(ad.add (i.toNat * 5)).off+3,none⟩=some (.string (rd_T25 xs i).f3)∧w.cell? ⟨(ad.add (i.toNat * 5)).block,(ad.add (i.toNat * 5)).off+4,none⟩=some (.slice A4 (rd_T25 xs i).f4.length c4)∧(rd_T25 xs i).f1.length≤c1∧k27.C w A1 (rd_T25 xs i).f1.length (rd_T25 xs i).f1∧(rd_T25 xs i).f4.length≤c4∧k35.C w A4 (rd_T25 xs i).f4.length (rd_T25 xs i).f4:=by
  obtain ⟨ad,c,e,_,hK,hc0⟩:=Kd.C_get h z25 i h0 h1;have hc:∀ j u,c[j]?=some u→w.cell? (ad.add (i.toNat * 5+j))=some u:=hc0;obtain ⟨A1,c1,A4,c4,rfl,l1,g1,l4,g4⟩:=k25_open hK;exact ⟨ad,A1,c1,A4,c4,e,hc 0 _ rfl,by rw [← add_field _ _ 1 (by omega)];exact hc 1 _ rfl,by rw [← add_field _ _ 2 (by omega)];exact hc 2 _ rfl,by rw [← add_field _ _ 3 (by omega)];exact hc 3 _ rfl,by rw [← add_field _ _ 4 (by omega)];exact hc 4 _ rfl,l1,g1,l4,g4⟩
end A
namespace A
open Go.RowKit B WW WL WM
attribute [local go_sem] max2_int min2_int max_two min_two max_three min_three max_four min_four
set_option maxHeartbeats 8000000
set_option maxRecDepth 100000
def rules_First.l0:Nat→List (S25)→Int→Int→Int→Int→ByteArray→ByteArray→Option (Int)
|0,_,_,_,_,_,_,_=>none
|k+1,x7,x8,x9,x223000,x223001,x223002,x223003=>if x9 < x8 then (if 0≤x9 then (if x9 < (x7.length:Int) then ((rules_Holds.f k ((rd_T25 x7 x9).f0) ((rd_T25 x7 x9).f1) ((rd_T25 x7 x9).f2) ((rd_T25 x7 x9).f3) ((rd_T25 x7 x9).f4) x223000 x223001 x223002 x223003).bind fun t225=>(if t225=true then (some x9) else (rules_First.l0 k x7 x8 (wrap64 (x9+1)) x223000 x223001 x223002 x223003))) else (none)) else (none)) else (some (-1))
def rules_First.f (k:Nat) (l0:List (S25)) (a1_0:Int) (a1_1:Int) (a1_2:ByteArray) (a1_3:ByteArray):Option (Int):=rules_First.l0 k l0 (l0.length:Int) 0 a1_0 a1_1 a1_2 a1_3
theorem two25 (W:World) (x:S25) {A1 A4:Option Addr} {c1 c4:Nat} (l1:x.f1.length≤c1) (h1:Kd.C k27 W A1 x.f1.length x.f1) (l4:x.f4.length≤c4) (h4:Kd.C k35 W A4 x.f4.length x.f4) :
  Kd.C k25 (W.alloc (.cells #[.string ⟨#[]⟩,.slice none 0 0,.string ⟨#[]⟩,.string ⟨#[]⟩,.slice none 0 0,.string x.f0,.slice A1 x.f1.length c1,.string x.f2,.string x.f3,.slice A4 x.f4.length c4] 25)) (some ⟨W.heap.size,0,none⟩) 2 [z25,x]:=by
 have hbl:=below_alloc (Below.refl W.heap.size W) (.cells #[.string ⟨#[]⟩,.slice none 0 0,.string ⟨#[]⟩,.string ⟨#[]⟩,.slice none 0 0,.string x.f0,.slice A1 x.f1.length c1,.string x.f2,.string x.f3,.slice A4 x.f4.length c4] 25);have hb:=fun k=>blk_cell (blk_new W (.cells #[.string ⟨#[]⟩,.slice none 0 0,.string ⟨#[]⟩,.string ⟨#[]⟩,.slice none 0 0,.string x.f0,.slice A1 x.f1.length c1,.string x.f2,.string x.f3,.slice A4 x.f4.length c4] 25)) k
 refine ⟨rfl,by decide,fun _=>⟨_,rfl,fun j p hj=>?_⟩⟩
 cases j with
|zero =>
  obtain rfl:=Option.some.inj hj;refine ⟨[.string ⟨#[]⟩,.slice none 0 0,.string ⟨#[]⟩,.string ⟨#[]⟩,.slice none 0 0],rfl,k25_mk _ z25 (A1:=none) (c1:=0) (Nat.le_refl _) (Kd.C_nil _ _) (A4:=none) (c4:=0) (Nat.le_refl _) (Kd.C_nil _ _),fun i u hu=>?_⟩;rw [show k25.sz=5 from rfl,add_at];rcases i with _|_|_|_|_|i
  ·exact (hb 0).trans hu
  ·exact (hb 1).trans hu
  ·exact (hb 2).trans hu
  ·exact (hb 3).trans hu
  ·exact (hb 4).trans hu
  ·cases hu
|succ j =>
  cases j with
 |zero =>
   obtain rfl:=Option.some.inj hj;refine ⟨[.string x.f0,.slice A1 x.f1.length c1,.string x.f2,.string x.f3,.slice A4 x.f4.length c4],rfl,k25_mk _ x l1 (Kd.C_below h1 hbl) l4 (Kd.C_below h4 hbl),fun i u hu=>?_⟩;rw [show k25.sz=5 from rfl,add_at];rcases i with _|_|_|_|_|i
   ·exact (hb 5).trans hu
   ·exact (hb 6).trans hu
   ·exact (hb 7).trans hu
   ·exact (hb 8).trans hu
   ·exact (hb 9).trans hu
   ·cases hu
 |succ j=>cases hj
def livesR:S25:=⟨⟨#[114,101,110,116]⟩,livesC,⟨#[53,49]⟩,⟨#[112]⟩,livesG⟩
theorem lives_walk (w:World) (hG:Gl w)
  (C1:Aside0 (∀ W,Calls Tryd.prog 10 #[] W fun e w'=>∃ v1 v4:Value,e=.returned (.agg #[.string ⟨#[114,101,110,116]⟩,v1,.string ⟨#[53,49]⟩,.string ⟨#[112]⟩,v4])∧Kd.R k27 27 w' W.heap.size (fun _=>True) v1 livesC∧Kd.R k35 35 w' W.heap.size (fun _=>True) v4 livesG∧Below W.heap.size W w'))
  (C2:Aside0 (∀ W A c A4 c4,Kd.C k27 W A livesC.length livesC→livesC.length≤c→Kd.C k35 W A4 livesG.length livesG→livesG.length≤c4→Gl W→Calls Tryd.prog 9 #[.agg #[.string ⟨#[114,101,110,116]⟩,.slice A livesC.length c,.string ⟨#[53,49]⟩,.string ⟨#[112]⟩,.slice A4 livesG.length c4]] W fun e w'=>e=.returned (.tuple #[.string livesX,.int .i64 0])∧Below W.heap.size W w'))
  (C3:Aside0 (∀ W,Gl W→Calls Tryd.prog 11 #[.string livesX] W fun e w'=>∃ v1 v4:Value,e=.returned (.tuple #[.agg #[.string ⟨#[114,101,110,116]⟩,v1,.string ⟨#[53,49]⟩,.string ⟨#[112]⟩,v4],.int .i64 0,.int .i64 0])∧Kd.R k27 27 w' W.heap.size (fun _=>True) v1 livesC∧Kd.R k35 35 w' W.heap.size (fun _=>True) v4 livesG∧Below W.heap.size W w'))
  (C4:Aside0 (∀ W,Gl W→Calls Tryd.prog 11 #[.string livesY] W fun e w'=>∃ v1 v4:Value,e=.returned (.tuple #[.agg #[.string ⟨#[]⟩,v1,.string ⟨#[]⟩,.string ⟨#[]⟩,v4],.int .i64 20,.int .i64 27])∧Kd.R k27 27 w' W.heap.size (fun _=>True) v1 []∧Kd.R k35 35 w' W.heap.size (fun _=>True) v4 []∧Below W.heap.size W w'))
  (C5:Aside0 (∀ W A c A4 c4 B d B4 d4,Kd.C k27 W A livesC.length livesC→livesC.length≤c→Kd.C k35 W A4 livesG.length livesG→livesG.length≤c4→Kd.C k27 W B livesC.length livesC→livesC.length≤d→Kd.C k35 W B4 livesG.length livesG→livesG.length≤d4→Calls Tryd.prog 12 #[.agg #[.string ⟨#[114,101,110,116]⟩,.slice A livesC.length c,.string ⟨#[53,49]⟩,.string ⟨#[112]⟩,.slice A4 livesG.length c4],.agg #[.string ⟨#[114,101,110,116]⟩,.slice B livesC.length d,.string ⟨#[53,49]⟩,.string ⟨#[112]⟩,.slice B4 livesG.length d4]] W fun e w'=>e=.returned (.bool true)∧Below W.heap.size W w'))
  (C6:Aside0 (∀ W A c A4 c4,Kd.C k27 W A livesC.length livesC→livesC.length≤c→Kd.C k35 W A4 livesG.length livesG→livesG.length≤c4→Gl W→Calls Tryd.prog 5 #[.agg #[.string ⟨#[114,101,110,116]⟩,.slice A livesC.length c,.string ⟨#[53,49]⟩,.string ⟨#[112]⟩,.slice A4 livesG.length c4],.agg #[.int .i64 9,.int .i64 (-120),.string ⟨#[]⟩,.string ⟨#[116,104,101,32,114,101,110,116]⟩]] W fun e w'=>e=.returned (.bool true)∧Below W.heap.size W w'))
  (C7:Aside0 (∀ W A,Kd.C k25 W A 2 [z25,livesR]→Gl W→Calls Tryd.prog 13 #[.slice A 2 2,.agg #[.int .i64 9,.int .i64 (-120),.string ⟨#[]⟩,.string ⟨#[116,104,101,32,114,101,110,116]⟩]] W fun e w'=>e=.returned (.int .i64 1)∧Below W.heap.size W w')) :
  Calls Tryd.prog 6 #[] w fun e w'=>e=.returned (.bool true)∧Below w.heap.size w w':=by
 have HP:=sd (show ∀ W,Below w.heap.size w W→(fun (e:Ending) (w':World)=>e=.returned (.bool true)∧Below w.heap.size w w') (.returned (.bool true)) W from fun W hW=>⟨rfl,hW⟩);generalize (fun (e:Ending) (w':World)=>e=.returned (.bool true)∧Below w.heap.size w w')=Post at HP ⊢;have HG:=sd hG;have HB:=sd (Below.refl w.heap.size w);clear hG;go_enter Tryd.func6,Tryd.ntmps6
 go_wp2_with fail
 refine (C1.out _).mono ?_;rintro e W1 ⟨v1,v4,rfl,hR,hT,hb⟩;obtain ⟨A1,c1,rfl,hc1,hC1⟩:=Kd.R_reads hR;obtain ⟨A4,c4,rfl,hc4,hC4⟩:=Kd.R_reads hT;replace HB:=sd (HB.out.trans (hb.mono HB.out.size));have P1:=sd hC1;have P2:=sd hc1;have P3:=sd hC4;have P4:=sd hc4;clear hR hT hb hC1 hc1 hC4 hc4;go_wp2_with fail
 refine (C2.out _ _ _ _ _ P1.out P2.out P3.out P4.out (gl_below HG.out HB.out)).mono ?_;rintro e W2 ⟨rfl,hb⟩;replace HB:=sd (HB.out.trans (hb.mono HB.out.size));clear hb P1 P2 P3 P4;go_wp2_with fail
 refine (C3.out _ (gl_below HG.out HB.out)).mono ?_;rintro e W3 ⟨v1,v4,rfl,hR,hT,hb⟩;obtain ⟨A,c,rfl,hc1,hC1⟩:=Kd.R_reads hR;obtain ⟨A4',c4',rfl,hc4,hC4⟩:=Kd.R_reads hT;replace HB:=sd (HB.out.trans (hb.mono HB.out.size));have P1:=sd hC1;have P2:=sd hc1;have P3:=sd hC4;have P4:=sd hc4;clear hR hT hb hC1 hc1 hC4 hc4;go_upto_region 3 with (fail)
 have hbl:=below_alloc (Below.refl W3.heap.size W3) (.cells #[.string ⟨#[114,101,110,116]⟩,.slice A livesC.length c,.string ⟨#[53,49]⟩,.string ⟨#[112]⟩,.slice A4' livesG.length c4'] 25);have b3:=blk_new W3 (.cells #[.string ⟨#[114,101,110,116]⟩,.slice A livesC.length c,.string ⟨#[53,49]⟩,.string ⟨#[112]⟩,.slice A4' livesG.length c4'] 25);generalize W3.alloc (.cells #[.string ⟨#[114,101,110,116]⟩,.slice A livesC.length c,.string ⟨#[53,49]⟩,.string ⟨#[112]⟩,.slice A4' livesG.length c4'] 25)=W4 at *;obtain ⟨g3,hg3⟩:∃ g,g=W3.heap.size:=⟨_,rfl⟩
 rw [← hg3] at b3 ⊢;have B3:=sd b3;replace P1:=sd (Kd.C_below P1.out hbl);replace P3:=sd (Kd.C_below P3.out hbl);replace HB:=sd (HB.out.trans (hbl.mono HB.out.size));clear hbl b3 hg3;go_wp2_with fail
 refine (C4.out _ (gl_below HG.out HB.out)).mono ?_;rintro e W5 ⟨v1,v4,rfl,hR,hT,hb⟩;obtain ⟨B_,d_,rfl⟩:=Kd.R_slice hR;obtain ⟨B4_,d4_,rfl⟩:=Kd.R_slice hT;replace B3:=sd (blk_below B3.out hb);replace P1:=sd (Kd.C_below P1.out hb);replace P3:=sd (Kd.C_below P3.out hb);replace HB:=sd (HB.out.trans (hb.mono HB.out.size));clear hR hT hb;go_upto_region 5 with (fail)
 obtain ⟨W6,hW6⟩:∃ W,W=W5.alloc (.cells #[.string ⟨#[]⟩,.slice B_ 0 d_,.string ⟨#[]⟩,.string ⟨#[]⟩,.slice B4_ 0 d4_] 25):=⟨_,rfl⟩
 have hb1:Below W5.heap.size W5 W6:=by rw [hW6];exact below_alloc (Below.refl _ _) _
 have e1:W6.heap.size=W5.heap.size+1:=by rw [hW6];simp
 rw [← hW6];have hb2:=below_alloc (Below.refl W6.heap.size W6) (.cells #[.int .i64 9,.int .i64 (-120),.string ⟨#[]⟩,.string ⟨#[116,104,101,32,114,101,110,116]⟩] 29);have b9:=blk_new W6 (.cells #[.int .i64 9,.int .i64 (-120),.string ⟨#[]⟩,.string ⟨#[116,104,101,32,114,101,110,116]⟩] 29);rw [e1] at b9;have hbx:=hb1.trans (hb2.mono hb1.size);generalize W6.alloc (.cells #[.int .i64 9,.int .i64 (-120),.string ⟨#[]⟩,.string ⟨#[116,104,101,32,114,101,110,116]⟩] 29)=W7 at *;obtain ⟨g9,hg9⟩:∃ g,g=W5.heap.size+1:=⟨_,rfl⟩
 rw [show (⟨W5.heap.size+1,0,none⟩:Addr)=⟨g9,0,none⟩ by rw [hg9]];rw [← hg9] at b9;have B9:=sd b9;replace B3:=sd (blk_below B3.out hbx);replace P1:=sd (Kd.C_below P1.out hbx);replace P3:=sd (Kd.C_below P3.out hbx);replace HB:=sd (HB.out.trans (hbx.mono HB.out.size));clear hW6 hb1 e1 hb2 b9 hbx hg9;have hbx:=below_drew1 (Below.refl W7.heap.size W7);replace B3:=sd (blk_below B3.out hbx);replace B9:=sd (blk_below B9.out hbx);replace HB:=sd (HB.out.trans (hbx.mono HB.out.size));replace P1:=sd (Kd.C_below P1.out hbx);replace P3:=sd (Kd.C_below P3.out hbx);clear hbx;obtain ⟨k0,k1,k2,k3,k4,_⟩:=bk5 B3;obtain ⟨m0,m1,m2,m3,_⟩:=bk4 B9;refine start_ (n:=41) (S:=fun w'=>w'.cell? ⟨g3,0,none⟩=some (.string ⟨#[114,101,110,116]⟩)∧w'.cell? ⟨g3,1,none⟩=some (.slice A livesC.length c)∧w'.cell? ⟨g3,2,none⟩=some (.string ⟨#[53,49]⟩)∧w'.cell? ⟨g3,3,none⟩=some (.string ⟨#[112]⟩)∧w'.cell? ⟨g3,4,none⟩=some (.slice A4' livesG.length c4')∧w'.cell? ⟨g9,0,none⟩=some (.int .i64 9)∧w'.cell? ⟨g9,1,none⟩=some (.int .i64 (-120))∧w'.cell? ⟨g9,2,none⟩=some (.string ⟨#[]⟩)∧w'.cell? ⟨g9,3,none⟩=some (.string ⟨#[116,104,101,32,114,101,110,116]⟩)) (ds:=[]) #[false,false,false,false,false,false,false,false,false,false,false,false,false,false,false,false,false,false,false,false,false,false,false,false,false,false,false,false,false,false,false,false,false,false,false,false,false,false,false,false,false] (by kernel_rfl) rfl rfl ⟨k0,k1,k2,k3,k4,m0,m1,m2,m3⟩ (fun hHeld=>?_);clear k0 k1 k2 k3 k4 m0 m1 m2 m3;generalize W7.drew=W8 at *;refine pB 0 26 ?_;refine pure_ (i:=1) (N:=some 27) (v:=.bool true) (a':=?_) #[true,true,false,false,false,false,false,false,false,false,false,false,false,false,false,false,false,false,false,false,false,false,false,false,false,false,false,false,false,false,false,false,false,false,false,false,false,false,false,false,false] rfl rfl (by kernel_rfl) (fun _ _ _ h=>h) (.inl ⟨by rfl,by intro w';go_simp;exact livesX_L⟩) ?_ ?_;rotate_left
 ·simp only [Act.put,List.setIfInBounds_toArray,List.set_cons_zero,List.set_cons_succ,i64_w,i32_w]
  rfl
 refine pB 2 28 ?_;refine pB 3 29 ?_;refine pB 4 30 ?_;refine pB 5 31 ?_;refine pB 6 32 ?_;refine tB 7 33 hHeld ?_;refine one_ (i:=8) (N:=some 34) #[true,true,true,true,true,true,true,true,true,false,false,false,false,false,false,false,false,false,false,false,false,false,false,false,false,false,false,false,false,false,false,false,false,false,false,false,false,false,false,false,false] rfl rfl (by kernel_rfl) (by decide) (fun K hK=>?_);refine goes_ Tryd.func10 (by kernel_rfl) rfl #[] (by rfl) rfl rfl zq28 ?_;refine (C1.out _).mono ?_;rintro e W9 ⟨v1,v4,rfl,hR,hT,hb⟩;obtain ⟨F1,Fc1,rfl,hc1,hC1⟩:=Kd.R_reads hR;obtain ⟨F4,Fc4,rfl,hc4,hC4⟩:=Kd.R_reads hT;have Q1:=sd hC1;have Q2:=sd hc1;have Q3:=sd hC4;have Q4:=sd hc4;clear hR hT hC1 hc1 hC4 hc4;refine ⟨_,rfl,?_⟩;replace B3:=sd (blk_below B3.out hb);replace B9:=sd (blk_below B9.out hb);replace HB:=sd (HB.out.trans (hb.mono HB.out.size));replace P1:=sd (Kd.C_below P1.out hb);replace P3:=sd (Kd.C_below P3.out hb);clear hb hHeld;obtain ⟨k0,k1,k2,k3,k4,_⟩:=bk5 B3;obtain ⟨m0,m1,m2,m3,_⟩:=bk4 B9;refine hK.out _ _ ⟨k0,k1,k2,k3,k4,m0,m1,m2,m3⟩ (fun hHeld=>?_);clear hK K k0 k1 k2 k3 k4 m0 m1 m2 m3;refine nA 34 ?_;refine one_ (i:=9) (N:=some 35) #[true,true,true,true,true,true,true,true,true,true,false,false,false,false,false,false,false,false,false,false,false,false,false,false,false,false,false,false,false,false,false,false,false,false,false,false,false,false,false,false,false] rfl rfl (by kernel_rfl) (by decide) (fun K hK=>?_);refine goes_ Tryd.func12 (by kernel_rfl) rfl #[.agg #[.string ⟨#[114,101,110,116]⟩,.slice A livesC.length c,.string ⟨#[53,49]⟩,.string ⟨#[112]⟩,.slice A4' livesG.length c4'],.agg #[.string ⟨#[114,101,110,116]⟩,.slice F1 livesC.length Fc1,.string ⟨#[53,49]⟩,.string ⟨#[112]⟩,.slice F4 livesG.length Fc4]] (by rfl) rfl rfl zq28 ?_;refine (C5.out _ _ _ _ _ _ _ _ _ P1.out P2.out P3.out P4.out Q1.out Q2.out Q3.out Q4.out).mono ?_;rintro e W10 ⟨rfl,hb⟩;refine ⟨_,rfl,?_⟩;replace B3:=sd (blk_below B3.out hb);replace B9:=sd (blk_below B9.out hb);replace HB:=sd (HB.out.trans (hb.mono HB.out.size));clear hb hHeld;obtain ⟨k0,k1,k2,k3,k4,_⟩:=bk5 B3;obtain ⟨m0,m1,m2,m3,_⟩:=bk4 B9;refine hK.out _ _ ⟨k0,k1,k2,k3,k4,m0,m1,m2,m3⟩ (fun hHeld=>?_);clear hK K k0 k1 k2 k3 k4 m0 m1 m2 m3;refine nA 35 ?_;clear P1 P2 P3 P4 Q1 Q2 Q3 Q4;refine pB 10 36 ?_;refine pB 11 37 ?_;refine pB 12 38 ?_;refine pB 13 39 ?_;refine pB 14 40 ?_;refine pB 15 41 ?_;refine pB 16 42 ?_;refine pB 17 43 ?_;refine pB 18 44 ?_;refine pB 19 45 ?_;refine pB 20 46 ?_;refine pB 21 47 ?_;refine pB 22 48 ?_;refine pB 23 49 ?_;refine pB 24 50 ?_;refine pB 25 51 ?_;refine pB 26 52 ?_;refine pB 27 53 ?_;refine tB 29 55 hHeld ?_;refine one_ (i:=28) (N:=some 54) #[true,true,true,true,true,true,true,true,true,true,true,true,true,true,true,true,true,true,true,true,true,true,true,true,true,true,true,true,true,true,false,false,false,false,false,false,false,false,false,false,false] rfl rfl (by kernel_rfl) (by decide) (fun K hK=>?_);refine goes_ Tryd.func10 (by kernel_rfl) rfl #[] (by rfl) rfl rfl zq28 ?_;refine (C1.out _).mono ?_;rintro e W11 ⟨v1,v4,rfl,hR,hT,hb⟩;obtain ⟨F1,Fc1,rfl,hc1,hC1⟩:=Kd.R_reads hR;obtain ⟨F4,Fc4,rfl,hc4,hC4⟩:=Kd.R_reads hT;have P1:=sd hC1;have P2:=sd hc1;have P3:=sd hC4;have P4:=sd hc4;clear hR hT hC1 hc1 hC4 hc4;refine ⟨_,rfl,?_⟩;replace B3:=sd (blk_below B3.out hb);replace B9:=sd (blk_below B9.out hb);replace HB:=sd (HB.out.trans (hb.mono HB.out.size));clear hb hHeld;obtain ⟨k0,k1,k2,k3,k4,_⟩:=bk5 B3;obtain ⟨m0,m1,m2,m3,_⟩:=bk4 B9;refine hK.out _ _ ⟨k0,k1,k2,k3,k4,m0,m1,m2,m3⟩ (fun hHeld=>?_);clear hK K k0 k1 k2 k3 k4 m0 m1 m2 m3;refine nA 54 ?_;refine one_ (i:=30) (N:=some 56) #[true,true,true,true,true,true,true,true,true,true,true,true,true,true,true,true,true,true,true,true,true,true,true,true,true,true,true,true,true,true,true,false,false,false,false,false,false,false,false,false,false] rfl rfl (by kernel_rfl) (by decide) (fun K hK=>?_);refine goes_ Tryd.func5 (by kernel_rfl) rfl #[.agg #[.string ⟨#[114,101,110,116]⟩,.slice F1 livesC.length Fc1,.string ⟨#[53,49]⟩,.string ⟨#[112]⟩,.slice F4 livesG.length Fc4],.agg #[.int .i64 9,.int .i64 (-120),.string ⟨#[]⟩,.string ⟨#[116,104,101,32,114,101,110,116]⟩]] (by rfl) rfl rfl zq28 ?_;refine (C6.out _ _ _ _ _ P1.out P2.out P3.out P4.out (gl_below HG.out HB.out)).mono ?_;rintro e W12 ⟨rfl,hb⟩;refine ⟨_,rfl,?_⟩;replace B3:=sd (blk_below B3.out hb);replace B9:=sd (blk_below B9.out hb);replace HB:=sd (HB.out.trans (hb.mono HB.out.size));clear hb hHeld;obtain ⟨k0,k1,k2,k3,k4,_⟩:=bk5 B3;obtain ⟨m0,m1,m2,m3,_⟩:=bk4 B9;refine hK.out _ _ ⟨k0,k1,k2,k3,k4,m0,m1,m2,m3⟩ (fun hHeld=>?_);clear hK K k0 k1 k2 k3 k4 m0 m1 m2 m3;refine nA 56 ?_;clear P1 P2 P3 P4;refine pB 31 57 ?_;refine pB 32 58 ?_;refine pB 33 59 ?_;refine tB 36 62 hHeld ?_;refine one_ (i:=34) (N:=some 60) #[true,true,true,true,true,true,true,true,true,true,true,true,true,true,true,true,true,true,true,true,true,true,true,true,true,true,true,true,true,true,true,true,true,true,true,false,true,false,false,false,false] rfl rfl (by kernel_rfl) (by decide) (fun K hK=>?_);refine goes_ Tryd.func10 (by kernel_rfl) rfl #[] (by rfl) rfl rfl zq28 ?_;refine (C1.out _).mono ?_;rintro e W13 ⟨v1,v4,rfl,hR,hT,hb⟩;obtain ⟨F1,Fc1,rfl,hc1,hC1⟩:=Kd.R_reads hR;obtain ⟨F4,Fc4,rfl,hc4,hC4⟩:=Kd.R_reads hT;have P1:=sd hC1;have P2:=sd hc1;have P3:=sd hC4;have P4:=sd hc4;clear hR hT hC1 hc1 hC4 hc4;refine ⟨_,rfl,?_⟩;replace B3:=sd (blk_below B3.out hb);replace B9:=sd (blk_below B9.out hb);replace HB:=sd (HB.out.trans (hb.mono HB.out.size));clear hb hHeld;obtain ⟨k0,k1,k2,k3,k4,_⟩:=bk5 B3;obtain ⟨m0,m1,m2,m3,_⟩:=bk4 B9;refine hK.out _ _ ⟨k0,k1,k2,k3,k4,m0,m1,m2,m3⟩ (fun hHeld=>?_);clear hK K k0 k1 k2 k3 k4 m0 m1 m2 m3;refine nA 60 ?_;have T2:=sd (two25 W13 livesR P2.out P1.out P4.out P3.out);refine one_ (i:=35) (N:=some 61) #[true,true,true,true,true,true,true,true,true,true,true,true,true,true,true,true,true,true,true,true,true,true,true,true,true,true,true,true,true,true,true,true,true,true,true,true,true,false,false,false,false] rfl rfl (by kernel_rfl) (by decide) (fun K hK=>?_);refine value_ (v:=.slice (some ⟨W13.heap.size,0,none⟩) 2 2) (w1:=W13.alloc (.cells #[.string ⟨#[]⟩,.slice none 0 0,.string ⟨#[]⟩,.string ⟨#[]⟩,.slice none 0 0,.string ⟨#[114,101,110,116]⟩,.slice F1 livesC.length Fc1,.string ⟨#[53,49]⟩,.string ⟨#[112]⟩,.slice F4 livesG.length Fc4] 25)) (by rfl) rfl (by go_simp) ?_;have hb:=below_alloc (Below.refl W13.heap.size W13) (.cells #[.string ⟨#[]⟩,.slice none 0 0,.string ⟨#[]⟩,.string ⟨#[]⟩,.slice none 0 0,.string ⟨#[114,101,110,116]⟩,.slice F1 livesC.length Fc1,.string ⟨#[53,49]⟩,.string ⟨#[112]⟩,.slice F4 livesG.length Fc4] 25);replace B3:=sd (blk_below B3.out hb);replace B9:=sd (blk_below B9.out hb);replace HB:=sd (HB.out.trans (hb.mono HB.out.size));clear hb hHeld P1 P2 P3 P4;obtain ⟨k0,k1,k2,k3,k4,_⟩:=bk5 B3;obtain ⟨m0,m1,m2,m3,_⟩:=bk4 B9;refine hK.out _ _ ⟨k0,k1,k2,k3,k4,m0,m1,m2,m3⟩ (fun hHeld=>?_);clear hK K k0 k1 k2 k3 k4 m0 m1 m2 m3;refine nA 61 ?_;refine one_ (i:=37) (N:=some 63) #[true,true,true,true,true,true,true,true,true,true,true,true,true,true,true,true,true,true,true,true,true,true,true,true,true,true,true,true,true,true,true,true,true,true,true,true,true,true,false,false,false] rfl rfl (by kernel_rfl) (by decide) (fun K hK=>?_);refine goes_ Tryd.func13 (by kernel_rfl) rfl #[.slice (some ⟨W13.heap.size,0,none⟩) 2 2,.agg #[.int .i64 9,.int .i64 (-120),.string ⟨#[]⟩,.string ⟨#[116,104,101,32,114,101,110,116]⟩]] (by rfl) rfl rfl zq28 ?_;refine (C7.out _ _ T2.out (gl_below HG.out HB.out)).mono ?_;rintro e W14 ⟨rfl,hb⟩;refine ⟨_,rfl,?_⟩;replace B3:=sd (blk_below B3.out hb);replace B9:=sd (blk_below B9.out hb);replace HB:=sd (HB.out.trans (hb.mono HB.out.size));clear hb hHeld;obtain ⟨k0,k1,k2,k3,k4,_⟩:=bk5 B3;obtain ⟨m0,m1,m2,m3,_⟩:=bk4 B9;refine hK.out _ _ ⟨k0,k1,k2,k3,k4,m0,m1,m2,m3⟩ (fun hHeld=>?_);clear hK K k0 k1 k2 k3 k4 m0 m1 m2 m3;refine nA 63 ?_;refine pB 38 64 ?_;refine pB 39 65 ?_;refine pB 40 0 ?_;refine done_ (by kernel_rfl) ?_;go_wp2_with fail
 exact HP.out _ HB.out
end A

end Go.Proofs.YtlblkojjpagbkaaDoor