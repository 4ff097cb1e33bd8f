-- By pack.py, a program of this session's.
import Derived.Test.YtmlcdpfcafmmcaaDoorX16
import Derived.Test.YtmlcdpfcafmmcaaDoorX17
set_option linter.unusedVariables false
set_option linter.unusedSimpArgs false
namespace Go.Proofs.YtmlcdpfcafmmcaaDoor.A
open Go.RowKit B WW WL WM
attribute [local go_sem] max2_int min2_int max_two min_two max_three min_three max_four min_four
set_option maxHeartbeats 8000000
set_option maxRecDepth 100000
theorem stmt_parser_line.calls (k bd g:Nat) (AC:Option Addr) (cc:Nat) (curs:List S77) (p:PSt) (v:Value) (AW:Option Addr) (cw:Nat) (ws:List S93) (p':PSt) (x:Int) (w:World)
  (hp:PB w bd g (.slice AC curs.length cc) p v) (hbd:bd≤w.heap.size) (hc:Kd.C k77 w AC curs.length curs) (hcn:∀ ad,AC=some ad→0 < curs.length→ad.block < bd) (hcc:curs.length≤cc) (hw:WdC w g AW cw ws) (h:stmt_parser_line.f k curs p ws=some (p',x)) (hG:Gl w) (hgw:g < w.heap.size) :
  Calls Tryd.prog 46 #[.pointer (some ⟨g,0,none⟩),.slice AW ws.length cw] w fun e w'=>e=.returned (.int .i64 x)∧(∃ v',PB w' bd g (.slice AC curs.length cc) p' v')∧FB bd g v w w':=by
 by_cases h0:p.part=0
 ·exact line_0 k bd g AC cc curs p v AW cw ws p' x w hp hbd hc hcn hcc hw h hG h0 hgw
 by_cases h1:p.part=1
 ·exact line_1 k bd g AC cc curs p v AW cw ws p' x w hp hbd hc hcn hcc hw h hG h1 hgw
 by_cases h2:p.part=2
 ·exact line_2 k bd g AC cc curs p v AW cw ws p' x w hp hbd hc hcn hcc hw h hG h2 hgw
 exact line_x k bd g AC cc curs p v AW cw ws p' x w hp hbd hc hcn hcc hw h hG h0 h1 h2
theorem stmt_Parse.calls (k:Nat) (a0:ByteArray) (A1:Option Addr) (c1:Nat) (l1:List S77) (r1 r2:ByteArray) (r3 r4 r5:Int) (r6:List S44) (r7 r8:Int) (w:World) (hr1:Kd.C k77 w A1 l1.length l1) (hc1:l1.length≤c1) (h:stmt_Parse.f k a0 l1=some (r1,r2,r3,r4,r5,r6,r7,r8)) (hG:Gl w) :
  Calls Tryd.prog 18 #[.string a0,.slice A1 l1.length c1] w fun e w'=>∃ v5_:Value,e=.returned (.tuple #[.agg #[.string r1,.string r2,.int .i64 r3,.int .i64 r4,.int .i64 r5,v5_],.int .i64 r7,.int .i64 r8])∧Kd.R k44 44 w' w.heap.size (fun _=>True) v5_ r6∧Below w.heap.size w w':=by
 have HG:=sd hG;have HC:=sd hr1;have HCC:=sd hc1;have HCN:=sd (show ∀ ad,A1=some ad→0 < l1.length→ad.block < w.heap.size from fun ad e hn=>Kd.C_lt (by rw [← e];exact hr1) hn (by decide));have HB:=sd (Below.refl w.heap.size w);clear hG hr1 hc1;have HQ:=sd (show ∀ (v5:Value) (W:World),Kd.R k44 44 W w.heap.size (fun _=>True) v5 r6→Below w.heap.size w W→(fun (e:Ending) (w':World)=>∃ v5_:Value,e=.returned (.tuple #[.agg #[.string r1,.string r2,.int .i64 r3,.int .i64 r4,.int .i64 r5,v5_],.int .i64 r7,.int .i64 r8])∧Kd.R k44 44 w' w.heap.size (fun _=>True) v5_ r6∧Below w.heap.size w w') (.returned (.tuple #[.agg #[.string r1,.string r2,.int .i64 r3,.int .i64 r4,.int .i64 r5,v5],.int .i64 r7,.int .i64 r8])) W from fun v5 W h1 h2=>⟨v5,rfl,h1,h2⟩);generalize (fun (e:Ending) (w':World)=>∃ v5_:Value,e=.returned (.tuple #[.agg #[.string r1,.string r2,.int .i64 r3,.int .i64 r4,.int .i64 r5,v5_],.int .i64 r7,.int .i64 r8])∧Kd.R k44 44 w' w.heap.size (fun _=>True) v5_ r6∧Below w.heap.size w w')=Post at HQ ⊢;unfold stmt_Parse.f at h;obtain ⟨t,ht,h⟩:=Option.bind_eq_some_iff.mp h;have R_:=sd ht;clear ht;go_enter Tryd.func18,Tryd.ntmps18
 go_wp2_with (first | ((with_reducible refine gate_dst (N:=4) rfl ?_);refine bxA 4 #[.string (⟨#[]⟩:ByteArray),.string (⟨#[]⟩:ByteArray),.int .i64 0,.int .i64 0,.int .i64 0,.slice none 0 0] 24 ?_;intro g4 hg w2 hbox hb;have BK4:=sd hbox;have GE4:=gem hg HB;replace HB:=hbm HB hb;clear hb hbox hg))
 refine (money_Right.calls k A1 c1 l1 t _ (Kd.C_below HC.out HB.out) HCC.out R_.out).mono ?_;rintro e w3 ⟨rfl,hb⟩;replace BK4:=bkm BK4 hb;replace HB:=hbm HB hb;clear hb R_;have z_:=bk6 BK4;obtain ⟨z0,z1,z2,z3,z4,z5,y0,y1,y2,y3,y4,y5⟩:=z_
 cases t
 ·rw [if_neg (by decide)] at h;obtain ⟨rfl,rfl,rfl,rfl,rfl,rfl,rfl,rfl⟩:=h;go_wp2_with fail
  exact noret Post _ _ w g4 0 2 rfl rfl rfl BK4.out HB.out GE4.out (fun W' hW'=>HQ.out (.slice none 0 0) W' (Kd.R_nil _ _ _ _ _) hW')
 rw [if_pos rfl] at h;obtain ⟨l,hl,h⟩:=Option.bind_eq_some_iff.mp h;split at h
 case isFalse=>cases h
 rename_i hll
 have L_:=sd hl;have H:=sd h;clear h hl z0 z1 z2 z3 z4 z5 y0 y1 y2 y3 y4 y5;go_wp2_with (first | ((with_reducible refine gate_dst (N:=21) rfl ?_);refine bxA 21 #[.slice A1 l1.length c1,.int .i64 0,.int .i64 0,.string (⟨#[]⟩:ByteArray),.string (⟨#[]⟩:ByteArray),.int .i64 0,.int .i64 0,.int .i64 0,.slice none 0 0] 63 ?_;intro g hg w4 hbox hb;have BKg:=sd hbox;have GEg:=gem hg HB;replace BK4:=bkm BK4 hb;replace HB:=hbm HB hb;clear hb hbox hg))
 have HP:=sd (PB.mk (p:=pst0) (C:=.slice A1 l1.length c1) (v:=.slice none 0 0) (bd:=w.heap.size) BKg.out (Kd.R_nil _ _ _ _ _) GEg.out);clear BKg;refine (stmt_divide.calls k a0 l _ L_.out).mono ?_;rintro e w5 ⟨v8,rfl,hr,hb⟩;obtain ⟨AL,cl,rfl⟩:=Kd.R_slice hr;have HR:=sd hr;replace HP:=sd (HP.out.below hb);replace BK4:=bkm BK4 hb;replace HB:=hbm HB hb;clear hb hr L_;generalize w4.heap.size=b0 at HR;go_wp2_with fail
 go_loopg [26] k (fun kq v26 wr=>∃ (i:Nat) (p:PSt) (v:Value),v26=.int .i64 (i:Int)∧i≤l.length∧Aside0 (stmt_Parse.l0 kq l1 p l i=some (r1,r2,r3,r4,r5,r6,r7,r8))∧Aside0 (PB wr w.heap.size g (.slice A1 l1.length c1) p v)∧Aside0 (wr.heap[g4]?=some (.cells #[.string (⟨#[]⟩:ByteArray),.string (⟨#[]⟩:ByteArray),.int .i64 0,.int .i64 0,.int .i64 0,.slice none 0 0] 24 (0,0)))∧Aside0 (Kd.R Kd.string 9 wr b0 (fun _=>True) (.slice AL l.length cl) l)∧Aside0 (Below w.heap.size w wr))
 case atStart=>exact ⟨0,pst0,_,rfl,Nat.zero_le _,H,HP,BK4,HR,HB⟩
 case round =>
  clear H HP BK4 HR HB;obtain ⟨i,p,v,rfl,hi,HA,HP,BK4,HR,HB⟩:=hrel;rename World=>wr
  cases gk with
  | zero=>exact absurd HA.out (by rw [stmt_Parse.l0];intro h;cases h)
  | succ kk =>
   have h:=HA.out;clear HA;by_cases hlt:i < l.length
   ·rw [stmt_Parse.l0,if_pos hlt] at h;obtain ⟨c,hc,h⟩:=Option.bind_eq_some_iff.mp h;obtain ⟨ws,at_,ce⟩:=c;have C_:=sd (fun W=>words_Cut.calls kk _ ws at_ ce W hc);have H:=sd h;clear h hc;obtain ⟨_,_,hCL⟩:=Kd.R_reads' HR.out;obtain ⟨al,e0,x0⟩:=Kd.at_string hCL (i:Int) (by omega) (by omega)
    cases e0
    simp only [Int.toNat_natCast] at x0 C_
    clear hCL;have i1:((0:Int)≤(i:Int))=True:=eq_true (by omega);have i2:((i:Int) < (l.length:Int))=True:=eq_true (by omega);generalize hs_:rdOf ByteArray.empty l (i:Int)=s at *;clear hs_;go_wp2_with fail
    refine (C_.out _).mono ?_;rintro e w6 ⟨v11,rfl,hrW,hb⟩;have hEW:=Kd.R_ne hrW (HP.out.below hb).blk (by decide);obtain ⟨AW,cw,rfl,hcw,hCW⟩:=Kd.R_reads hrW;have HW:=sd (WdC.mk (g:=g) hCW hcw (fun ad e _ e1=>hEW (by rw [e];exact congrArg some e1.symm)));clear hrW hEW hcw hCW C_ x0;replace HP:=sd (HP.out.below hb);replace BK4:=bkm BK4 hb;replace HR:=sd (Kd.R_below HR.out hb);replace HB:=hbm HB hb;clear hb;have h:=H.out;clear H;replace h:=Option.bind_eq_some_iff.mp h;obtain ⟨r,hr,h⟩:=h;obtain ⟨p',x⟩:=r;unfold stmt_Parse.step at hr;dsimp only at hr
    obtain ⟨z0,z1,z2,z3,z4,z5,y0,y1,y2,y3,y4,y5⟩:=bk6 BK4;by_cases c3:ce=0
    ·rw [if_pos c3] at hr;subst c3;by_cases c4:0 < ws.length
     ·rw [if_pos c4] at hr;have c4b:((0:Int) < (ws.length:Int))=True:=eq_true (by omega);have N_:=sd (fun W hp hb hc hw hG hgw=>stmt_parser_line.calls kk w.heap.size g A1 c1 l1 p v AW cw ws p' x W hp hb hc HCN.out HCC.out hw hr hG hgw);have H:=sd h;clear h hr;go_wp2_with fail
      refine (N_.out _ HP.out (below_size HB.out) (Kd.C_below HC.out HB.out) HW.out (gl_below HG.out HB.out) (lt_of_cell (blk_cell HP.out.blk 1))).mono ?_;rintro e w7 ⟨rfl,⟨v',hp'⟩,fb⟩;have BK4':=sd (fb.blk HP.out BK4.out (by decide) (by decide));have HR':=sd (fb.row HP.out HR.out (by decide));have HP':=sd hp';have HB':=sd (HB.out.trans fb.b);clear BK4 HR HP HB HW N_ hp' fb z0 z1 z2 z3 z4 z5 y0 y1 y2 y3 y4 y5;have BK4:=BK4';have h:=H.out;clear H BK4';obtain ⟨z0,z1,z2,z3,z4,z5,y0,y1,y2,y3,y4,y5⟩:=bk6 BK4;by_cases c5:x=0
      ·rw [if_pos c5] at h;subst c5;have H:=sd h;clear h;go_wp2_with fail
       go_roundg kk
       case measure=>omega
       case rel=>exact ⟨i+1,p',v',by go_num,hlt,H,HP',BK4,HR',HB'⟩
      rw [if_neg c5] at h;obtain ⟨rfl,rfl,rfl,rfl,rfl,rfl,rfl,rfl⟩:=h;obtain ⟨c5b0,c5b1⟩:=neI c5;clear c5;go_wp2_with fail
      exact noret Post _ _ w g4 (i:Int) _ rfl rfl rfl BK4.out HB'.out GE4.out (fun W' hW'=>HQ.out (.slice none 0 0) W' (Kd.R_nil _ _ _ _ _) hW')
     rw [if_neg c4] at hr;obtain ⟨rfl,rfl⟩:=Prod.mk.inj (Option.some.inj hr);rw [if_pos rfl] at h;have c4b:((0:Int) < (ws.length:Int))=False:=eq_false (by omega);have H:=sd h;clear h hr;go_wp2_with fail
     go_roundg kk
     case measure=>omega
     case rel=>exact ⟨i+1,p,v,by go_num,hlt,H,HP,BK4,HR,HB⟩
    rw [if_neg c3] at hr;obtain ⟨rfl,rfl⟩:=Prod.mk.inj (Option.some.inj hr);rw [if_neg c3] at h;obtain ⟨rfl,rfl,rfl,rfl,rfl,rfl,rfl,rfl⟩:=h;obtain ⟨c3b0,c3b1⟩:=neI c3;clear c3 hr;go_wp2_with fail
    exact noret Post _ _ w g4 (i:Int) _ rfl rfl rfl BK4.out HB.out GE4.out (fun W' hW'=>HQ.out (.slice none 0 0) W' (Kd.R_nil _ _ _ _ _) hW')
   obtain rfl:i=l.length:=by omega
   rw [stmt_Parse.l0,if_neg hlt] at h;have i2:((l.length:Int) < (l.length:Int))=False:=eq_false (by omega);obtain ⟨z0,z1,z2,z3,z4,z5,y0,y1,y2,y3,y4,y5⟩:=bk6 BK4;have k_:=HP.out.facts;obtain ⟨k0,k1,k2,k3,k4,k5,k6,k7,k8,f1,f2,f3,f4,f5,f6,f7,f8⟩:=k_;by_cases c3:p.part=3
   ·rw [if_pos c3] at h;replace h:=Option.bind_eq_some_iff.mp h;obtain ⟨x,hx,h⟩:=h;rw [c3] at k2;obtain ⟨va,vc,rfl⟩:=Kd.R_slice HP.out.row;obtain ⟨_,hvc,hCV⟩:=Kd.R_reads' HP.out.row;have N_:=sd (fun W hC hG=>stmt_Check.calls kk p.acc p.cur p.no p.op p.cl va vc p.ls x W hC hvc hx hG);clear hx;go_wp2_with fail
    refine (N_.out _ hCV (gl_below HG.out HB.out)).mono ?_;rintro e w8 ⟨rfl,hb⟩;clear k0 k1 k2 k3 k4 k5 k6 k7 k8 f1 f2 f3 f4 f5 f6 f7 f8 z0 z1 z2 z3 z4 z5 y0 y1 y2 y3 y4 y5 N_ hCV;replace HP:=sd (HP.out.below hb);replace BK4:=bkm BK4 hb;replace HB:=hbm HB hb;clear hb HR;obtain ⟨z0,z1,z2,z3,z4,z5,y0,y1,y2,y3,y4,y5⟩:=bk6 BK4;have k_:=HP.out.facts;obtain ⟨k0,k1,k2,k3,k4,k5,k6,k7,k8,f1,f2,f3,f4,f5,f6,f7,f8⟩:=k_;by_cases c5:x=0
    ·rw [if_pos c5] at h;subst c5;obtain ⟨rfl,rfl,rfl,rfl,rfl,rfl,rfl,rfl⟩:=h;go_wp2_with fail
     exact yesret Post _ _ w g4 p _ rfl rfl rfl BK4.out HB.out GE4.out HP.out.row (fun W' h1 h2=>HQ.out _ W' h1 h2)
    rw [if_neg c5] at h;obtain ⟨rfl,rfl,rfl,rfl,rfl,rfl,rfl,rfl⟩:=h;obtain ⟨c5b0,c5b1⟩:=neI c5;clear c5;go_wp2_with fail
    exact noret Post _ _ w g4 (l.length:Int) _ rfl rfl rfl BK4.out HB.out GE4.out (fun W' hW'=>HQ.out (.slice none 0 0) W' (Kd.R_nil _ _ _ _ _) hW')
   rw [if_neg c3] at h;obtain ⟨rfl,rfl,rfl,rfl,rfl,rfl,rfl,rfl⟩:=h;have c3b:(p.part == 3)=false:=beq_eq_false_iff_ne.mpr c3;clear c3;go_wp2_with fail
   exact noret Post _ _ w g4 (l.length:Int) _ rfl rfl rfl BK4.out HB.out GE4.out (fun W' hW'=>HQ.out (.slice none 0 0) W' (Kd.R_nil _ _ _ _ _) hW')
theorem lw47_lives.calls (r:Bool) (w:World) (h:lw47_lives.f=some r) (hG:Gl w) :
  Calls Tryd.prog 11 #[] w fun e w'=>e=.returned (.bool r)∧Below w.heap.size w w':=by
 obtain rfl:=Option.some.inj h
 exact lives_walk w hG ⟨fun W=>lw47_table.calls livesT W rfl⟩
  ⟨fun W A c A1 c1 hC hl hT ht hG=>stmt_Text.calls 400 ⟨#[49,48]⟩ ⟨#[69,85,82]⟩ 7 100 (-50) A c livesS A1 c1 livesT livesX 0 W hC hl hT ht (by kernel_rfl) hG⟩
  ⟨fun W A1 c1 hT ht hG=>stmt_Parse.calls 400 livesX A1 c1 livesT ⟨#[49,48]⟩ ⟨#[69,85,82]⟩ 7 100 (-50) livesS 0 0 W hT ht (by kernel_rfl) hG⟩
  ⟨fun W A1 c1 hT ht hG=>stmt_Parse.calls 400 ⟨#[115,116,97,116,101,109,101,110,116,32,49,48,32,69,85,82,32,55,10,10,111,112,101,110,32,49,10]⟩ A1 c1 livesT ⟨#[]⟩ ⟨#[]⟩ 0 0 0 [] 2 5 W hT ht (by kernel_rfl) hG⟩
  ⟨fun W A1 c1 hT ht hG=>stmt_Parse.calls 400 ⟨#[115,116,97,116,101,109,101,110,116,32,49,48,32,69,85,82,32,55,32,35,32,120,10,111,112,101,110,32,49,46,48,48]⟩ A1 c1 livesT ⟨#[]⟩ ⟨#[]⟩ 0 0 0 [] 2 6 W hT ht (by kernel_rfl) hG⟩
  ⟨fun W A c A' c' hC hl hC' hl'=>rf47_Same.calls 400 ⟨#[49,48]⟩ ⟨#[69,85,82]⟩ 7 100 (-50) A c livesS ⟨#[49,48]⟩ ⟨#[69,85,82]⟩ 7 100 (-50) A' c' livesS true W hC hl hC' hl' (by kernel_rfl)⟩
  ⟨fun W A c hC hl hG=>stmt_Check.calls 400 ⟨#[49,48]⟩ ⟨#[69,85,82]⟩ 7 100 (-50) A c livesS 0 W hC hl (by kernel_rfl) hG⟩
  ⟨fun W A c hC hl hG=>stmt_Follows.calls 400 ⟨#[49,48]⟩ ⟨#[69,85,82]⟩ 7 100 (-50) A c livesS ⟨#[49,48]⟩ ⟨#[69,85,82]⟩ 8 (-50) (-50) none 0 [] true W hC hl (n44 W) (Nat.zero_le _) (by kernel_rfl) hG⟩
  ⟨fun W A c hC hl hG=>stmt_Follows.calls 400 ⟨#[49,48]⟩ ⟨#[69,85,82]⟩ 8 (-50) (-50) none 0 [] ⟨#[49,48]⟩ ⟨#[69,85,82]⟩ 7 100 (-50) A c livesS false W (n44 W) (Nat.zero_le _) hC hl (by kernel_rfl) hG⟩
  ⟨fun W hG=>stmt_Check.calls 400 ⟨#[49,48]⟩ ⟨#[69,85,82]⟩ 8 (-50) 0 none 0 [] 15 W (n44 W) (Nat.zero_le _) (by kernel_rfl) hG⟩
end Go.Proofs.YtmlcdpfcafmmcaaDoor.A
