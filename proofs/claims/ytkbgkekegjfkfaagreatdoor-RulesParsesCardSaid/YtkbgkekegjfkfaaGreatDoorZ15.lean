-- By pack.py, a program of this session's.
import Derived.Test.YtkbgkekegjfkfaaGreatDoorZ5
import Derived.Test.YtkbgkekegjfkfaaGreatDoorZ6
import Derived.Test.YtkbgkekegjfkfaaGreatDoorZ7
import Derived.Test.YtkbgkekegjfkfaaGreatDoorZ8
import Derived.Test.YtkbgkekegjfkfaaGreatDoorZ9
import Derived.Test.YtkbgkekegjfkfaaGreatDoorZ10
set_option linter.unusedVariables false
set_option linter.unusedSimpArgs false
namespace Go.Proofs.YtkbgkekegjfkfaaGreatDoor
namespace A
open Go.RowKit B WW WL WM
attribute [local go_sem] max2_int min2_int max_two min_two max_three min_three max_four min_four
set_option maxHeartbeats 8000000
set_option maxRecDepth 100000
theorem RP.set {w:World} {bd g:Nat} {p:PR} {vC vT vW:Value} (h:RP w bd g p vC vT vW) (j:Nat) (u:Value) (q:PR) (hc:(p.cells vC vT vW).set! j u=q.cells vC vT vW) (h1:q.cs=p.cs) (h2:q.tg=p.tg) (h3:q.ws=p.ws):RP (w.setCell ⟨g,j,none⟩ u) bd g q vC vT vW :=
  ⟨blk_put (cs:=p.cells vC vT vW) h.blk j u hc,by rw [h1];exact Kd.R_set h.rC h.blk n48 j u,by rw [h2];exact Kd.R_set h.rT h.blk n50 j u,by rw [h3];exact Kd.R_set h.rW h.blk n73 j u,h.hbd⟩
theorem FP.set {bd g o:Nat} {vC vT vW:Value} {w w1:World} (h:FP bd g vC vT vW w w1) (hg:bd≤g) (u:Value):FP bd g vC vT vW w (w1.setCell ⟨g,o,none⟩ u) :=
  ⟨below_setN h.b hg u,fun i h1 h2 h3 h4 h5=>(Below.heap_setCell _ _ _ i h2).trans (h.fr i h1 h2 h3 h4 h5)⟩
theorem RP.growC {w w1:World} {bd g:Nat} {p:PR} {vC vT vW v1:Value} {cs':List S48} (h:RP w bd g p vC vT vW) (hR:Kd.R k48 48 w1 bd (fun _=>True) v1 cs') (hg:w.grownBy w1 vC.ownBlock):RP (w1.setCell ⟨g,1,none⟩ v1) bd g { p with cs:=cs' } v1 vT vW:=by
  have hB:=blk_grown h.blk hg (Kd.R_ne h.rC h.blk (by decide));exact ⟨blk_put (cs:=p.cells vC vT vW) hB 1 _ rfl,Kd.R_set hR hB n48 1 _,Kd.R_set (Kd.R_over h.rT h.rC (by decide) hg) hB n50 1 _,Kd.R_set (Kd.R_over h.rW h.rC (by decide) hg) hB n73 1 _,h.hbd⟩
theorem RP.growT {w w1:World} {bd g:Nat} {p:PR} {vC vT vW v1:Value} {tg':List S50} (h:RP w bd g p vC vT vW) (hR:Kd.R k50 50 w1 bd (fun _=>True) v1 tg') (hg:w.grownBy w1 vT.ownBlock):RP (w1.setCell ⟨g,4,none⟩ v1) bd g { p with tg:=tg' } vC v1 vW:=by
  have hB:=blk_grown h.blk hg (Kd.R_ne h.rT h.blk (by decide));exact ⟨blk_put (cs:=p.cells vC vT vW) hB 4 _ rfl,Kd.R_set (Kd.R_over h.rC h.rT (by decide) hg) hB n48 4 _,Kd.R_set hR hB n50 4 _,Kd.R_set (Kd.R_over h.rW h.rT (by decide) hg) hB n73 4 _,h.hbd⟩
theorem RP.elemC {w:World} {bd g gc cap m j:Nat} {p:PR} {vT vW u:Value} {c x':S48} (h:RP w bd g p (.slice (some ⟨gc,0,none⟩) p.cs.length cap) vT vW) (hm:m < p.cs.length) (hc:rd_T48 p.cs (m:Int)=c) (hj:j < 4)
    (hx:([Value.int .i64 c.f0,.int .i64 c.f1,.string c.f2,.int .i64 c.f3]:List Value).take j++[u]++([Value.int .i64 c.f0,.int .i64 c.f1,.string c.f2,.int .i64 c.f3]:List Value).drop (j+1)=[.int .i64 x'.f0,.int .i64 x'.f1,.string x'.f2,.int .i64 x'.f3]) :
    RP (w.setCell ⟨gc,m * 4+j,none⟩ u) bd g { p with cs:=p.cs.set m x' } (.slice (some ⟨gc,0,none⟩) (p.cs.set m x').length cap) vT vW:=by
  have hrC:=h.rC;obtain ⟨cc,hcl,hM,hcc,_⟩:=Kd.R_elem hrC z48 (m:Int) (by omega) (by omega)
  have hce:cc=[Value.int .i64 c.f0,.int .i64 c.f1,.string c.f2,.int .i64 c.f3]:=by
    have:=k48_openM hM;rw [this,← hc];rfl
  obtain ⟨h1,h2⟩:=Kd.R_seg (seg:=[u]) (j:=j) (x':=x') (okp:=fun _=>False) hrC (m:Int) (by omega) (by omega) hcl hcc (by show j+1≤4;omega) (by rw [hce];show k48.M _ _ _ _ (_++_++List.drop (j+1) _);rw [hx];exact k48_mkM _ _ _ _) (fun _ hk=>hk.elim);have e1:w.setCells gc (((m:Int).toNat) * k48.sz+j) [u]=w.setCell ⟨gc,m * 4+j,none⟩ u:=rfl;rw [e1] at h1 h2;have hne:g≠gc:=fun e=>Kd.R_ne hrC h.blk (by decide) (by rw [e];rfl)
  have hl:(p.cs.set m x').length=p.cs.length:=List.length_set;refine ⟨?_,?_,Kd.R_over h.rT hrC (by decide) h2,Kd.R_over h.rW hrC (by decide) h2,h.hbd⟩
  · show _=some (Obj.cells (PR.cells { p with cs:=p.cs.set m x' } (.slice (some ⟨gc,0,none⟩) (p.cs.set m x').length cap) vT vW) 71 (0,0))
    rw [hl];exact blk_far h.blk hne u
  · show Kd.R k48 48 _ bd _ (.slice (some ⟨gc,0,none⟩) (p.cs.set m x').length cap) (p.cs.set m x')
    rw [hl];exact h1
theorem RP.elemT {w:World} {bd g gc cap m j:Nat} {p:PR} {vC vW u:Value} {c x':S50} (h:RP w bd g p vC (.slice (some ⟨gc,0,none⟩) p.tg.length cap) vW) (hm:m < p.tg.length) (hc:rd_T50 p.tg (m:Int)=c) (hj:j < 2)
    (hx:([Value.string c.f0,.string c.f1]:List Value).take j++[u]++([Value.string c.f0,.string c.f1]:List Value).drop (j+1)=[.string x'.f0,.string x'.f1]) :
    RP (w.setCell ⟨gc,m * 2+j,none⟩ u) bd g { p with tg:=p.tg.set m x' } vC (.slice (some ⟨gc,0,none⟩) (p.tg.set m x').length cap) vW:=by
  have hrT:=h.rT;obtain ⟨cc,hcl,hM,hcc,_⟩:=Kd.R_elem hrT z50 (m:Int) (by omega) (by omega)
  have hce:cc=[Value.string c.f0,.string c.f1]:=by
    have:=k50_openM hM;rw [this,← hc];rfl
  obtain ⟨h1,h2⟩:=Kd.R_seg (seg:=[u]) (j:=j) (x':=x') (okp:=fun _=>False) hrT (m:Int) (by omega) (by omega) hcl hcc (by show j+1≤2;omega) (by rw [hce];show k50.M _ _ _ _ (_++_++List.drop (j+1) _);rw [hx];exact k50_mkM _ _ _ _) (fun _ hk=>hk.elim);have e1:w.setCells gc (((m:Int).toNat) * k50.sz+j) [u]=w.setCell ⟨gc,m * 2+j,none⟩ u:=rfl;rw [e1] at h1 h2;have hne:g≠gc:=fun e=>Kd.R_ne hrT h.blk (by decide) (by rw [e];rfl)
  have hl:(p.tg.set m x').length=p.tg.length:=List.length_set;refine ⟨?_,Kd.R_over h.rC hrT (by decide) h2,?_,Kd.R_over h.rW hrT (by decide) h2,h.hbd⟩
  · show _=some (Obj.cells (PR.cells { p with tg:=p.tg.set m x' } vC (.slice (some ⟨gc,0,none⟩) (p.tg.set m x').length cap) vW) 71 (0,0))
    rw [hl];exact blk_far h.blk hne u
  · show Kd.R k50 50 _ bd _ (.slice (some ⟨gc,0,none⟩) (p.tg.set m x').length cap) (p.tg.set m x')
    rw [hl];exact h1
theorem elemC' {w:World} {bd g gc cap m j n:Nat} {p:PR} {cs:List S48} {vT vW u:Value} {c x':S48} (hn:cs.length=n) (h:RP w bd g { p with cs:=cs } (.slice (some ⟨gc,0,none⟩) n cap) vT vW) (hm:m < cs.length) (hc:rd_T48 cs (m:Int)=c) (hj:j < 4)
    (hx:([Value.int .i64 c.f0,.int .i64 c.f1,.string c.f2,.int .i64 c.f3]:List Value).take j++[u]++([Value.int .i64 c.f0,.int .i64 c.f1,.string c.f2,.int .i64 c.f3]:List Value).drop (j+1)=[.int .i64 x'.f0,.int .i64 x'.f1,.string x'.f2,.int .i64 x'.f3]) :
    RP (w.setCell ⟨gc,m * 4+j,none⟩ u) bd g { p with cs:=cs.set m x' } (.slice (some ⟨gc,0,none⟩) n cap) vT vW:=by
  subst hn;have:=RP.elemC (p:={ p with cs:=cs }) h hm hc hj hx;rw [List.length_set] at this;exact this
theorem IsS82.ne_blk {w0 W:World} {g:Nat} {f0:List (S73)} {f1:Int} {f2:Bool} {a:Nat} {cs:Array Value} {t:TypeId} {fr:Nat×Nat} (h:IsS82 w0 W g f0 f1 f2) (hb2:W.heap[a]?=some (.cells cs t fr)) (ht:t≠82):g≠a:=by
 obtain ⟨A0,c0,hb,hg,hr0⟩:=h;rintro rfl;rw [hb] at hb2;injection hb2 with hb2
 injection hb2 with _ ht2
 exact ht ht2.symm
theorem rf48_Reader_must.calls (g:Nat) (s0_0:List (S73)) (s0_1:Int) (s0_2:Bool) (a1:ByteArray) (r1:Int) (r2:Bool) (w0 w:World) (hI:IsS82 w0 w g s0_0 s0_1 s0_2) (hB:Below w0.heap.size w0 w) (h:rf48_Reader_must.f s0_0 s0_1 s0_2 a1=some (r1,r2)) :
  Calls Tryz.prog 85 #[.pointer (some ⟨g,0,none⟩),.string a1] w fun e w'=>e=.returned (.tuple #[])∧IsS82 w0 w' g s0_0 r1 r2∧Below w0.heap.size w0 w'∧KeepBut w w' g none:=by
 have HI0:=sd hI;have HK:=sd (KeepBut.refl w g none);have HL:=sd hB.size;clear hI;have HW0:=sd hB.size;have HB:=sd hB;clear hB;have H:=h;clear h;unfold rf48_Reader_must.f at H;replace H:=bdI H;obtain ⟨⟨t427,t428,t429⟩,A3,H⟩:=H;(try dsimp only at H)
 by_cases c4:t427=true
 ·subst c4;rw [if_pos rfl] at H;simp only [Option.some.injEq,Prod.mk.injEq] at H
  obtain ⟨rfl,rfl⟩:=H;go_enter Tryz.func85,Tryz.ntmps85
  go_wp2_with (first|((with_reducible refine gate_callee (f:=88) rfl ?_);refine gL 6 Tryz.func88 #[.pointer (some ⟨g,0,none⟩),.string a1] ?_;(with_reducible refine (rf48_Reader_is.calls g s0_0 s0_1 s0_2 a1 true t428 t429 w0 _ ?side1 ?side2 A3.out).mono ?_);(case side1=>exact zq31);(case side2=>exact zq32);rintro e w5 ⟨rfl,hi,hb,hk⟩;refine ⟨_,rfl,?_⟩;replace HK:=sd (KeepBut.trans zq33 hk (.inl rfl));replace HB:=sd (hb);replace HI0:=sd (hi);clear hb hk hi))
  first|go_end0|((try simp only [Exit.inBlock,Exit.then]);refine bodyPost_ret (results_none rfl _ _ _) rfl ?_)
  exact ⟨zq4,zq31,zq32,zq33⟩
 replace c4:=Bool.eq_false_iff.mpr c4;subst c4;rw [if_neg Bool.false_ne_true] at H;simp only [Option.some.injEq,Prod.mk.injEq] at H
 obtain ⟨rfl,rfl⟩:=H;go_enter Tryz.func85,Tryz.ntmps85
 go_wp2_with (first|((with_reducible refine gate_callee (f:=88) rfl ?_);refine gL 6 Tryz.func88 #[.pointer (some ⟨g,0,none⟩),.string a1] ?_;(with_reducible refine (rf48_Reader_is.calls g s0_0 s0_1 s0_2 a1 false t428 t429 w0 _ ?side1 ?side2 A3.out).mono ?_);(case side1=>exact zq31);(case side2=>exact zq32);rintro e w6 ⟨rfl,hi,hb,hk⟩;refine ⟨_,rfl,?_⟩;replace HK:=sd (KeepBut.trans zq33 hk (.inl rfl));replace HB:=sd (hb);replace HI0:=sd (hi);clear hb hk hi;obtain ⟨ASz7_0,cSz7_0,HGz7,hgz7,HSz7_0⟩:=HI0.out;have hcz7_0:=cellS82_0 HGz7;have hcz7_1:=cellS82_1 HGz7;have hcz7_2:=cellS82_2 HGz7;have hfz7_1:=blk_frozen HGz7 1;have hfz7_2:=blk_frozen HGz7 2;clear HGz7 hgz7))
 first|go_end0|((try simp only [Exit.inBlock,Exit.then]);refine bodyPost_ret (results_none rfl _ _ _) rfl ?_)
 exact ⟨zq4,zq31,zq32,zq33⟩
theorem rf48_Reader_code.calls (g:Nat) (s0_0:List (S73)) (s0_1:Int) (s0_2:Bool) (r1:ByteArray) (r2:Int) (r3:Bool) (w0 w:World) (hI:IsS82 w0 w g s0_0 s0_1 s0_2) (hB:Below w0.heap.size w0 w) (h:rf48_Reader_code.f s0_0 s0_1 s0_2=some (r1,r2,r3)) :
  Calls Tryz.prog 86 #[.pointer (some ⟨g,0,none⟩)] w fun e w'=>e=.returned (.string r1)∧IsS82 w0 w' g s0_0 r2 r3∧Below w0.heap.size w0 w'∧KeepBut w w' g none:=by
 have HI0:=sd hI;have HK:=sd (KeepBut.refl w g none);have HL:=sd hB.size;clear hI;have HW0:=sd hB.size;have HB:=sd hB;clear hB;have H:=h;clear h;unfold rf48_Reader_code.f at H;replace H:=bdI H;obtain ⟨⟨t434,t435,t436⟩,A2,H⟩:=H;(try dsimp only at H)
 simp only [Option.some.injEq,Prod.mk.injEq] at H
 obtain ⟨rfl,rfl,rfl⟩:=H;go_enter Tryz.func86,Tryz.ntmps86
 go_wp2_with (first|((with_reducible refine gate_callee (f:=127) rfl ?_);refine gL 4 Tryz.func127 #[.pointer (some ⟨g,0,none⟩),.int .i64 1,.int .i64 2] ?_;(with_reducible refine (rf48_Reader_next.calls g s0_0 s0_1 s0_2 1 2 t434 t435 t436 w0 _ ?side1 ?side2 A2.out).mono ?_);(case side1=>exact zq31);(case side2=>exact zq32);rintro e w3 ⟨rfl,hi,hb,hk⟩;refine ⟨_,rfl,?_⟩;replace HK:=sd (KeepBut.trans zq33 hk (.inl rfl));replace HB:=sd (hb);replace HI0:=sd (hi);clear hb hk hi))
 go_ret
 exact ⟨zq4,zq31,zq32,zq33⟩
theorem rf48_Reader_sign.calls (g:Nat) (s0_0:List (S73)) (s0_1:Int) (s0_2:Bool) (a1:ByteArray) (r1:Int) (r2:Bool) (w0 w:World) (hI:IsS82 w0 w g s0_0 s0_1 s0_2) (hB:Below w0.heap.size w0 w) (h:rf48_Reader_sign.f s0_0 s0_1 s0_2 a1=some (r1,r2)) :
  Calls Tryz.prog 89 #[.pointer (some ⟨g,0,none⟩),.string a1] w fun e w'=>e=.returned (.tuple #[])∧IsS82 w0 w' g s0_0 r1 r2∧Below w0.heap.size w0 w'∧KeepBut w w' g none:=by
 have HI0:=sd hI;have HK:=sd (KeepBut.refl w g none);have HL:=sd hB.size;clear hI;have HW0:=sd hB.size;have HB:=sd hB;clear hB;have H:=h;clear h;unfold rf48_Reader_sign.f at H;replace H:=bdI H;obtain ⟨⟨t462,t463,t464⟩,A3,H⟩:=H;(try dsimp only at H)
 replace H:=ifI H;rcases H with ⟨c4,H⟩|⟨c4,H⟩
 ·obtain ⟨c4b0,c4b1⟩:=eqI c4;clear c4;simp only [Option.some.injEq,Prod.mk.injEq] at H
  obtain ⟨rfl,rfl⟩:=H;go_enter Tryz.func89,Tryz.ntmps89
  go_wp2_with (first|((with_reducible refine gate_callee (f:=127) rfl ?_);refine gL 5 Tryz.func127 #[.pointer (some ⟨g,0,none⟩),.int .i64 4,.int .i64 4] ?_;(with_reducible refine (rf48_Reader_next.calls g s0_0 s0_1 s0_2 4 4 t462 t463 t464 w0 _ ?side1 ?side2 A3.out).mono ?_);(case side1=>exact zq31);(case side2=>exact zq32);rintro e w5 ⟨rfl,hi,hb,hk⟩;refine ⟨_,rfl,?_⟩;replace HK:=sd (KeepBut.trans zq33 hk (.inl rfl));replace HB:=sd (hb);replace HI0:=sd (hi);clear hb hk hi))
  first|go_end0|((try simp only [Exit.inBlock,Exit.then]);refine bodyPost_ret (results_none rfl _ _ _) rfl ?_)
  exact ⟨zq4,zq31,zq32,zq33⟩
 obtain ⟨c4b0,c4b1⟩:=neI c4;by_cases c6:t464=true
 ·subst c6;rw [if_pos rfl] at H;simp only [Option.some.injEq,Prod.mk.injEq] at H
  obtain ⟨rfl,rfl⟩:=H;go_enter Tryz.func89,Tryz.ntmps89
  go_wp2_with (first|((with_reducible refine gate_callee (f:=127) rfl ?_);refine gL 5 Tryz.func127 #[.pointer (some ⟨g,0,none⟩),.int .i64 4,.int .i64 4] ?_;(with_reducible refine (rf48_Reader_next.calls g s0_0 s0_1 s0_2 4 4 t462 t463 true w0 _ ?side1 ?side2 A3.out).mono ?_);(case side1=>exact zq31);(case side2=>exact zq32);rintro e w7 ⟨rfl,hi,hb,hk⟩;refine ⟨_,rfl,?_⟩;replace HK:=sd (KeepBut.trans zq33 hk (.inl rfl));replace HB:=sd (hb);replace HI0:=sd (hi);clear hb hk hi;obtain ⟨ASz8_0,cSz8_0,HGz8,hgz8,HSz8_0⟩:=HI0.out;have hcz8_0:=cellS82_0 HGz8;have hcz8_1:=cellS82_1 HGz8;have hcz8_2:=cellS82_2 HGz8;have hfz8_1:=blk_frozen HGz8 1;have hfz8_2:=blk_frozen HGz8 2;clear HGz8 hgz8))
  first|go_end0|((try simp only [Exit.inBlock,Exit.then]);refine bodyPost_ret (results_none rfl _ _ _) rfl ?_)
  exact ⟨zq4,zq31,zq32,zq33⟩
 replace c6:=Bool.eq_false_iff.mpr c6;subst c6;rw [if_neg Bool.false_ne_true] at H;simp only [Option.some.injEq,Prod.mk.injEq] at H
 obtain ⟨rfl,rfl⟩:=H;go_enter Tryz.func89,Tryz.ntmps89
 go_wp2_with (first|((with_reducible refine gate_callee (f:=127) rfl ?_);refine gL 5 Tryz.func127 #[.pointer (some ⟨g,0,none⟩),.int .i64 4,.int .i64 4] ?_;(with_reducible refine (rf48_Reader_next.calls g s0_0 s0_1 s0_2 4 4 t462 t463 false w0 _ ?side1 ?side2 A3.out).mono ?_);(case side1=>exact zq31);(case side2=>exact zq32);rintro e w9 ⟨rfl,hi,hb,hk⟩;refine ⟨_,rfl,?_⟩;replace HK:=sd (KeepBut.trans zq33 hk (.inl rfl));replace HB:=sd (hb);replace HI0:=sd (hi);clear hb hk hi;obtain ⟨ASz10_0,cSz10_0,HGz10,hgz10,HSz10_0⟩:=HI0.out;have hcz10_0:=cellS82_0 HGz10;have hcz10_1:=cellS82_1 HGz10;have hcz10_2:=cellS82_2 HGz10;have hfz10_1:=blk_frozen HGz10 1;have hfz10_2:=blk_frozen HGz10 2;clear HGz10 hgz10))
 first|go_end0|((try simp only [Exit.inBlock,Exit.then]);refine bodyPost_ret (results_none rfl _ _ _) rfl ?_)
 exact ⟨zq4,zq31,zq32,zq33⟩
def rule_tg (L:List S73):Nat→Int→Bool→List S50→Option (List S50×Int×Bool)
 |0,_,_,_=>none
 |k+1,at_,fl,tg=>(rf48_Reader_is.f L at_ fl tagB).bind fun b=>if b.1=true then (rf48_Reader_code.f L b.2.1 b.2.2).bind fun c=>(rf48_Reader_sign.f L c.2.1 c.2.2 eqB).bind fun s=>(rf48_Reader_code.f L s.1 s.2).bind fun d =>
      if tg.length≤1000000 then rule_tg L k d.2.1 d.2.2 (tg++[⟨c.1,d.1⟩]) else none else some (tg,b.2.1,b.2.2)
def rf48_Reader_rule.f (k:Nat) (L:List S73) (at_:Int) (fl:Bool):Option (ByteArray×List S48×ByteArray×ByteArray×List S50×List S87×Int×Bool) :=
  (rf48_Reader_must.f L at_ fl ruleB).bind fun a=>(rf48_Reader_code.f L a.1 a.2).bind fun n=>(rf48_Reader_must.f L n.2.1 n.2.2 ifB).bind fun b =>
  (rule_cs L k b.1 b.2 [] []).bind fun c=>(rf48_Reader_must.f L c.2.2.1 c.2.2.2 thenB).bind fun d=>(rf48_Reader_code.f L d.1 d.2).bind fun ac =>
  (rf48_Reader_is.f L ac.2.1 ac.2.2 partyB).bind fun p=>(rule_pa L p).bind fun pa=>(rule_tg L k pa.2.1 pa.2.2 []).bind fun t =>
  some (n.1,c.1,ac.1,pa.1,t.1,c.2.1,t.2.1,if t.2.1 < (L.length:Int) then true else t.2.2)
theorem rf01_Mul.calls (k:Nat) (a0 a1 r1:Int) (r2:Bool) (w:World) (h:rf01_Mul.f k a0 a1=some (r1,r2)) :
  Calls Tryz.prog 91 #[.int .i64 a0,.int .i64 a1] w fun e w'=>e=.returned (.tuple #[.int .i64 r1,.bool r2])∧Drawn0 w w':=by
 have H:=h;clear h;unfold rf01_Mul.f at H;replace H:=bdI H;obtain ⟨t465,A3,H⟩:=H;(try dsimp only at H)
 replace H:=bdI H;obtain ⟨t466,A4,H⟩:=H;(try dsimp only at H)
 have HC5:=sd H;clear H;go_enter Tryz.func91,Tryz.ntmps91
 go_upto_region 2 with (first|((with_reducible refine gate_callee (f:=128) rfl ?_);refine gL 11 Tryz.func128 #[.int .i64 a0] ?_;(with_reducible refine (rf01_size.calls a0 t465 _ A3.out).mono ?_);rintro e w' ⟨rfl,⟨nd,rfl⟩⟩;refine ⟨_,rfl,?_⟩)|((with_reducible refine gate_callee (f:=128) rfl ?_);refine gL 13 Tryz.func128 #[.int .i64 a1] ?_;(with_reducible refine (rf01_size.calls a1 t466 _ A4.out).mono ?_);rintro e w' ⟨rfl,⟨nd,rfl⟩⟩;refine ⟨_,rfl,?_⟩))
 (try simp only [Act.put,List.setIfInBounds_toArray,List.set_cons_zero,List.set_cons_succ])
 go_cut [8] (fun v8 wc=>∃ (kq:Nat) (x8_4:Bool),v8=.bool x8_4∧Aside0 (rf01_Mul.j0 kq t465 t466 x8_4=some (r1,r2))∧Aside0 (kq≤k)∧Drawn0 w wc)
 case first =>
  have H:=HC5.out;clear HC5;replace H:=ifI H;rcases H with ⟨c6,H⟩|⟨c6,H⟩
  ·have c6b0:decide (a0 < 0)=true:=decide_eq_true c6;clear c6;(first|rw [c6b0]|(simp only [i64_w,i32_w];rw [c6b0])|skip)
   replace H:=ifI H;rcases H with ⟨c7,H⟩|⟨c7,H⟩
   ·have c7b0:decide (0 < a1)=true:=decide_eq_true c7;clear c7;have H':=sd H;clear H;go_wp2
    go_meet
    case rel=>exact ⟨_,(true),zq7,H',⟨by first|omega|exact Nat.le_refl _⟩,zq16⟩
   have c7b0:decide (0 < a1)=false:=decide_eq_false c7;clear c7;replace H:=ifI H;rcases H with ⟨c8,H⟩|⟨c8,H⟩
   ·have c8b0:decide (0 < a0)=true:=decide_eq_true c8;clear c8;have H':=sd H;clear H;go_wp2
    go_meet
    case rel=>exact ⟨_,(decide (a1 < 0)),zq7,H',⟨by first|omega|exact Nat.le_refl _⟩,zq16⟩
   have c8b0:decide (0 < a0)=false:=decide_eq_false c8;clear c8;have H':=sd H;clear H;go_wp2
   go_meet
   case rel=>exact ⟨_,(false),zq7,H',⟨by first|omega|exact Nat.le_refl _⟩,zq16⟩
  have c6b0:decide (a0 < 0)=false:=decide_eq_false c6;clear c6;(first|rw [c6b0]|(simp only [i64_w,i32_w];rw [c6b0])|skip)
  replace H:=ifI H;rcases H with ⟨c9,H⟩|⟨c9,H⟩
  ·have c9b0:decide (0 < a0)=true:=decide_eq_true c9;clear c9;have H':=sd H;clear H;go_wp2
   go_meet
   case rel=>exact ⟨_,(decide (a1 < 0)),zq7,H',⟨by first|omega|exact Nat.le_refl _⟩,zq16⟩
  have c9b0:decide (0 < a0)=false:=decide_eq_false c9;clear c9;have H':=sd H;clear H;go_wp2
  go_meet
  case rel=>exact ⟨_,(false),zq7,H',⟨by first|omega|exact Nat.le_refl _⟩,zq16⟩
 case rest =>
  clear HC5;try clear c1
  obtain ⟨kq,x8_4,rfl,HA,HJ4,⟨mc4,rfl⟩⟩:=hcut
  cases kq with
 |zero=>exact absurd HA.out (by simp [rf01_Mul.j0])
 |succ kj4 =>
   have H:=HA.out;clear HA;simp only [rf01_Mul.j0] at H
   have HC10:=sd H;clear H;go_upto_if 28 with (fail)
   go_cut [9] (fun v9 wc=>∃ (kq:Nat) (x9_9:Int),v9=.int .u64 x9_9∧Aside0 (rf01_Mul.j1 kq t465 t466 x8_4 x9_9=some (r1,r2))∧Aside0 (kq≤kj4)∧Drawn0 w wc)
   case first =>
    have H:=HC10.out;clear HC10;by_cases c11:x8_4=true
    ·subst c11;rw [if_pos rfl] at H;have H':=sd H;clear H;go_wp2
     go_meet
     case rel=>exact ⟨_,(9223372036854775808),zq7,H',⟨by have:=HJ4.out;first|omega|exact Nat.le_refl _⟩,zq16⟩
    replace c11:=Bool.eq_false_iff.mpr c11;subst c11;rw [if_neg Bool.false_ne_true] at H;have H':=sd H;clear H;go_wp2
    go_meet
    case rel=>exact ⟨_,(9223372036854775807),zq7,H',⟨by have:=HJ4.out;first|omega|exact Nat.le_refl _⟩,zq16⟩
   case rest =>
    clear HC10;try clear c1
    obtain ⟨kq,x9_9,rfl,HA,HJ9,⟨mc9,rfl⟩⟩:=hcut
    cases kq with
   |zero=>exact absurd HA.out (by simp [rf01_Mul.j1])
   |succ kj9 =>
     have H:=HA.out;clear HA;simp only [rf01_Mul.j1] at H
     have HC12:=sd H;clear H;go_upto_region 6 with (fail)
     go_cut [37] (fun v37 wc=>∃ (kq:Nat) (x37_11:Bool),v37=.bool x37_11∧Aside0 (rf01_Mul.j2 kq t465 t466 x8_4 x37_11=some (r1,r2))∧Aside0 (kq≤kj9)∧Drawn0 w wc)
     case first =>
      have H:=HC12.out;clear HC12;replace H:=ifI H;rcases H with ⟨c13,H⟩|⟨c13,H⟩
      ·have c13b0:decide (0 < t466)=true:=decide_eq_true c13;clear c13;(first|rw [c13b0]|(simp only [i64_w,i32_w];rw [c13b0])|skip)
       replace H:=ifI H;rcases H with ⟨c14,H⟩|⟨c14,H⟩
       ·exact absurd H (by simp)
       obtain ⟨c14b0,c14b1⟩:=neI c14;have H':=sd H;clear H;go_wp2
       go_meet
       case rel=>exact ⟨_,(decide (t465 > (IntKind.u64.wrap (Int.tdiv x9_9 t466)))),zq7,H',⟨by have:=HJ4.out;have:=HJ9.out;first|omega|exact Nat.le_refl _⟩,zq16⟩
      have c13b0:decide (0 < t466)=false:=decide_eq_false c13;clear c13;(first|rw [c13b0]|(simp only [i64_w,i32_w];rw [c13b0])|skip)
      have H':=sd H;clear H;go_wp2
      go_meet
      case rel=>exact ⟨_,(false),zq7,H',⟨by have:=HJ4.out;have:=HJ9.out;first|omega|exact Nat.le_refl _⟩,zq16⟩
     case rest =>
      clear HC12;try clear c1
      obtain ⟨kq,x37_11,rfl,HA,HJ11,⟨mc11,rfl⟩⟩:=hcut
      cases kq with
     |zero=>exact absurd HA.out (by simp [rf01_Mul.j2])
     |succ kj11 =>
       have H:=HA.out;clear HA;simp only [rf01_Mul.j2] at H
       by_cases c15:x37_11=true
       ·subst c15;rw [if_pos rfl] at H;simp only [Option.some.injEq,Prod.mk.injEq] at H
        obtain ⟨rfl,rfl⟩:=H;go_wp2
        go_ret2
        exact ⟨zq7,zq16⟩
       replace c15:=Bool.eq_false_iff.mpr c15;subst c15;rw [if_neg Bool.false_ne_true] at H;by_cases c16:x8_4=true
       ·subst c16;rw [if_pos rfl] at H;simp only [Option.some.injEq,Prod.mk.injEq] at H
        obtain ⟨rfl,rfl⟩:=H;go_wp2
        go_ret2
        exact ⟨zq7,zq16⟩
       replace c16:=Bool.eq_false_iff.mpr c16;subst c16;rw [if_neg Bool.false_ne_true] at H;simp only [Option.some.injEq,Prod.mk.injEq] at H
       obtain ⟨rfl,rfl⟩:=H;go_wp2
       go_ret2
       exact ⟨zq7,zq16⟩
theorem rf04_first.calls (k:Nat) (a0 r:Int) (w:World) (h:rf04_first.f k a0=some r) :
  Calls Tryz.prog 129 #[.int .i64 a0] w fun e w'=>e=.returned (.int .i64 r)∧Below w.heap.size w w':=by
 have HB:=sd (Below.refl w.heap.size w);have H:=h;clear h;unfold rf04_first.f at H;have H':=sd H;clear H;go_enter Tryz.func129,Tryz.ntmps129
 go_wp2
 go_loopg [3,4] k (fun kq v3 v4 w'=>∃ (x3_1:Int) (x4_1:Int),v3=.int .i64 x3_1∧v4=.int .i64 x4_1∧Aside0 (rf04_first.l0 kq a0 x3_1 x4_1=some r)∧Aside0 (kq≤k)∧Aside0 (Below w.heap.size w w'))
 case atStart=>exact ⟨(0),(0),zq7,zq7,H',⟨Nat.le_refl _⟩,⟨zq6⟩⟩
 case round =>
  clear H';try clear c1
  obtain ⟨x3_1,x4_1,rfl,rfl,HA,HK1,HB⟩:=hrel
  cases gk with
 |zero=>exact absurd HA.out (by simp [rf04_first.l0])
 |succ k1 =>
   have H:=HA.out;clear HA;simp only [rf04_first.l0] at H
   replace H:=ifI H;rcases H with ⟨c2,H⟩|⟨c2,H⟩
   ·have c2b0:decide (x4_1 < a0)=true:=decide_eq_true c2;clear c2;replace H:=bdI H;obtain ⟨t474,A3,H⟩:=H;(try dsimp only at H)
    have H':=sd H;clear H;go_wp2_with (first|((with_reducible refine gate_callee (f:=105) rfl ?_);refine gL 17 Tryz.func105 #[.int .i64 (wrap64 (1900+(wrap64 (Int.tdiv x4_1 12)))),.int .i64 (wrap64 ((Int.tmod x4_1 12)+1))] ?_;(with_reducible refine (rf04_Length.calls k1 (wrap64 (1900+(wrap64 (Int.tdiv x4_1 12)))) (wrap64 ((Int.tmod x4_1 12)+1)) t474 _ A3.out).mono ?_);rintro e w4 ⟨rfl,hb⟩;refine ⟨_,rfl,?_⟩;replace HB:=hbm HB hb;clear hb))
    go_roundg k1
    case measure=>have:=HK1.out;omega
    case rel=>exact ⟨(wrap64 (x3_1+t474)),(wrap64 (x4_1+1)),zq7,zq7,H',⟨by have:=HK1.out;omega⟩,⟨zq6⟩⟩
   have c2b0:decide (x4_1 < a0)=false:=decide_eq_false c2;clear c2;obtain rfl:=Option.some.inj H;go_wp2
   go_ret
   exact ⟨zq4,zq6⟩
theorem rf04_Of.tab1:rtab .any (opsOf Tryz.f93 1)=rf04_Of.T1:=by kernel_rfl
theorem rf04_Of.tab3:rtab .any (opsOf Tryz.f93 3)=rf04_Of.T3:=by kernel_rfl
theorem rf04_Of.calls (k:Nat) (a0_0 a0_1 a0_2 r1 r2:Int) (w:World) (h:rf04_Of.f k a0_0 a0_1 a0_2=some (r1,r2)) :
  Calls Tryz.prog 93 #[.agg #[.int .i64 a0_0,.int .i64 a0_1,.int .i64 a0_2]] w fun e w'=>e=.returned (.tuple #[.int .i64 r1,.int .i64 r2])∧Below w.heap.size w w':=by
 have hu112:=Tryz.underlying112;have HB:=sd (Below.refl w.heap.size w);have H:=h;clear h;unfold rf04_Of.f at H;replace H:=ifI H;rcases H with ⟨c2,H⟩|⟨c2,H⟩
 ·have c2b0:decide (a0_0 < 1900)=true:=decide_eq_true c2;clear c2;simp only [Option.some.injEq,Prod.mk.injEq] at H
  obtain ⟨rfl,rfl⟩:=H;go_enter Tryz.func93,Tryz.ntmps93
  try go_wp2_with (first|((with_reducible refine gate_dst (N:=1) rfl ?_);refine bxA 1 #[.int .i64 a0_0,.int .i64 a0_1,.int .i64 a0_2] 112 ?_;intro gb475 hg w3 hbox hb;have BK475:=sd (hbox);have GW475:=gem hg HB;have GE475:=GW475;replace HB:=hbm HB hb;clear hb hbox hg))
  replace BK475:=sd (blk_drew BK475.out);replace HB:=sd (below_drew1 HB.out);refine start_ (n:=23) (S:=fun w'=>w'.cell? ⟨gb475,0,none⟩=some (.int .i64 a0_0)∧w'.cell? ⟨gb475,1,none⟩=some (.int .i64 a0_1)∧w'.cell? ⟨gb475,2,none⟩=some (.int .i64 a0_2)) (ds:=[]) #[false,false,false,false,false,false,false,false,false,false,false,false,false,false,false,false,false,false,false,false,false,false,false] (by kernel_rfl) rfl rfl ⟨(blk_cell BK475.out 0).trans rfl,(blk_cell BK475.out 1).trans rfl,(blk_cell BK475.out 2).trans rfl⟩ (fun hHeld=>?_);refine with_tabW rf04_Of.tab1 rf04_Of.bits1 (fun HT_ HW_=>?_);generalize w3.drew=w4 at BK475 HB hHeld ⊢;refine pA 0 4 HT_.out ?_;refine tA 1 5 HT_.out HW_.out hHeld ?_;refine pA 2 6 HT_.out ?_;refine pA 3 7 HT_.out ?_;refine oA 4 8 HT_.out ?_;refine oA 5 9 HT_.out ?_;refine oA 6 10 HT_.out ?_;refine pA 7 11 HT_.out ?_;refine pA 8 12 HT_.out ?_;refine oA 9 13 HT_.out ?_;refine oA 10 14 HT_.out ?_;refine oA 11 15 HT_.out ?_;refine pA 12 16 HT_.out ?_;refine pA 13 17 HT_.out ?_;refine oA 14 18 HT_.out ?_;refine oA 15 19 HT_.out ?_;refine oA 16 20 HT_.out ?_;refine oA 17 21 HT_.out ?_;refine oA 18 22 HT_.out ?_;refine oA 19 23 HT_.out ?_;refine oA 20 24 HT_.out ?_;refine oA 21 25 HT_.out ?_;refine pA 22 26 HT_.out ?_;refine done_ (done_of HT_.out (by kernel_rfl)) ?_;try go_wp2
  go_ret2
  exact ⟨zq4,zq92⟩
 have c2b0:decide (a0_0 < 1900)=false:=decide_eq_false c2;clear c2;replace H:=ifI H;rcases H with ⟨c5,H⟩|⟨c5,H⟩
 ·have c5b0:decide (2199 < a0_0)=true:=decide_eq_true c5;clear c5;simp only [Option.some.injEq,Prod.mk.injEq] at H
  obtain ⟨rfl,rfl⟩:=H;go_enter Tryz.func93,Tryz.ntmps93
  try go_wp2_with (first|((with_reducible refine gate_dst (N:=1) rfl ?_);refine bxA 1 #[.int .i64 a0_0,.int .i64 a0_1,.int .i64 a0_2] 112 ?_;intro gb475 hg w6 hbox hb;have BK475:=sd (hbox);have GW475:=gem hg HB;have GE475:=GW475;replace HB:=hbm HB hb;clear hb hbox hg))
  replace BK475:=sd (blk_drew BK475.out);replace HB:=sd (below_drew1 HB.out);refine start_ (n:=23) (S:=fun w'=>w'.cell? ⟨gb475,0,none⟩=some (.int .i64 a0_0)∧w'.cell? ⟨gb475,1,none⟩=some (.int .i64 a0_1)∧w'.cell? ⟨gb475,2,none⟩=some (.int .i64 a0_2)) (ds:=[]) #[false,false,false,false,false,false,false,false,false,false,false,false,false,false,false,false,false,false,false,false,false,false,false] (by kernel_rfl) rfl rfl ⟨(blk_cell BK475.out 0).trans rfl,(blk_cell BK475.out 1).trans rfl,(blk_cell BK475.out 2).trans rfl⟩ (fun hHeld=>?_);refine with_tabW rf04_Of.tab1 rf04_Of.bits1 (fun HT_ HW_=>?_);generalize w6.drew=w7 at BK475 HB hHeld ⊢;refine pA 0 4 HT_.out ?_;refine tA 1 5 HT_.out HW_.out hHeld ?_;refine pA 2 6 HT_.out ?_;refine pA 3 7 HT_.out ?_;refine pA 4 8 HT_.out ?_;refine tA 5 9 HT_.out HW_.out hHeld ?_;refine pA 6 10 HT_.out ?_;refine pA 7 11 HT_.out ?_;refine pA 8 12 HT_.out ?_;refine oA 9 13 HT_.out ?_;refine oA 10 14 HT_.out ?_;refine oA 11 15 HT_.out ?_;refine pA 12 16 HT_.out ?_;refine pA 13 17 HT_.out ?_;refine oA 14 18 HT_.out ?_;refine oA 15 19 HT_.out ?_;refine oA 16 20 HT_.out ?_;refine oA 17 21 HT_.out ?_;refine oA 18 22 HT_.out ?_;refine oA 19 23 HT_.out ?_;refine oA 20 24 HT_.out ?_;refine oA 21 25 HT_.out ?_;refine pA 22 26 HT_.out ?_;refine done_ (done_of HT_.out (by kernel_rfl)) ?_;try go_wp2
  go_ret2
  exact ⟨zq4,zq92⟩
 have c5b0:decide (2199 < a0_0)=false:=decide_eq_false c5;clear c5;replace H:=ifI H;rcases H with ⟨c8,H⟩|⟨c8,H⟩
 ·have c8b0:decide (a0_2 < 1)=true:=decide_eq_true c8;clear c8;simp only [Option.some.injEq,Prod.mk.injEq] at H
  obtain ⟨rfl,rfl⟩:=H;go_enter Tryz.func93,Tryz.ntmps93
  try go_wp2_with (first|((with_reducible refine gate_dst (N:=1) rfl ?_);refine bxA 1 #[.int .i64 a0_0,.int .i64 a0_1,.int .i64 a0_2] 112 ?_;intro gb475 hg w9 hbox hb;have BK475:=sd (hbox);have GW475:=gem hg HB;have GE475:=GW475;replace HB:=hbm HB hb;clear hb hbox hg))
  replace BK475:=sd (blk_drew BK475.out);replace HB:=sd (below_drew1 HB.out);refine start_ (n:=23) (S:=fun w'=>w'.cell? ⟨gb475,0,none⟩=some (.int .i64 a0_0)∧w'.cell? ⟨gb475,1,none⟩=some (.int .i64 a0_1)∧w'.cell? ⟨gb475,2,none⟩=some (.int .i64 a0_2)) (ds:=[]) #[false,false,false,false,false,false,false,false,false,false,false,false,false,false,false,false,false,false,false,false,false,false,false] (by kernel_rfl) rfl rfl ⟨(blk_cell BK475.out 0).trans rfl,(blk_cell BK475.out 1).trans rfl,(blk_cell BK475.out 2).trans rfl⟩ (fun hHeld=>?_);refine with_tabW rf04_Of.tab1 rf04_Of.bits1 (fun HT_ HW_=>?_);generalize w9.drew=w10 at BK475 HB hHeld ⊢;refine pA 0 4 HT_.out ?_;refine tA 1 5 HT_.out HW_.out hHeld ?_;refine pA 2 6 HT_.out ?_;refine pA 3 7 HT_.out ?_;refine pA 4 8 HT_.out ?_;refine tA 5 9 HT_.out HW_.out hHeld ?_;refine pA 6 10 HT_.out ?_;refine pA 7 11 HT_.out ?_;refine pA 8 12 HT_.out ?_;refine pA 9 13 HT_.out ?_;refine tA 10 14 HT_.out HW_.out hHeld ?_;refine pA 11 15 HT_.out ?_;refine pA 12 16 HT_.out ?_;refine pA 13 17 HT_.out ?_;refine oA 14 18 HT_.out ?_;refine oA 15 19 HT_.out ?_;refine oA 16 20 HT_.out ?_;refine oA 17 21 HT_.out ?_;refine oA 18 22 HT_.out ?_;refine oA 19 23 HT_.out ?_;refine oA 20 24 HT_.out ?_;refine oA 21 25 HT_.out ?_;refine pA 22 26 HT_.out ?_;refine done_ (done_of HT_.out (by kernel_rfl)) ?_;try go_wp2
  go_ret2
  exact ⟨zq4,zq92⟩
 have c8b0:decide (a0_2 < 1)=false:=decide_eq_false c8;clear c8;replace H:=bdI H;obtain ⟨t476,A11,H⟩:=H;(try dsimp only at H)
 replace H:=ifI H;rcases H with ⟨c12,H⟩|⟨c12,H⟩
 ·have c12b0:decide (t476 < a0_2)=true:=decide_eq_true c12;clear c12;simp only [Option.some.injEq,Prod.mk.injEq] at H
  obtain ⟨rfl,rfl⟩:=H;go_enter Tryz.func93,Tryz.ntmps93
  try go_wp2_with (first|((with_reducible refine gate_dst (N:=1) rfl ?_);refine bxA 1 #[.int .i64 a0_0,.int .i64 a0_1,.int .i64 a0_2] 112 ?_;intro gb475 hg w13 hbox hb;have BK475:=sd (hbox);have GW475:=gem hg HB;have GE475:=GW475;replace HB:=hbm HB hb;clear hb hbox hg))
  replace BK475:=sd (blk_drew BK475.out);replace HB:=sd (below_drew1 HB.out);refine start_ (n:=23) (S:=fun w'=>w'.cell? ⟨gb475,0,none⟩=some (.int .i64 a0_0)∧w'.cell? ⟨gb475,1,none⟩=some (.int .i64 a0_1)∧w'.cell? ⟨gb475,2,none⟩=some (.int .i64 a0_2)) (ds:=[]) #[false,false,false,false,false,false,false,false,false,false,false,false,false,false,false,false,false,false,false,false,false,false,false] (by kernel_rfl) rfl rfl ⟨(blk_cell BK475.out 0).trans rfl,(blk_cell BK475.out 1).trans rfl,(blk_cell BK475.out 2).trans rfl⟩ (fun hHeld=>?_);refine with_tabW rf04_Of.tab1 rf04_Of.bits1 (fun HT_ HW_=>?_);generalize w13.drew=w14 at BK475 HB hHeld ⊢;refine pA 0 4 HT_.out ?_;refine tA 1 5 HT_.out HW_.out hHeld ?_;refine pA 2 6 HT_.out ?_;refine pA 3 7 HT_.out ?_;refine pA 4 8 HT_.out ?_;refine tA 5 9 HT_.out HW_.out hHeld ?_;refine pA 6 10 HT_.out ?_;refine pA 7 11 HT_.out ?_;refine pA 8 12 HT_.out ?_;refine pA 9 13 HT_.out ?_;refine tA 10 14 HT_.out HW_.out hHeld ?_;refine pA 11 15 HT_.out ?_;refine pA 12 16 HT_.out ?_;refine pA 13 17 HT_.out ?_;refine pA 14 18 HT_.out ?_;refine pA 16 20 HT_.out ?_;refine pA 18 22 HT_.out ?_;refine tA 15 19 HT_.out HW_.out hHeld ?_;refine tA 17 21 HT_.out HW_.out hHeld ?_;refine tA 19 23 HT_.out HW_.out hHeld ?_;refine one_ (i:=20) (N:=some 24) #[true,true,true,true,true,true,true,true,true,true,true,true,true,true,true,true,true,true,true,true,true,false,false] rfl rfl (one_of HT_.out (by kernel_rfl)) (by decide) (fun K hK=>?_);refine goes_ Tryz.func105 (by kernel_rfl) rfl #[.int .i64 a0_0,.int .i64 a0_1] (by rfl) rfl rfl zq34 ?_;with_reducible refine (rf04_Length.calls k a0_0 a0_1 t476 _ A11.out).mono ?_
  rintro e w15 ⟨rfl,hb⟩;refine ⟨_,rfl,?_⟩;replace BK475:=bkm BK475 hb;replace HB:=hbm HB hb;clear hb;refine hK.out _ _ ⟨(blk_cell BK475.out 0).trans rfl,(blk_cell BK475.out 1).trans rfl,(blk_cell BK475.out 2).trans rfl⟩ (fun hHeld=>?_);clear hK K;refine nA 24 ?_;refine pA 21 25 HT_.out ?_;refine pA 22 26 HT_.out ?_;refine done_ (done_of HT_.out (by kernel_rfl)) ?_;try go_wp2
  go_ret2
  exact ⟨zq4,zq92⟩
 have c12b0:decide (t476 < a0_2)=false:=decide_eq_false c12;clear c12;replace H:=bdI H;obtain ⟨t477,A16,H⟩:=H;(try dsimp only at H)
 simp only [Option.some.injEq,Prod.mk.injEq] at H
 obtain ⟨rfl,rfl⟩:=H;go_enter Tryz.func93,Tryz.ntmps93
 try go_wp2_with (first|((with_reducible refine gate_dst (N:=1) rfl ?_);refine bxA 1 #[.int .i64 a0_0,.int .i64 a0_1,.int .i64 a0_2] 112 ?_;intro gb475 hg w17 hbox hb;have BK475:=sd (hbox);have GW475:=gem hg HB;have GE475:=GW475;replace HB:=hbm HB hb;clear hb hbox hg))
 replace BK475:=sd (blk_drew BK475.out);replace HB:=sd (below_drew1 HB.out);refine start_ (n:=23) (S:=fun w'=>w'.cell? ⟨gb475,0,none⟩=some (.int .i64 a0_0)∧w'.cell? ⟨gb475,1,none⟩=some (.int .i64 a0_1)∧w'.cell? ⟨gb475,2,none⟩=some (.int .i64 a0_2)) (ds:=[]) #[false,false,false,false,false,false,false,false,false,false,false,false,false,false,false,false,false,false,false,false,false,false,false] (by kernel_rfl) rfl rfl ⟨(blk_cell BK475.out 0).trans rfl,(blk_cell BK475.out 1).trans rfl,(blk_cell BK475.out 2).trans rfl⟩ (fun hHeld=>?_);refine with_tabW rf04_Of.tab1 rf04_Of.bits1 (fun HT_ HW_=>?_);generalize w17.drew=w18 at BK475 HB hHeld ⊢;refine pA 0 4 HT_.out ?_;refine tA 1 5 HT_.out HW_.out hHeld ?_;refine pA 2 6 HT_.out ?_;refine pA 3 7 HT_.out ?_;refine pA 4 8 HT_.out ?_;refine tA 5 9 HT_.out HW_.out hHeld ?_;refine pA 6 10 HT_.out ?_;refine pA 7 11 HT_.out ?_;refine pA 8 12 HT_.out ?_;refine pA 9 13 HT_.out ?_;refine tA 10 14 HT_.out HW_.out hHeld ?_;refine pA 11 15 HT_.out ?_;refine pA 12 16 HT_.out ?_;refine pA 13 17 HT_.out ?_;refine pA 14 18 HT_.out ?_;refine pA 16 20 HT_.out ?_;refine pA 18 22 HT_.out ?_;refine tA 15 19 HT_.out HW_.out hHeld ?_;refine tA 17 21 HT_.out HW_.out hHeld ?_;refine tA 19 23 HT_.out HW_.out hHeld ?_;refine one_ (i:=20) (N:=some 24) #[true,true,true,true,true,true,true,true,true,true,true,true,true,true,true,true,true,true,true,true,true,false,false] rfl rfl (one_of HT_.out (by kernel_rfl)) (by decide) (fun K hK=>?_);refine goes_ Tryz.func105 (by kernel_rfl) rfl #[.int .i64 a0_0,.int .i64 a0_1] (by rfl) rfl rfl zq34 ?_;with_reducible refine (rf04_Length.calls k a0_0 a0_1 t476 _ A11.out).mono ?_
 rintro e w19 ⟨rfl,hb⟩;refine ⟨_,rfl,?_⟩;replace BK475:=bkm BK475 hb;replace HB:=hbm HB hb;clear hb;refine hK.out _ _ ⟨(blk_cell BK475.out 0).trans rfl,(blk_cell BK475.out 1).trans rfl,(blk_cell BK475.out 2).trans rfl⟩ (fun hHeld=>?_);clear hK K;refine nA 24 ?_;refine pA 21 25 HT_.out ?_;refine pA 22 26 HT_.out ?_;refine done_ (done_of HT_.out (by kernel_rfl)) ?_;try go_wp2
 replace BK475:=sd (blk_drew BK475.out);replace HB:=sd (below_drew1 HB.out);refine start_ (n:=15) (S:=fun w'=>w'.cell? ⟨gb475,0,none⟩=some (.int .i64 a0_0)∧w'.cell? ⟨gb475,1,none⟩=some (.int .i64 a0_1)∧w'.cell? ⟨gb475,2,none⟩=some (.int .i64 a0_2)) (ds:=[]) #[false,false,false,false,false,false,false,false,false,false,false,false,false,false,false] (by kernel_rfl) rfl rfl ⟨(blk_cell BK475.out 0).trans rfl,(blk_cell BK475.out 1).trans rfl,(blk_cell BK475.out 2).trans rfl⟩ (fun hHeld=>?_);refine with_tabW rf04_Of.tab3 rf04_Of.bits3 (fun HT_ HW_=>?_);generalize w19.drew=w20 at BK475 HB hHeld ⊢;refine pA 0 27 HT_.out ?_;refine pA 4 31 HT_.out ?_;refine pA 9 36 HT_.out ?_;refine tA 1 28 HT_.out HW_.out hHeld ?_;refine pA 2 29 HT_.out ?_;refine pA 3 30 HT_.out ?_;refine tA 5 32 HT_.out HW_.out hHeld ?_;refine pA 6 33 HT_.out ?_;refine pA 7 34 HT_.out ?_;refine tA 10 37 HT_.out HW_.out hHeld ?_;refine one_ (i:=8) (N:=some 35) #[true,true,true,true,true,true,true,true,true,true,true,false,false,false,false] rfl rfl (one_of HT_.out (by kernel_rfl)) (by decide) (fun K hK=>?_);refine goes_ Tryz.func129 (by kernel_rfl) rfl #[.int .i64 (wrap64 ((wrap64 ((wrap64 ((wrap64 (a0_0 - 1900)) * 12))+a0_1)) - 1))] (by rfl) rfl rfl zq34 ?_;with_reducible refine (rf04_first.calls k (wrap64 ((wrap64 ((wrap64 ((wrap64 (a0_0 - 1900)) * 12))+a0_1)) - 1)) t477 _ A16.out).mono ?_
 rintro e w21 ⟨rfl,hb⟩;refine ⟨_,rfl,?_⟩;replace BK475:=bkm BK475 hb;replace HB:=hbm HB hb;clear hb;refine hK.out _ _ ⟨(blk_cell BK475.out 0).trans rfl,(blk_cell BK475.out 1).trans rfl,(blk_cell BK475.out 2).trans rfl⟩ (fun hHeld=>?_);clear hK K;refine nA 35 ?_;refine pA 11 38 HT_.out ?_;refine pA 12 39 HT_.out ?_;refine pA 13 2 HT_.out ?_;refine pA 14 3 HT_.out ?_;refine done_ (done_of HT_.out (by kernel_rfl)) ?_;try go_wp2
 go_ret2
 exact ⟨zq4,zq92⟩
end A
namespace A
open Go.RowKit B WW WL WM
attribute [local go_sem] max2_int min2_int max_two min_two max_three min_three max_four min_four
set_option maxHeartbeats 8000000
set_option maxRecDepth 100000
section
variable {ok:Nat→Prop} {w0 w wr w1:World} {g g2 g4:Nat} {L:List S73} {at_:Int} {fl:Bool} {nm:ByteArray} {cs:List S48} {acc par:ByteArray} {tg:List S50} {vs:List S87} {vC vT vV:Value}
theorem kb_below {a b c:World} {g:Nat} (h:KeepBut a b g none) (hb:Below b.heap.size b c):KeepBut a c g none:=h.trans (KeepBut.of_below hb g none) (Or.inl rfl)
theorem RL.below (h:RL ok w0 w wr g g2 g4 L at_ fl nm cs acc par tg vs vC vT vV) (hb:Below wr.heap.size wr w1):RL ok w0 w w1 g g2 g4 L at_ fl nm cs acc par tg vs vC vT vV :=
  ⟨h.hI.below hb,h.hB.trans (hb.mono h.hB.size),kb_below h.hK hb,blk_below h.b4 hb,blk_below h.b2 hb,Kd.R_below h.rC hb,Kd.R_below h.rT hb,Kd.R_below h.rV hb,h.e2,h.e4,h.ne,h.hw0⟩
theorem RL.call (h:RL ok w0 w wr g g2 g4 L at_ fl nm cs acc par tg vs vC vT vV) {at':Int} {fl':Bool} (hI:IsS82 w0 w1 g L at' fl') (hB:Below w0.heap.size w0 w1) (hK:KeepBut wr w1 g none):RL ok w0 w w1 g g2 g4 L at' fl' nm cs acc par tg vs vC vT vV :=
  ⟨hI,hB,h.hK.trans hK (Or.inl rfl),hK.blk h.b4 (Ne.symm (h.hI.ne_blk h.b4 (by decide))) (by simp),hK.blk h.b2 (Ne.symm (h.hI.ne_blk h.b2 (by decide))) (by simp),
   Kd.R_mono (Kd.R_keep (h.hI.apart h.rC (by decide)) hK (fun _ hk=>hk.2)) (fun _ hk=>hk.1),Kd.R_mono (Kd.R_keep (h.hI.apart h.rT (by decide)) hK (fun _ hk=>hk.2)) (fun _ hk=>hk.1),Kd.R_mono (Kd.R_keep (h.hI.apart h.rV (by decide)) hK (fun _ hk=>hk.2)) (fun _ hk=>hk.1),h.e2,h.e4,h.ne,h.hw0⟩
theorem RL.set (h:RL ok w0 w wr g g2 g4 L at_ fl nm cs acc par tg vs vC vT vV) (j:Nat) (u:Value) {nm' acc' par':ByteArray} {vC' vT':Value} {cs':List S48} {tg':List S50} (hc:(#[Value.string nm,vC,.string acc,.string par,vT]:Array Value).setIfInBounds j u=#[.string nm',vC',.string acc',.string par',vT'])
    (rC:Kd.R k48 48 wr w.heap.size ok vC' cs') (rT:Kd.R k50 50 wr w.heap.size ok vT' tg'):RL ok w0 w (wr.setCell ⟨g4,j,none⟩ u) g g2 g4 L at_ fl nm' cs' acc' par' tg' vs vC' vT' vV :=
  ⟨h.hI.far (p:=⟨g4,j,none⟩) (h.hI.ne_blk h.b4 (by decide)) u,below_setN h.hB (Nat.le_trans h.hw0 h.e4) u,keep_far h.hK (p:=⟨g4,j,none⟩) h.e4 u,blk_put h.b4 j u hc,blk_far (p:=⟨g4,j,none⟩) h.b2 h.ne u,
   Kd.R_set rC h.b4 q48_25 j u,Kd.R_set rT h.b4 q50_25 j u,Kd.R_set h.rV h.b4 q87_25 j u,h.e2,h.e4,h.ne,h.hw0⟩
theorem RL.growC (h:RL ok w0 w wr g g2 g4 L at_ fl nm cs acc par tg vs vC vT vV) {v1:Value} {cs':List S48} (hR:Kd.R k48 48 w1 w.heap.size ok v1 cs') (hB:Below w0.heap.size w0 w1) (hg:wr.grownBy w1 vC.ownBlock) (hk:KeepBut w w1 g none) :
    RL ok w0 w (w1.setCell ⟨g4,1,none⟩ v1) g g2 g4 L at_ fl nm cs' acc par tg vs v1 vT vV:=by
  have hb4:=blk_grown h.b4 hg (Kd.R_ne h.rC h.b4 (by decide));have hI:=h.hI.grown hg (h.hI.own_ne h.rC (by decide))
  exact ⟨hI.far (p:=⟨g4,1,none⟩) (hI.ne_blk hb4 (by decide)) v1,below_setN hB (Nat.le_trans h.hw0 h.e4) v1,keep_far hk (p:=⟨g4,1,none⟩) h.e4 v1,blk_put hb4 1 v1 rfl,blk_far (p:=⟨g4,1,none⟩) (blk_grown h.b2 hg (Kd.R_ne h.rC h.b2 (by decide))) h.ne v1,
    Kd.R_set hR hb4 q48_25 1 v1,Kd.R_set (Kd.R_over h.rT h.rC (by decide) hg) hb4 q50_25 1 v1,Kd.R_set (Kd.R_over h.rV h.rC (by decide) hg) hb4 q87_25 1 v1,h.e2,h.e4,h.ne,h.hw0⟩
theorem RL.growT (h:RL ok w0 w wr g g2 g4 L at_ fl nm cs acc par tg vs vC vT vV) {v1:Value} {tg':List S50} (hR:Kd.R k50 50 w1 w.heap.size ok v1 tg') (hB:Below w0.heap.size w0 w1) (hg:wr.grownBy w1 vT.ownBlock) (hk:KeepBut w w1 g none) :
    RL ok w0 w (w1.setCell ⟨g4,4,none⟩ v1) g g2 g4 L at_ fl nm cs acc par tg' vs vC v1 vV:=by
  have hb4:=blk_grown h.b4 hg (Kd.R_ne h.rT h.b4 (by decide));have hI:=h.hI.grown hg (h.hI.own_ne h.rT (by decide))
  exact ⟨hI.far (p:=⟨g4,4,none⟩) (hI.ne_blk hb4 (by decide)) v1,below_setN hB (Nat.le_trans h.hw0 h.e4) v1,keep_far hk (p:=⟨g4,4,none⟩) h.e4 v1,blk_put hb4 4 v1 rfl,blk_far (p:=⟨g4,4,none⟩) (blk_grown h.b2 hg (Kd.R_ne h.rT h.b2 (by decide))) h.ne v1,
    Kd.R_set (Kd.R_over h.rC h.rT (by decide) hg) hb4 q48_25 4 v1,Kd.R_set hR hb4 q50_25 4 v1,Kd.R_set (Kd.R_over h.rV h.rT (by decide) hg) hb4 q87_25 4 v1,h.e2,h.e4,h.ne,h.hw0⟩
theorem RL.growV (h:RL ok w0 w wr g g2 g4 L at_ fl nm cs acc par tg vs vC vT vV) {v1:Value} {vs':List S87} (hR:Kd.R k87 87 w1 w.heap.size ok v1 vs') (hB:Below w0.heap.size w0 w1) (hg:wr.grownBy w1 vV.ownBlock) (hk:KeepBut w w1 g none) :
    RL ok w0 w w1 g g2 g4 L at_ fl nm cs acc par tg vs' vC vT v1 :=
  ⟨h.hI.grown hg (h.hI.own_ne h.rV (by decide)),hB,hk,blk_grown h.b4 hg (Kd.R_ne h.rV h.b4 (by decide)),blk_grown h.b2 hg (Kd.R_ne h.rV h.b2 (by decide)),
    Kd.R_over h.rC h.rV (by decide) hg,Kd.R_over h.rT h.rV (by decide) hg,hR,h.e2,h.e4,h.ne,h.hw0⟩
theorem RL.set2 (h:RL ok w0 w wr g g2 g4 L at_ fl nm cs acc par tg vs vC vT vV) (x:Bool):RL ok w0 w (wr.setCell ⟨g,2,none⟩ (.bool x)) g g2 g4 L at_ x nm cs acc par tg vs vC vT vV :=
  h.call (h.hI.set_2 x) (below_setN h.hB h.hI.ge _) ((KeepBut.refl wr g none).set_ 2 _)
theorem RL.fin (h:RL ok w0 w wr g g2 g4 L at_ fl nm cs acc par tg vs vC vT vV) {W:World} (hW:W=(((((wr.setCell ⟨g2,0,none⟩ (.string nm)).setCell ⟨g2,1,none⟩ (vC)).setCell ⟨g2,2,none⟩ (.string acc)).setCell ⟨g2,3,none⟩ (.string par)).setCell ⟨g2,4,none⟩ (vT))) :
    W.heap[g2]?=some (.cells #[.string nm,vC,.string acc,.string par,vT] 25 (0,0))∧Kd.R k48 48 W w.heap.size ok vC cs∧Kd.R k50 50 W w.heap.size ok vT tg∧Kd.R k87 87 W w.heap.size ok vV vs∧IsS82 w0 W g L at_ fl∧Below w0.heap.size w0 W∧KeepBut w W g none:=by
  subst hW;have hg:g≠g2:=h.hI.ne_blk h.b2 (by decide);have hge:w0.heap.size≤g2:=Nat.le_trans h.hw0 h.e2;have b0:=blk_put (cs':=#[.string nm,.slice none 0 0,.string ⟨#[]⟩,.string ⟨#[]⟩,.slice none 0 0]) h.b2 0 (.string nm) rfl;have c0:=Kd.R_set h.rC h.b2 q48_25 0 (.string nm);have d0:=Kd.R_set h.rT h.b2 q50_25 0 (.string nm);have f0:=Kd.R_set h.rV h.b2 q87_25 0 (.string nm);have i0:=h.hI.far (p:=⟨g2,0,none⟩) hg (.string nm);have k0:=keep_far h.hK (p:=⟨g2,0,none⟩) h.e2 (.string nm);have l0:=below_setN (o:=0) h.hB hge (.string nm);have b1:=blk_put (cs':=#[.string nm,vC,.string ⟨#[]⟩,.string ⟨#[]⟩,.slice none 0 0]) b0 1 (vC) rfl;have c1:=Kd.R_set c0 b0 q48_25 1 (vC);have d1:=Kd.R_set d0 b0 q50_25 1 (vC);have f1:=Kd.R_set f0 b0 q87_25 1 (vC);have i1:=i0.far (p:=⟨g2,1,none⟩) hg (vC);have k1:=keep_far k0 (p:=⟨g2,1,none⟩) h.e2 (vC);have l1:=below_setN (o:=1) l0 hge (vC);have b2:=blk_put (cs':=#[.string nm,vC,.string acc,.string ⟨#[]⟩,.slice none 0 0]) b1 2 (.string acc) rfl;have c2:=Kd.R_set c1 b1 q48_25 2 (.string acc);have d2:=Kd.R_set d1 b1 q50_25 2 (.string acc);have f2:=Kd.R_set f1 b1 q87_25 2 (.string acc);have i2:=i1.far (p:=⟨g2,2,none⟩) hg (.string acc);have k2:=keep_far k1 (p:=⟨g2,2,none⟩) h.e2 (.string acc);have l2:=below_setN (o:=2) l1 hge (.string acc);have b3:=blk_put (cs':=#[.string nm,vC,.string acc,.string par,.slice none 0 0]) b2 3 (.string par) rfl;have c3:=Kd.R_set c2 b2 q48_25 3 (.string par);have d3:=Kd.R_set d2 b2 q50_25 3 (.string par);have f3:=Kd.R_set f2 b2 q87_25 3 (.string par);have i3:=i2.far (p:=⟨g2,3,none⟩) hg (.string par);have k3:=keep_far k2 (p:=⟨g2,3,none⟩) h.e2 (.string par);have l3:=below_setN (o:=3) l2 hge (.string par);have b4:=blk_put (cs':=#[.string nm,vC,.string acc,.string par,vT]) b3 4 (vT) rfl;have c4:=Kd.R_set c3 b3 q48_25 4 (vT);have d4:=Kd.R_set d3 b3 q50_25 4 (vT);have f4:=Kd.R_set f3 b3 q87_25 4 (vT);have i4:=i3.far (p:=⟨g2,4,none⟩) hg (vT);have k4:=keep_far k3 (p:=⟨g2,4,none⟩) h.e2 (vT);have l4:=below_setN (o:=4) l3 hge (vT);exact ⟨b4,c4,d4,f4,i4,l4,k4⟩
end
end A

end Go.Proofs.YtkbgkekegjfkfaaGreatDoor