-- By pack.py, a program of this session's.
import Derived.Test.YtkbgkekegjfkfaaGreatDoorZ14
import Derived.Test.YtkbgkekegjfkfaaGreatDoorZ15
import Derived.Test.YtkbgkekegjfkfaaGreatDoorZ16
import Derived.Test.YtkbgkekegjfkfaaGreatDoorZ17
set_option linter.unusedVariables false
set_option linter.unusedSimpArgs false
namespace Go.Proofs.YtkbgkekegjfkfaaGreatDoor
namespace A
open Go.RowKit B WW WL WM
attribute [local go_sem] max2_int min2_int max_two min_two max_three min_three max_four min_four
set_option maxHeartbeats 8000000
set_option maxRecDepth 100000
def ReadPost (bd g:Nat) (vC vT vW:Value) (p':PR) (r:Int) (w:World) (e:Ending) (w':World):Prop :=
  e=.returned (.bool (r != 14))∧(∃ vC' vT' vW',RP w' bd g { p' with st:=r } vC' vT' vW')∧FP bd g vC vT vW w w'
def noR (a e:Int):RRes:=(⟨#[]⟩,[],⟨#[]⟩,⟨#[]⟩,[],a,e)
theorem lives_walk (w:World) (hG:Gl w)
  (C1:Aside0 (∀ W,Calls Tryz.prog 27 #[] W fun e w'=>∃ v1 v4:Value,e=.returned (.agg #[.string ⟨#[114,101,110,116]⟩,v1,.string ⟨#[53,49]⟩,.string ⟨#[112]⟩,v4])∧Kd.R k48 48 w' W.heap.size (fun _=>True) v1 livesC∧Kd.R k50 50 w' W.heap.size (fun _=>True) v4 livesG∧Below W.heap.size W w'))
  (C2:Aside0 (∀ W A c A4 c4,Kd.C k48 W A livesC.length livesC→livesC.length≤c→Kd.C k50 W A4 livesG.length livesG→livesG.length≤c4→Gl W→Calls Tryz.prog 16 #[.agg #[.string ⟨#[114,101,110,116]⟩,.slice A livesC.length c,.string ⟨#[53,49]⟩,.string ⟨#[112]⟩,.slice A4 livesG.length c4]] W fun e w'=>e=.returned (.tuple #[.string livesX,.int .i64 0])∧Below W.heap.size W w'))
  (C3:Aside0 (∀ W,Gl W→Calls Tryz.prog 18 #[.string livesX] W fun e w'=>∃ v1 v4:Value,e=.returned (.tuple #[.agg #[.string ⟨#[114,101,110,116]⟩,v1,.string ⟨#[53,49]⟩,.string ⟨#[112]⟩,v4],.int .i64 0,.int .i64 0])∧Kd.R k48 48 w' W.heap.size (fun _=>True) v1 livesC∧Kd.R k50 50 w' W.heap.size (fun _=>True) v4 livesG∧Below W.heap.size W w'))
  (C4:Aside0 (∀ W,Gl W→Calls Tryz.prog 18 #[.string livesY] W fun e w'=>∃ v1 v4:Value,e=.returned (.tuple #[.agg #[.string ⟨#[]⟩,v1,.string ⟨#[]⟩,.string ⟨#[]⟩,v4],.int .i64 20,.int .i64 27])∧Kd.R k48 48 w' W.heap.size (fun _=>True) v1 []∧Kd.R k50 50 w' W.heap.size (fun _=>True) v4 []∧Below W.heap.size W w'))
  (C5:Aside0 (∀ W A c A4 c4 B d B4 d4,Kd.C k48 W A livesC.length livesC→livesC.length≤c→Kd.C k50 W A4 livesG.length livesG→livesG.length≤c4→Kd.C k48 W B livesC.length livesC→livesC.length≤d→Kd.C k50 W B4 livesG.length livesG→livesG.length≤d4→Calls Tryz.prog 19 #[.agg #[.string ⟨#[114,101,110,116]⟩,.slice A livesC.length c,.string ⟨#[53,49]⟩,.string ⟨#[112]⟩,.slice A4 livesG.length c4],.agg #[.string ⟨#[114,101,110,116]⟩,.slice B livesC.length d,.string ⟨#[53,49]⟩,.string ⟨#[112]⟩,.slice B4 livesG.length d4]] W fun e w'=>e=.returned (.bool true)∧Below W.heap.size W w'))
  (C6:Aside0 (∀ W A c A4 c4,Kd.C k48 W A livesC.length livesC→livesC.length≤c→Kd.C k50 W A4 livesG.length livesG→livesG.length≤c4→Gl W→Calls Tryz.prog 12 #[.agg #[.string ⟨#[114,101,110,116]⟩,.slice A livesC.length c,.string ⟨#[53,49]⟩,.string ⟨#[112]⟩,.slice A4 livesG.length c4],.agg #[.int .i64 9,.int .i64 (-120),.string ⟨#[]⟩,.string ⟨#[116,104,101,32,114,101,110,116]⟩]] W fun e w'=>e=.returned (.bool true)∧Below W.heap.size W w'))
  (C7:Aside0 (∀ W A,Kd.C k25 W A 2 [z25,livesR]→Gl W→Calls Tryz.prog 14 #[.slice A 2 2,.agg #[.int .i64 9,.int .i64 (-120),.string ⟨#[]⟩,.string ⟨#[116,104,101,32,114,101,110,116]⟩]] W fun e w'=>e=.returned (.int .i64 1)∧Below W.heap.size W w')) :
  Calls Tryz.prog 11 #[] w fun e w'=>e=.returned (.bool true)∧Below w.heap.size w w':=by
 have HP:=sd (show ∀ W,Below w.heap.size w W→(fun (e:Ending) (w':World)=>e=.returned (.bool true)∧Below w.heap.size w w') (.returned (.bool true)) W from fun W hW=>⟨rfl,hW⟩);generalize (fun (e:Ending) (w':World)=>e=.returned (.bool true)∧Below w.heap.size w w')=Post at HP ⊢;have HG:=sd hG;have HB:=sd (Below.refl w.heap.size w);clear hG;go_enter Tryz.func11,Tryz.ntmps11
 go_wp2_with fail
 refine (C1.out _).mono ?_;rintro e W1 ⟨v1,v4,rfl,hR,hT,hb⟩;obtain ⟨A1,c1,rfl,hc1,hC1⟩:=Kd.R_reads hR;obtain ⟨A4,c4,rfl,hc4,hC4⟩:=Kd.R_reads hT;replace HB:=sd (HB.out.trans (hb.mono HB.out.size));have P1:=sd hC1;have P2:=sd hc1;have P3:=sd hC4;have P4:=sd hc4;clear hR hT hb hC1 hc1 hC4 hc4;go_wp2_with fail
 refine (C2.out _ _ _ _ _ P1.out P2.out P3.out P4.out (gl_below HG.out HB.out)).mono ?_;rintro e W2 ⟨rfl,hb⟩;replace HB:=sd (HB.out.trans (hb.mono HB.out.size));clear hb P1 P2 P3 P4;go_wp2_with fail
 refine (C3.out _ (gl_below HG.out HB.out)).mono ?_;rintro e W3 ⟨v1,v4,rfl,hR,hT,hb⟩;obtain ⟨A,c,rfl,hc1,hC1⟩:=Kd.R_reads hR;obtain ⟨A4',c4',rfl,hc4,hC4⟩:=Kd.R_reads hT;replace HB:=sd (HB.out.trans (hb.mono HB.out.size));have P1:=sd hC1;have P2:=sd hc1;have P3:=sd hC4;have P4:=sd hc4;clear hR hT hb hC1 hc1 hC4 hc4;go_upto_region 3 with (fail)
 have hbl:=below_alloc (Below.refl W3.heap.size W3) (.cells #[.string ⟨#[114,101,110,116]⟩,.slice A livesC.length c,.string ⟨#[53,49]⟩,.string ⟨#[112]⟩,.slice A4' livesG.length c4'] 25);have b3:=blk_new W3 (.cells #[.string ⟨#[114,101,110,116]⟩,.slice A livesC.length c,.string ⟨#[53,49]⟩,.string ⟨#[112]⟩,.slice A4' livesG.length c4'] 25);generalize W3.alloc (.cells #[.string ⟨#[114,101,110,116]⟩,.slice A livesC.length c,.string ⟨#[53,49]⟩,.string ⟨#[112]⟩,.slice A4' livesG.length c4'] 25)=W4 at *;obtain ⟨g3,hg3⟩:∃ g,g=W3.heap.size:=⟨_,rfl⟩
 rw [← hg3] at b3 ⊢;have B3:=sd b3;replace P1:=sd (Kd.C_below P1.out hbl);replace P3:=sd (Kd.C_below P3.out hbl);replace HB:=sd (HB.out.trans (hbl.mono HB.out.size));clear hbl b3 hg3;go_wp2_with fail
 refine (C4.out _ (gl_below HG.out HB.out)).mono ?_;rintro e W5 ⟨v1,v4,rfl,hR,hT,hb⟩;obtain ⟨B_,d_,rfl⟩:=Kd.R_slice hR;obtain ⟨B4_,d4_,rfl⟩:=Kd.R_slice hT;replace B3:=sd (blk_below B3.out hb);replace P1:=sd (Kd.C_below P1.out hb);replace P3:=sd (Kd.C_below P3.out hb);replace HB:=sd (HB.out.trans (hb.mono HB.out.size));clear hR hT hb;go_upto_region 5 with (fail)
 obtain ⟨W6,hW6⟩:∃ W,W=W5.alloc (.cells #[.string ⟨#[]⟩,.slice B_ 0 d_,.string ⟨#[]⟩,.string ⟨#[]⟩,.slice B4_ 0 d4_] 25):=⟨_,rfl⟩
 have hb1:Below W5.heap.size W5 W6:=by rw [hW6];exact below_alloc (Below.refl _ _) _
 have e1:W6.heap.size=W5.heap.size+1:=by rw [hW6];simp
 rw [← hW6];have hb2:=below_alloc (Below.refl W6.heap.size W6) (.cells #[.int .i64 9,.int .i64 (-120),.string ⟨#[]⟩,.string ⟨#[116,104,101,32,114,101,110,116]⟩] 32);have b9:=blk_new W6 (.cells #[.int .i64 9,.int .i64 (-120),.string ⟨#[]⟩,.string ⟨#[116,104,101,32,114,101,110,116]⟩] 32);rw [e1] at b9;have hbx:=hb1.trans (hb2.mono hb1.size);generalize W6.alloc (.cells #[.int .i64 9,.int .i64 (-120),.string ⟨#[]⟩,.string ⟨#[116,104,101,32,114,101,110,116]⟩] 32)=W7 at *;obtain ⟨g9,hg9⟩:∃ g,g=W5.heap.size+1:=⟨_,rfl⟩
 rw [show (⟨W5.heap.size+1,0,none⟩:Addr)=⟨g9,0,none⟩ by rw [hg9]];rw [← hg9] at b9;have B9:=sd b9;replace B3:=sd (blk_below B3.out hbx);replace P1:=sd (Kd.C_below P1.out hbx);replace P3:=sd (Kd.C_below P3.out hbx);replace HB:=sd (HB.out.trans (hbx.mono HB.out.size));clear hW6 hb1 e1 hb2 b9 hbx hg9;have hbx:=below_drew1 (Below.refl W7.heap.size W7);replace B3:=sd (blk_below B3.out hbx);replace B9:=sd (blk_below B9.out hbx);replace HB:=sd (HB.out.trans (hbx.mono HB.out.size));replace P1:=sd (Kd.C_below P1.out hbx);replace P3:=sd (Kd.C_below P3.out hbx);clear hbx;obtain ⟨k0,k1,k2,k3,k4,_⟩:=bk5 B3;obtain ⟨m0,m1,m2,m3,_⟩:=bk4 B9;refine start_ (n:=41) (S:=fun w'=>w'.cell? ⟨g3,0,none⟩=some (.string ⟨#[114,101,110,116]⟩)∧w'.cell? ⟨g3,1,none⟩=some (.slice A livesC.length c)∧w'.cell? ⟨g3,2,none⟩=some (.string ⟨#[53,49]⟩)∧w'.cell? ⟨g3,3,none⟩=some (.string ⟨#[112]⟩)∧w'.cell? ⟨g3,4,none⟩=some (.slice A4' livesG.length c4')∧w'.cell? ⟨g9,0,none⟩=some (.int .i64 9)∧w'.cell? ⟨g9,1,none⟩=some (.int .i64 (-120))∧w'.cell? ⟨g9,2,none⟩=some (.string ⟨#[]⟩)∧w'.cell? ⟨g9,3,none⟩=some (.string ⟨#[116,104,101,32,114,101,110,116]⟩)) (ds:=[]) #[false,false,false,false,false,false,false,false,false,false,false,false,false,false,false,false,false,false,false,false,false,false,false,false,false,false,false,false,false,false,false,false,false,false,false,false,false,false,false,false,false] (by kernel_rfl) rfl rfl ⟨k0,k1,k2,k3,k4,m0,m1,m2,m3⟩ (fun hHeld=>?_);clear k0 k1 k2 k3 k4 m0 m1 m2 m3;generalize W7.drew=W8 at *;refine pB 0 26 ?_;refine pure_ (i:=1) (N:=some 27) (v:=.bool true) (a':=?_) #[true,true,false,false,false,false,false,false,false,false,false,false,false,false,false,false,false,false,false,false,false,false,false,false,false,false,false,false,false,false,false,false,false,false,false,false,false,false,false,false,false] rfl rfl (by kernel_rfl) (fun _ _ _ h=>h) (.inl ⟨by rfl,by intro w';go_simp;exact livesX_L⟩) ?_ ?_;rotate_left
 ·simp only [Act.put,List.setIfInBounds_toArray,List.set_cons_zero,List.set_cons_succ,i64_w,i32_w]
  rfl
 refine pB 2 28 ?_;refine pB 3 29 ?_;refine pB 4 30 ?_;refine pB 5 31 ?_;refine pB 6 32 ?_;refine tB 7 33 hHeld ?_;refine one_ (i:=8) (N:=some 34) #[true,true,true,true,true,true,true,true,true,false,false,false,false,false,false,false,false,false,false,false,false,false,false,false,false,false,false,false,false,false,false,false,false,false,false,false,false,false,false,false,false] rfl rfl (by kernel_rfl) (by decide) (fun K hK=>?_);refine goes_ Tryz.func27 (by kernel_rfl) rfl #[] (by rfl) rfl rfl zq30 ?_;refine (C1.out _).mono ?_;rintro e W9 ⟨v1,v4,rfl,hR,hT,hb⟩;obtain ⟨F1,Fc1,rfl,hc1,hC1⟩:=Kd.R_reads hR;obtain ⟨F4,Fc4,rfl,hc4,hC4⟩:=Kd.R_reads hT;have Q1:=sd hC1;have Q2:=sd hc1;have Q3:=sd hC4;have Q4:=sd hc4;clear hR hT hC1 hc1 hC4 hc4;refine ⟨_,rfl,?_⟩;replace B3:=sd (blk_below B3.out hb);replace B9:=sd (blk_below B9.out hb);replace HB:=sd (HB.out.trans (hb.mono HB.out.size));replace P1:=sd (Kd.C_below P1.out hb);replace P3:=sd (Kd.C_below P3.out hb);clear hb hHeld;obtain ⟨k0,k1,k2,k3,k4,_⟩:=bk5 B3;obtain ⟨m0,m1,m2,m3,_⟩:=bk4 B9;refine hK.out _ _ ⟨k0,k1,k2,k3,k4,m0,m1,m2,m3⟩ (fun hHeld=>?_);clear hK K k0 k1 k2 k3 k4 m0 m1 m2 m3;refine nA 34 ?_;refine one_ (i:=9) (N:=some 35) #[true,true,true,true,true,true,true,true,true,true,false,false,false,false,false,false,false,false,false,false,false,false,false,false,false,false,false,false,false,false,false,false,false,false,false,false,false,false,false,false,false] rfl rfl (by kernel_rfl) (by decide) (fun K hK=>?_);refine goes_ Tryz.func19 (by kernel_rfl) rfl #[.agg #[.string ⟨#[114,101,110,116]⟩,.slice A livesC.length c,.string ⟨#[53,49]⟩,.string ⟨#[112]⟩,.slice A4' livesG.length c4'],.agg #[.string ⟨#[114,101,110,116]⟩,.slice F1 livesC.length Fc1,.string ⟨#[53,49]⟩,.string ⟨#[112]⟩,.slice F4 livesG.length Fc4]] (by rfl) rfl rfl zq30 ?_;refine (C5.out _ _ _ _ _ _ _ _ _ P1.out P2.out P3.out P4.out Q1.out Q2.out Q3.out Q4.out).mono ?_;rintro e W10 ⟨rfl,hb⟩;refine ⟨_,rfl,?_⟩;replace B3:=sd (blk_below B3.out hb);replace B9:=sd (blk_below B9.out hb);replace HB:=sd (HB.out.trans (hb.mono HB.out.size));clear hb hHeld;obtain ⟨k0,k1,k2,k3,k4,_⟩:=bk5 B3;obtain ⟨m0,m1,m2,m3,_⟩:=bk4 B9;refine hK.out _ _ ⟨k0,k1,k2,k3,k4,m0,m1,m2,m3⟩ (fun hHeld=>?_);clear hK K k0 k1 k2 k3 k4 m0 m1 m2 m3;refine nA 35 ?_;clear P1 P2 P3 P4 Q1 Q2 Q3 Q4;refine pB 10 36 ?_;refine pB 11 37 ?_;refine pB 12 38 ?_;refine pB 13 39 ?_;refine pB 14 40 ?_;refine pB 15 41 ?_;refine pB 16 42 ?_;refine pB 17 43 ?_;refine pB 18 44 ?_;refine pB 19 45 ?_;refine pB 20 46 ?_;refine pB 21 47 ?_;refine pB 22 48 ?_;refine pB 23 49 ?_;refine pB 24 50 ?_;refine pB 25 51 ?_;refine pB 26 52 ?_;refine pB 27 53 ?_;refine tB 29 55 hHeld ?_;refine one_ (i:=28) (N:=some 54) #[true,true,true,true,true,true,true,true,true,true,true,true,true,true,true,true,true,true,true,true,true,true,true,true,true,true,true,true,true,true,false,false,false,false,false,false,false,false,false,false,false] rfl rfl (by kernel_rfl) (by decide) (fun K hK=>?_);refine goes_ Tryz.func27 (by kernel_rfl) rfl #[] (by rfl) rfl rfl zq30 ?_;refine (C1.out _).mono ?_;rintro e W11 ⟨v1,v4,rfl,hR,hT,hb⟩;obtain ⟨F1,Fc1,rfl,hc1,hC1⟩:=Kd.R_reads hR;obtain ⟨F4,Fc4,rfl,hc4,hC4⟩:=Kd.R_reads hT;have P1:=sd hC1;have P2:=sd hc1;have P3:=sd hC4;have P4:=sd hc4;clear hR hT hC1 hc1 hC4 hc4;refine ⟨_,rfl,?_⟩;replace B3:=sd (blk_below B3.out hb);replace B9:=sd (blk_below B9.out hb);replace HB:=sd (HB.out.trans (hb.mono HB.out.size));clear hb hHeld;obtain ⟨k0,k1,k2,k3,k4,_⟩:=bk5 B3;obtain ⟨m0,m1,m2,m3,_⟩:=bk4 B9;refine hK.out _ _ ⟨k0,k1,k2,k3,k4,m0,m1,m2,m3⟩ (fun hHeld=>?_);clear hK K k0 k1 k2 k3 k4 m0 m1 m2 m3;refine nA 54 ?_;refine one_ (i:=30) (N:=some 56) #[true,true,true,true,true,true,true,true,true,true,true,true,true,true,true,true,true,true,true,true,true,true,true,true,true,true,true,true,true,true,true,false,false,false,false,false,false,false,false,false,false] rfl rfl (by kernel_rfl) (by decide) (fun K hK=>?_);refine goes_ Tryz.func12 (by kernel_rfl) rfl #[.agg #[.string ⟨#[114,101,110,116]⟩,.slice F1 livesC.length Fc1,.string ⟨#[53,49]⟩,.string ⟨#[112]⟩,.slice F4 livesG.length Fc4],.agg #[.int .i64 9,.int .i64 (-120),.string ⟨#[]⟩,.string ⟨#[116,104,101,32,114,101,110,116]⟩]] (by rfl) rfl rfl zq30 ?_;refine (C6.out _ _ _ _ _ P1.out P2.out P3.out P4.out (gl_below HG.out HB.out)).mono ?_;rintro e W12 ⟨rfl,hb⟩;refine ⟨_,rfl,?_⟩;replace B3:=sd (blk_below B3.out hb);replace B9:=sd (blk_below B9.out hb);replace HB:=sd (HB.out.trans (hb.mono HB.out.size));clear hb hHeld;obtain ⟨k0,k1,k2,k3,k4,_⟩:=bk5 B3;obtain ⟨m0,m1,m2,m3,_⟩:=bk4 B9;refine hK.out _ _ ⟨k0,k1,k2,k3,k4,m0,m1,m2,m3⟩ (fun hHeld=>?_);clear hK K k0 k1 k2 k3 k4 m0 m1 m2 m3;refine nA 56 ?_;clear P1 P2 P3 P4;refine pB 31 57 ?_;refine pB 32 58 ?_;refine pB 33 59 ?_;refine tB 36 62 hHeld ?_;refine one_ (i:=34) (N:=some 60) #[true,true,true,true,true,true,true,true,true,true,true,true,true,true,true,true,true,true,true,true,true,true,true,true,true,true,true,true,true,true,true,true,true,true,true,false,true,false,false,false,false] rfl rfl (by kernel_rfl) (by decide) (fun K hK=>?_);refine goes_ Tryz.func27 (by kernel_rfl) rfl #[] (by rfl) rfl rfl zq30 ?_;refine (C1.out _).mono ?_;rintro e W13 ⟨v1,v4,rfl,hR,hT,hb⟩;obtain ⟨F1,Fc1,rfl,hc1,hC1⟩:=Kd.R_reads hR;obtain ⟨F4,Fc4,rfl,hc4,hC4⟩:=Kd.R_reads hT;have P1:=sd hC1;have P2:=sd hc1;have P3:=sd hC4;have P4:=sd hc4;clear hR hT hC1 hc1 hC4 hc4;refine ⟨_,rfl,?_⟩;replace B3:=sd (blk_below B3.out hb);replace B9:=sd (blk_below B9.out hb);replace HB:=sd (HB.out.trans (hb.mono HB.out.size));clear hb hHeld;obtain ⟨k0,k1,k2,k3,k4,_⟩:=bk5 B3;obtain ⟨m0,m1,m2,m3,_⟩:=bk4 B9;refine hK.out _ _ ⟨k0,k1,k2,k3,k4,m0,m1,m2,m3⟩ (fun hHeld=>?_);clear hK K k0 k1 k2 k3 k4 m0 m1 m2 m3;refine nA 60 ?_;have T2:=sd (two25 W13 livesR P2.out P1.out P4.out P3.out);refine one_ (i:=35) (N:=some 61) #[true,true,true,true,true,true,true,true,true,true,true,true,true,true,true,true,true,true,true,true,true,true,true,true,true,true,true,true,true,true,true,true,true,true,true,true,true,false,false,false,false] rfl rfl (by kernel_rfl) (by decide) (fun K hK=>?_);refine value_ (v:=.slice (some ⟨W13.heap.size,0,none⟩) 2 2) (w1:=W13.alloc (.cells #[.string ⟨#[]⟩,.slice none 0 0,.string ⟨#[]⟩,.string ⟨#[]⟩,.slice none 0 0,.string ⟨#[114,101,110,116]⟩,.slice F1 livesC.length Fc1,.string ⟨#[53,49]⟩,.string ⟨#[112]⟩,.slice F4 livesG.length Fc4] 25)) (by rfl) rfl (by go_simp) ?_;have hb:=below_alloc (Below.refl W13.heap.size W13) (.cells #[.string ⟨#[]⟩,.slice none 0 0,.string ⟨#[]⟩,.string ⟨#[]⟩,.slice none 0 0,.string ⟨#[114,101,110,116]⟩,.slice F1 livesC.length Fc1,.string ⟨#[53,49]⟩,.string ⟨#[112]⟩,.slice F4 livesG.length Fc4] 25);replace B3:=sd (blk_below B3.out hb);replace B9:=sd (blk_below B9.out hb);replace HB:=sd (HB.out.trans (hb.mono HB.out.size));clear hb hHeld P1 P2 P3 P4;obtain ⟨k0,k1,k2,k3,k4,_⟩:=bk5 B3;obtain ⟨m0,m1,m2,m3,_⟩:=bk4 B9;refine hK.out _ _ ⟨k0,k1,k2,k3,k4,m0,m1,m2,m3⟩ (fun hHeld=>?_);clear hK K k0 k1 k2 k3 k4 m0 m1 m2 m3;refine nA 61 ?_;refine one_ (i:=37) (N:=some 63) #[true,true,true,true,true,true,true,true,true,true,true,true,true,true,true,true,true,true,true,true,true,true,true,true,true,true,true,true,true,true,true,true,true,true,true,true,true,true,false,false,false] rfl rfl (by kernel_rfl) (by decide) (fun K hK=>?_);refine goes_ Tryz.func14 (by kernel_rfl) rfl #[.slice (some ⟨W13.heap.size,0,none⟩) 2 2,.agg #[.int .i64 9,.int .i64 (-120),.string ⟨#[]⟩,.string ⟨#[116,104,101,32,114,101,110,116]⟩]] (by rfl) rfl rfl zq30 ?_;refine (C7.out _ _ T2.out (gl_below HG.out HB.out)).mono ?_;rintro e W14 ⟨rfl,hb⟩;refine ⟨_,rfl,?_⟩;replace B3:=sd (blk_below B3.out hb);replace B9:=sd (blk_below B9.out hb);replace HB:=sd (HB.out.trans (hb.mono HB.out.size));clear hb hHeld;obtain ⟨k0,k1,k2,k3,k4,_⟩:=bk5 B3;obtain ⟨m0,m1,m2,m3,_⟩:=bk4 B9;refine hK.out _ _ ⟨k0,k1,k2,k3,k4,m0,m1,m2,m3⟩ (fun hHeld=>?_);clear hK K k0 k1 k2 k3 k4 m0 m1 m2 m3;refine nA 63 ?_;refine pB 38 64 ?_;refine pB 39 65 ?_;refine pB 40 0 ?_;refine done_ (by kernel_rfl) ?_;go_wp2_with fail
 exact HP.out _ HB.out
theorem IsS82.new (w0 W:World) (A0:Option Addr) (c0:Nat) (f0:List (S73)) (f1:Int) (f2:Bool) (hB:Below w0.heap.size w0 W) (hr0:Kd.C k73 w0 A0 f0.length f0):IsS82 w0 (W.alloc (.cells #[.slice A0 f0.length c0,.int .i64 f1,.bool f2] 82)) W.heap.size f0 f1 f2:=⟨A0,c0,by simpa using heap_alloc_new W _,hB.size,hr0⟩
def z87:S87:=⟨(0:Int),(⟨#[]⟩:ByteArray),(0:Int)⟩
theorem k87_open {w:World} {x:S87} {cs:List Value} (h:k87.K w x cs):cs=[.int .i64 x.f0,.string x.f1,.int .i64 x.f2]:=by
  obtain ⟨_,_,rfl,rfl,⟨_,_,rfl,rfl,rfl⟩⟩:=h;exact rfl
def rd_T87 (xs:List S87) (i:Int):S87:=xs.getD i.toNat z87
theorem at_T87 {w:World} {A:Option Addr} {n:Nat} {xs:List S87} (h:Kd.C k87 w A n xs) (i:Int) (h0:0≤i) (h1:i < n):∃ ad ,A=some ad∧w.cell? (ad.add (i.toNat * 3))=some (.int .i64 (rd_T87 xs i).f0)∧w.cell? ⟨(ad.add (i.toNat * 3)).block,(ad.add (i.toNat * 3)).off+1,none⟩=some (.string (rd_T87 xs i).f1)∧w.cell? ⟨(ad.add (i.toNat * 3)).block,(ad.add (i.toNat * 3)).off+2,none⟩=some (.int .i64 (rd_T87 xs i).f2):=by
  obtain ⟨ad,c,e,_,hK,hc0⟩:=Kd.C_get h z87 i h0 h1;have hc:∀ j u,c[j]?=some u→w.cell? (ad.add (i.toNat * 3+j))=some u:=hc0;obtain rfl:=k87_open hK;exact ⟨ad,e,hc 0 _ rfl,by rw [← add_field _ _ 1 (by omega)];exact hc 1 _ rfl,by rw [← add_field _ _ 2 (by omega)];exact hc 2 _ rfl⟩
def r48_vals (k:Nat):List S87→List S48→Option (List S48×Int×Int)
|[],cs=>some (cs,0,0)
|x :: r,cs=>if 0≤x.f0∧x.f0 < (cs.length:Int) then (rf48_number.f (rd_T48 cs x.f0).f0).bind fun b=>if b=true then (rf01_Parse.f k x.f1 (-1000000000000) 1000000000000).bind fun q=>(r48_n k (rd_T48 cs x.f0).f0 x.f1 q).bind fun n =>
   if n.2=0 then r48_vals k r (cs.set x.f0.toNat { rd_T48 cs x.f0 with f3:=n.1 }) else some (cs,x.f2,n.2) else r48_vals k r cs else none
def r48_fail (s:ByteArray) (l:List S73) (at_:Int):Option RRes:=if at_ < (l.length:Int) then (if 0≤at_ then some (noR (rd_T73 l at_).f2 27) else none) else some (noR (s.size:Int) 27)
def r48_end (k:Nat) (nm:ByteArray) (acc par:ByteArray) (tg:List S50) (v:List S48×Int×Int):Option RRes :=
 if v.2.2=0 then (rf48_Check.f k nm v.1 acc par tg).bind fun e=>if e=0 then some (nm,v.1,acc,par,tg,0,0) else some (noR 0 e) else some (noR v.2.1 v.2.2)
structure RQ (w wr:World) (g2 g9:Nat) (nm:ByteArray) (cs:List S48) (acc par:ByteArray) (tg:List S50) (vs:List S87) (vC vT vV:Value):Prop where
 hB:Below w.heap.size w wr
 b9:wr.heap[g9]?=some (.cells #[.string nm,vC,.string acc,.string par,vT] 25 (0,0))
 b2:wr.heap[g2]?=some (.cells #[Value.string ⟨#[]⟩,.slice none 0 0,.string ⟨#[]⟩,.string ⟨#[]⟩,.slice none 0 0] 25 (0,0))
 rC:Kd.R k48 48 wr w.heap.size (fun _=>True) vC cs
 rT:Kd.R k50 50 wr w.heap.size (fun _=>True) vT tg
 rV:Kd.R k87 87 wr w.heap.size (fun _=>True) vV vs
 e2:w.heap.size≤g2
theorem RQ.below {w wr w1:World} {g2 g9:Nat} {nm:ByteArray} {cs:List S48} {acc par:ByteArray} {tg:List S50} {vs:List S87} {vC vT vV:Value} (h:RQ w wr g2 g9 nm cs acc par tg vs vC vT vV) (hb:Below wr.heap.size wr w1):RQ w w1 g2 g9 nm cs acc par tg vs vC vT vV :=
 ⟨h.hB.trans (hb.mono h.hB.size),blk_below h.b9 hb,blk_below h.b2 hb,Kd.R_below h.rC hb,Kd.R_below h.rT hb,Kd.R_below h.rV hb,h.e2⟩
theorem RQ.elem {w wr:World} {g2 g9 gc cap n m:Nat} {nm:ByteArray} {cs:List S48} {acc par:ByteArray} {tg:List S50} {vs:List S87} {vT vV:Value} {c:S48} (h:RQ w wr g2 g9 nm cs acc par tg vs (.slice (some ⟨gc,0,none⟩) n cap) vT vV) (hm:m < cs.length) (hc:rd_T48 cs (m:Int)=c) (u:Int) :
  RQ w (wr.setCell ⟨gc,m * 4+3,none⟩ (.int .i64 u)) g2 g9 nm (cs.set m { c with f3:=u }) acc par tg vs (.slice (some ⟨gc,0,none⟩) n cap) vT vV:=by
 have hrC:=h.rC;have hn:=(Kd.R_reads' hrC).1;obtain ⟨cc,hcl,hM,hcc,_⟩:=Kd.R_elem hrC z48 (m:Int) (by omega) (by omega)
 have hce:cc=[Value.int .i64 c.f0,.int .i64 c.f1,.string c.f2,.int .i64 c.f3]:=by
  have:=k48_openM hM;rw [this,← hc];rfl
 obtain ⟨h1,h2⟩:=Kd.R_seg (seg:=[Value.int .i64 u]) (j:=3) (x':={ c with f3:=u }) (okp:=fun _=>False) hrC (m:Int) (by omega) (by omega) hcl hcc (by show 3+1≤4;omega) (by rw [hce];exact k48_mkM _ _ _ { c with f3:=u }) (fun _ hk=>hk.elim);have e1:wr.setCells gc (((m:Int).toNat) * k48.sz+3) [Value.int .i64 u]=wr.setCell ⟨gc,m * 4+3,none⟩ (.int .i64 u):=rfl;rw [e1] at h1 h2;have hne9:g9≠gc:=fun e=>Kd.R_ne hrC h.b9 (by decide) (by rw [e];rfl)
 have hne2:g2≠gc:=fun e=>Kd.R_ne hrC h.b2 (by decide) (by rw [e];rfl)
 exact ⟨below_setN h.hB (Kd.R_base hrC gc rfl) _,blk_far (p:=⟨gc,m * 4+3,none⟩) h.b9 hne9 _,blk_far (p:=⟨gc,m * 4+3,none⟩) h.b2 hne2 _,h1,Kd.R_over h.rT hrC (by decide) h2,Kd.R_over h.rV hrC (by decide) h2,h.e2⟩
theorem z_cell (w:World) (gr:Nat) (a:Addr) (h:a.block≠gr):(((((w.setCell ⟨gr,0,none⟩ (.string (⟨#[]⟩:ByteArray))).setCell ⟨gr,1,none⟩ (.slice none 0 0)).setCell ⟨gr,2,none⟩ (.string (⟨#[]⟩:ByteArray))).setCell ⟨gr,3,none⟩ (.string (⟨#[]⟩:ByteArray))).setCell ⟨gr,4,none⟩ (.slice none 0 0)).cell? a=w.cell? a:=World.cell?_of_block (a:=a) (z_keep w gr a.block h)
end A
namespace A
open Go.RowKit B WW WL WM
theorem ref01_Add (a b:Int) (ha:I64 a) (hb:I64 b):rf01_Add.f a b=some (fit (a+b)):=by
  unfold rf01_Add.f;unfold I64 at ha hb;by_cases h1:b > 0
  · rw [if_pos h1]
    have e:wrap64 (9223372036854775807 - b)=9223372036854775807 - b:=by unfold wrap64;omega
    rw [e];by_cases h2:a > 9223372036854775807 - b
    · rw [if_pos h2,fit_no (by unfold I64;omega)]
    · rw [if_neg h2,if_neg (by omega),fit_yes (by unfold I64;omega)]
      congr 2;unfold wrap64;omega
  · rw [if_neg h1]
    by_cases h3:b < 0
    · rw [if_pos h3]
      have e:wrap64 ((-9223372036854775808) - b)=(-9223372036854775808) - b:=by unfold wrap64;omega
      rw [e];by_cases h2:a < (-9223372036854775808) - b
      · rw [if_pos h2,fit_no (by unfold I64;omega)]
      · rw [if_neg h2,fit_yes (by unfold I64;omega)]
        congr 2;unfold wrap64;omega
    · rw [if_neg h3,fit_yes (by unfold I64;omega)]
      congr 2;unfold wrap64;omega
theorem ref01_size (a:Int) (ha:I64 a):rf01_size.f a=some (a.natAbs:Int):=by
  unfold rf01_size.f;unfold I64 at ha;simp only [wu64]
  by_cases h:a < 0
  · rw [if_pos h];congr 1;omega
  · rw [if_neg h];congr 1;omega
theorem ref01_Mul_sign (a b:Int) (ha:I64 a) (hb:I64 b) (s:Bool) (hs:s=true ↔ (a < 0∧b > 0∨a > 0∧b < 0)):Ev (fun k=>rf01_Mul.j0 k (a.natAbs:Int) (b.natAbs:Int) s) (fit (a * b)):=by
  unfold I64 at ha hb;have hp:=natAbs_mul' a b
  have hsg:(s=true→a * b≤0)∧(s=false→0≤a * b):=by
    constructor
    · intro h
      rcases hs.mp h with ⟨h1,h2⟩|⟨h1,h2⟩
      · exact Int.mul_nonpos_of_nonpos_of_nonneg (by omega) (by omega)
      · exact Int.mul_nonpos_of_nonneg_of_nonpos (by omega) (by omega)
    · intro h
      have hn:¬ (a < 0∧b > 0∨a > 0∧b < 0):=by rw [← hs,h];decide
      rcases Int.lt_trichotomy a 0 with h1|h1|h1
      · exact Int.mul_nonneg_of_nonpos_of_nonpos (by omega) (by omega)
      · rw [h1];simp
      · exact Int.mul_nonneg (by omega) (by omega)
  obtain ⟨x,hx⟩:∃ x:Nat,x=a.natAbs:=⟨_,rfl⟩
  obtain ⟨y,hy⟩:∃ y:Nat,y=b.natAbs:=⟨_,rfl⟩
  rw [← hx,← hy] at hp ⊢;have hxb:x≤9223372036854775808:=by omega
  have hyb:y≤9223372036854775808:=by omega
  have last:∀ L:Nat,L≤9223372036854775808→(s=true→L=9223372036854775808)→(s=false→L=9223372036854775807) →
      Ev (fun k=>rf01_Mul.j1 k (x:Int) (y:Int) s (L:Int)) (fit (a * b)):=by
    intro L hL hL1 hL2
    have fin:∀ t:Bool,(t=true ↔ ¬ x * y≤L)→Ev (fun k=>rf01_Mul.j2 k (x:Int) (y:Int) s t) (fit (a * b)):=by
      intro t ht;refine Ev.step (fun k=>by rw [rf01_Mul.j2]) ?_;refine Ev.both (fun h=>Ev.is ?_) (fun h=>?_)
      · have h2:=ht.mp h
        rw [fit_no];unfold I64
        cases s
        · have:=hsg.2 rfl;have:=hL2 rfl;omega
        · have:=hsg.1 rfl;have:=hL1 rfl;omega
      · have h2:x * y≤L:=by
          rcases Nat.lt_or_ge L (x * y) with h3|h3
          · exact absurd (ht.mpr (by omega)) h
          · exact h3
        have e1:IntKind.u64.wrap ((x:Int) * (y:Int))=((x * y:Nat):Int):=by rw [wu64,← Int.natCast_mul];omega
        rw [e1];generalize x * y=p at *
        cases s
        · have h3:=of_natAbs_nonneg hp (hsg.2 rfl)
          have h4:=hL2 rfl;refine Ev.no (by decide) (Ev.is ?_);have hI:I64 (p:Int):=⟨by omega,by omega⟩
          rw [wrap64_in hI,← h3,fit_yes hI]
        · have h3:=of_natAbs_nonpos hp (hsg.1 rfl)
          have h4:=hL1 rfl;refine Ev.yes rfl (Ev.is ?_);rw [wrap64_neg_wrap p (by omega) (by omega),h3,fit_yes (by rw [← h3];exact ⟨by omega,by omega⟩)]
    refine Ev.step (fun k=>by rw [rf01_Mul.j1]) ?_;refine Ev.both (fun h=>?_) (fun h=>?_)
    · refine Ev.no (by omega) ?_
      have e2:=div_wrap L y hL;rw [e2];refine fin _ ?_;rw [decide_eq_true_iff];have key:x≤L / y ↔ x * y≤L:=Nat.le_div_iff_mul_le (by omega);rw [← key];omega
    · have hy0:y=0:=by omega
      refine fin false ?_;simp [hy0]
  refine Ev.step (fun k=>by rw [rf01_Mul.j0]) ?_;refine Ev.both (fun h=>?_) (fun h=>?_)
  · exact last 9223372036854775808 (by omega) (fun _=>rfl) (fun h2=>by rw [h2] at h;cases h)
  · rw [Bool.not_eq_true] at h
    exact last 9223372036854775807 (by omega) (fun h2=>by rw [h2] at h;cases h) (fun _=>rfl)
theorem ref01_Mul (a b:Int) (ha:I64 a) (hb:I64 b):Ev (fun k=>rf01_Mul.f k a b) (fit (a * b)):=by
  have key:=ref01_Mul_sign a b ha hb;unfold rf01_Mul.f;rw [ref01_size a ha,ref01_size b hb];simp only [Option.bind_some]
  refine Ev.both (fun h1=>Ev.both (fun h2=>key true (by simp;omega)) (fun h2=>Ev.both (fun h3=>by omega) (fun h3=>key false (by simp;omega)))) (fun h1=>Ev.both (fun h2=>key _ (by rw [decide_eq_true_iff];omega)) (fun h2=>key false (by simp;omega)))
theorem ref01_Parse_l0 (lo hi:Int) (m:ByteArray) (hs:m.size≤140737488351232) (neg:Bool) (hall:m.data.toList.all isDig=true) (d:Nat):∀ (i:Nat) (n:Int),i+d=m.size→I64 n→n=sgn neg (dval (m.data.toList.take i)) →
    Ev (fun k=>rf01_Parse.l0 k lo hi m neg n (i:Int)) (if I64 (sgn neg (dval m.data.toList))∧lo≤sgn neg (dval m.data.toList)∧sgn neg (dval m.data.toList)≤hi then (sgn neg (dval m.data.toList),0) else (0,3)):=by
  induction d with
 |zero =>
    intro i n hi hn he;rw [List.take_of_length_le (by rw [← size_eq'];omega)] at he;rw [← he];refine Ev.step (fun k=>by rw [rf01_Parse.l0]) ?_;refine Ev.no (by omega) (Ev.both (fun h=>Ev.is ?_) (fun h=>Ev.both (fun h2=>Ev.is ?_) (fun h2=>Ev.is ?_)))
    · rw [if_neg (fun hh=>by omega)]
    · rw [if_neg (fun hh=>by omega)]
    · rw [if_pos ⟨hn,by omega,by omega⟩]
 |succ d ih =>
    intro i n hi hn he;have hl:i < m.data.toList.length:=by rw [← size_eq'];omega
    have hb:bt m (i:Int)=(m.data.toList[i].toNat:Int):=by rw [bt_eq,Int.toNat_natCast,List.getD_eq_getElem?_getD,List.getElem?_eq_getElem hl];rfl
    have hdig:=(isDig_iff _).mp (List.all_eq_true.mp hall _ (List.getElem_mem hl));have hmod:(bt m (i:Int) - 48) % 256=((m.data.toList[i].toNat:Int) - 48):=by rw [hb];omega
    have hw:wrap64 ((i:Int)+1)=((i+1:Nat):Int):=by unfold wrap64;omega
    have hP:PInv neg m.data.toList i n true:=.inl ⟨rfl,he,hn⟩;refine Ev.step (fun k=>by rw [rf01_Parse.l0]) ?_;refine Ev.yes (by omega) ?_;refine Ev.bind (ref01_Mul n 10 hn (by unfold I64;omega)) ?_;by_cases hm:I64 (n * 10)
    · rw [fit_yes hm]
      refine Ev.yes rfl (Ev.yes (by omega) ?_);rw [hmod,hw]
      cases neg
      · refine Ev.no (by decide) ?_
        simp only [ref01_Add (n * 10) _ hm (show I64 ((m.data.toList[i].toNat:Int) - 48) by unfold I64;omega),Option.bind_some]
        have hN:=PInv.next hP hl (List.all_eq_true.mp hall _ (List.getElem_mem hl)) (x:=n * 10+((m.data.toList[i].toNat:Int) - 48)) rfl;rcases hN with ⟨h1,h2,h3⟩|⟨h1,h2,h3⟩
        · rw [h1]
          exact Ev.yes rfl (ih (i+1) _ (by omega) h3 h2)
        · rw [h1]
          refine Ev.no (by decide) (Ev.is ?_);rw [if_neg];intro hh;have:=sgn_big_append false (m.data.toList.take (i+1)) (m.data.toList.drop (i+1)) h3;rw [List.take_append_drop] at this;exact this hh.1
      · refine Ev.yes rfl ?_
        simp only [ref01_Add (n * 10) _ hm (show I64 (-((m.data.toList[i].toNat:Int) - 48)) by unfold I64;omega),Option.bind_some]
        have hN:=PInv.next hP hl (List.all_eq_true.mp hall _ (List.getElem_mem hl)) (x:=n * 10 + -((m.data.toList[i].toNat:Int) - 48)) (by rw [← Int.sub_eq_add_neg];rfl);rcases hN with ⟨h1,h2,h3⟩|⟨h1,h2,h3⟩
        · rw [h1]
          exact Ev.yes rfl (ih (i+1) _ (by omega) h3 h2)
        · rw [h1]
          refine Ev.no (by decide) (Ev.is ?_);rw [if_neg];intro hh;have:=sgn_big_append true (m.data.toList.take (i+1)) (m.data.toList.drop (i+1)) h3;rw [List.take_append_drop] at this;exact this hh.1
    · rw [fit_no hm]
      refine Ev.no (by decide) (Ev.is ?_);have h3:=PInv.over hP hl hm;rw [if_neg];intro hh;exact h3.stop hh.1
theorem befN_succ (j:Nat):befN (j+1)=befN j+365+(if leapN (1900+j)=true then 1 else 0):=by
  unfold befN leapN;by_cases a:(1900+j) % 4=0
  · by_cases b:(1900+j) % 100=0
    · by_cases c:(1900+j) % 400=0
      · rw [if_pos (by simp [a,b,c])];omega
      · rw [if_neg (by simp [a,b,c])];omega
    · have c:¬ (1900+j) % 400=0:=by omega
      rw [if_pos (by simp [a,b,c])];omega
  · have b:¬ (1900+j) % 100=0:=by omega
    have c:¬ (1900+j) % 400=0:=by omega
    rw [if_neg (by simp [a,b,c])];omega
theorem befN_first (j:Nat):befN j=first (12 * j):=by
  induction j with
 |zero=>rfl
 |succ j ih=>rw [befN_succ,first_year,ih]
theorem first_end:first 3600=109573:=by
  have:=befN_first 300;rw [show 12 * 300=3600 from rfl] at this;rw [← this];rfl
theorem first_at {K:Nat} (h:K≤3600):first K≤109573:=by rw [← first_end];exact first_le h
theorem days_Leap_eq (y:Nat):days_Leap.f (y:Int)=some (leapN y):=by
  unfold days_Leap.f leapN;rw [show Int.tmod (y:Int) 4=((y % 4:Nat):Int) from rfl,show Int.tmod (y:Int) 100=((y % 100:Nat):Int) from rfl,show Int.tmod (y:Int) 400=((y % 400:Nat):Int) from rfl]
  have e:(((y % 400:Nat):Int) == 0)=decide (y % 400=0):=by
    by_cases c:y % 400=0
    · rw [c];rfl
    · rw [decide_eq_false c,beq_eq_false_iff_ne];omega
  rw [e];by_cases a:y % 4=0
  · rw [if_pos (by omega),decide_eq_true a,Bool.true_and]
    by_cases b:y % 100=0
    · have c:=e
      rw [if_pos (by omega),decide_eq_false (show ¬ y % 100≠0 by omega),Bool.false_or]
    · have c:¬ y % 400=0:=by omega
      rw [if_neg (by omega),decide_eq_true (show y % 100≠0 by omega),Bool.true_or]
  · rw [if_neg (by omega),decide_eq_false a,Bool.false_and,Bool.false_or]
theorem ref04_Leap_eq (y:Nat):rf04_Leap.f (y:Int)=some (leapN y):=days_Leap_eq y
theorem days_Length_eq (j m:Nat) (h:m < 12):days_Length.f ((1900+j:Nat):Int) (((m+1:Nat)):Int)=some (lenYM j m):=by
  unfold days_Length.f lenYM;rw [if_neg (by omega)];by_cases c:m=1
  · subst c
    rw [if_pos (by rfl),if_pos rfl,days_Leap_eq];rfl
  · rw [if_neg (by omega),if_neg c,show ((((m+1:Nat):Int) - 1).toNat)=m by omega,monLen_eq m h]
theorem ref04_Length_ev (j m:Nat) (h:m < 12):Ev (fun k=>rf04_Length.f k ((1900+j:Nat):Int) (((m+1:Nat)):Int)) (lenYM j m):=by
  unfold rf04_Length.f;refine Ev.no (by omega) ?_;rw [decide_eq_false (by omega)];refine Ev.step (fun k=>by rw [rf04_Length.j0]) (Ev.no (by decide) ?_);have e:wrap64 (((m+1:Nat):Int) - 1)=(m:Int):=by unfold wrap64;omega
  refine Ev.both (fun c=>?_) (fun c=>?_)
  · have c':m=1:=by omega
    subst c';unfold lenYM;rw [if_pos rfl];rw [ref04_Leap_eq];show Ev (fun k=>if leapN (1900+j)=true then some 29 else _) _
    refine Ev.both (fun b=>?_) (fun b=>?_)
    · rw [if_pos b];exact Ev.is rfl
    · rw [if_neg b,e]
      show Ev (fun _=>if (0:Int)≤((1:Nat):Int) then (if ((1:Nat):Int) < 12 then some (rd [31,28,31,30,31,30,31,31,30,31,30,31] ((1:Nat):Int)) else none) else none) _
      exact Ev.yes (by omega) (Ev.yes (by omega) (Ev.is rfl))
  · have hv:lenYM j m=monN m:=by unfold lenYM;rw [if_neg (by omega)]
    rw [e,hv];show Ev (fun _=>if (0:Int)≤(m:Int) then (if (m:Int) < 12 then some (rd [31,28,31,30,31,30,31,31,30,31,30,31] (m:Int)) else none) else none) _
    refine Ev.yes (by omega) (Ev.yes (by omega) (Ev.is ?_));unfold rd monN;rw [Int.toNat_natCast]
theorem days_Of_loop (j M:Nat) (x z:Int) (hj:j < 300) (hM:M < 12) (hx:0≤x) (hx':x≤31):∀ d m:Nat,m+d=M→Ev (fun k=>days_Of.l0 k (first (12 * j+m)+x) ((m+1:Nat):Int) ((1900+j:Nat):Int) ((M+1:Nat):Int) z) (first (12 * j+M)+x,0)
 |d,m,e=>by
    have hm:m < 12:=by omega
    have h0:=first_nonneg (12 * j+m);have hl:=lenYM_in j m hm;have hs:first (12 * j+m+1)=first (12 * j+m)+lenYM j m:=by rw [← lenK_at j m hm];rfl
    have h1:=first_at (show 12 * j+m≤3600 by omega)
    cases d with
   |zero =>
      have e':m=M:=by omega
      subst e';exact Ev.step (fun k=>by rw [days_Of.l0]) (Ev.no (by omega) (Ev.is rfl))
   |succ d =>
      refine Ev.step (fun k=>by rw [days_Of.l0,days_Length_eq _ _ hm,Option.bind_some]) (Ev.yes (by omega) ?_);rw [show wrap64 (((m+1:Nat):Int)+1)=((m+1+1:Nat):Int) by unfold wrap64;omega,show wrap64 (first (12 * j+m)+x+lenYM j m)=first (12 * j+(m+1))+x by rw [show 12 * j+(m+1)=12 * j+m+1 by omega,hs];unfold wrap64;omega];exact days_Of_loop j M x z hj hM hx hx' d (m+1) (by omega)
end A
namespace A
open Go.RowKit B WW WL WM
def quoS (a:Nat):List UInt8→Nat→List UInt8→List UInt8×Nat×Nat×Nat
 |[],_,_=>([],0,a,6)
 |c :: r,i,acc=>if c.toNat=34 then (acc,i+1,0,0) else if c.toNat=92 then (match r with
     |[]=>([],0,i,5)
     |d :: r'=>if d.toNat=34∨d.toNat=92 then quoS a r' (i+2) (acc++[d]) else ([],0,i,5))
    else if isPrint c=true then quoS a r (i+1) (acc++[c]) else ([],0,i,5)
def wordS:List UInt8→Nat→Nat×List UInt8×Nat×Nat×Nat
 |[],i=>(0,[],i,i,5)
 |c :: r,i=>if isLet c=true then gS 1 (c :: r) i (nameN (c :: r)) 12 else
    if isDig c=true∨(c.toNat=45∧headDig r=true) then gS 2 (c :: r) i (numN r+1) 60 else
    if c.toNat=34 then qS i (quoS i r (i+1) []) else wordH (c :: r) i
theorem wordS_cons (c:UInt8) (r:List UInt8) (i:Nat):wordS (c :: r) i=if isLet c=true then gS 1 (c :: r) i (nameN (c :: r)) 12 else
    if isDig c=true∨(c.toNat=45∧headDig r=true) then gS 2 (c :: r) i (numN r+1) 60 else
    if c.toNat=34 then qS i (quoS i r (i+1) []) else wordH (c :: r) i:=rfl
def cutR:Nat→List UInt8→Nat→List S73×Nat×Nat
 |0,R,i=>([],i+R.length,0)
 |_+1,[],i=>([],i,0)
 |f+1,c :: r,i=>if c.toNat=35 then ([],i+(r.length+1),0) else if c.toNat=32 then cutR f r (i+1) else
    if (wordS (c :: r) i).2.2.2.2=0 then pre (wdOf (wordS (c :: r) i) i) (cutR f ((c :: r).drop ((wordS (c :: r) i).2.2.1 - i)) (wordS (c :: r) i).2.2.1) else ([],(wordS (c :: r) i).2.2.2.1,(wordS (c :: r) i).2.2.2.2)
theorem days_Length_any (y m:Nat) (h:1900≤y):days_Length.f (y:Int) (m:Int)=some (ymS y m):=by
  unfold ymS;by_cases c:1≤m∧m≤12
  · rw [if_pos c]
    have:=days_Length_eq (y - 1900) (m - 1) (by omega);rw [show 1900+(y - 1900)=y by omega,show m - 1+1=m by omega] at this;exact this
  · rw [if_neg c];unfold days_Length.f;rw [if_pos (by omega)]
theorem ref04_Length_any (y m:Nat) (h:1900≤y):Ev (fun k=>rf04_Length.f k (y:Int) (m:Int)) (ymS y m):=by
  unfold ymS;by_cases c:1≤m∧m≤12
  · rw [if_pos c]
    have:=ref04_Length_ev (y - 1900) (m - 1) (by omega);rw [show 1900+(y - 1900)=y by omega,show m - 1+1=m by omega] at this;exact this
  · rw [if_neg c]
    unfold rf04_Length.f;have tr:Ev (fun k=>rf04_Length.j0 k (y:Int) (m:Int) true) 0:=Ev.step (fun k=>by rw [rf04_Length.j0]) (Ev.yes rfl (Ev.is rfl));by_cases c1:m < 1
    · exact Ev.yes (by omega) tr
    · refine Ev.no (by omega) ?_
      rw [decide_eq_true (by omega)];exact tr
theorem ref04_first_l0 (K:Nat) (hK:K≤3600):∀ d L:Nat,L+d=K→Ev (fun k=>rf04_first.l0 k (K:Int) (first L) (L:Int)) (first K)
 |d,L,e=>by
    cases d with
   |zero =>
      obtain rfl:L=K:=by omega
      refine Ev.step (fun k=>by rw [rf04_first.l0]) ?_;exact Ev.no (by omega) (Ev.is rfl)
   |succ d =>
      refine Ev.step (fun k=>by rw [rf04_first.l0]) (Ev.yes (by omega) ?_)
      have e1:wrap64 (1900+wrap64 (Int.tdiv (L:Int) 12))=((1900+L / 12:Nat):Int):=by
        rw [show Int.tdiv (L:Int) 12=((L / 12:Nat):Int) from rfl,w_in (x:=((L / 12:Nat):Int)) (by omega),w_in (by omega)];omega
      have e2:wrap64 (Int.tmod (L:Int) 12+1)=((L % 12+1:Nat):Int):=by
        rw [show Int.tmod (L:Int) 12=((L % 12:Nat):Int) from rfl,w_in (by omega)];omega
      rw [e1,e2,w_next L (by omega)];refine Ev.bind (ref04_Length_ev (L / 12) (L % 12) (Nat.mod_lt _ (by omega))) ?_;have h0:=first_nonneg L;have h1:=first_at (show L≤3600 by omega);have hl:=lenK_in L;have hs:first (L+1)=first L+lenYM (L / 12) (L % 12):=rfl
      have hw:wrap64 (first L+lenYM (L / 12) (L % 12))=first (L+1):=by
        have:lenK L=lenYM (L / 12) (L % 12):=rfl;rw [hs];unfold wrap64;omega
      rw [hw];exact ref04_first_l0 K hK d (L+1) (by omega)
theorem ref04_Of_any (y m q:Nat):Ev (fun k=>rf04_Of.f k (y:Int) (m:Int) (q:Int)) (ofS y m q):=by
  unfold ofS;unfold rf04_Of.f;by_cases c1:(y:Int) < 1900
  · rw [if_neg (by omega)];exact Ev.yes c1 (Ev.is rfl)
  refine Ev.no c1 ?_;by_cases c2:(y:Int) > 2199
  · rw [if_neg (by omega)];exact Ev.yes c2 (Ev.is rfl)
  refine Ev.no c2 ?_;by_cases c3:(q:Int) < 1
  · rw [if_neg (by omega)];exact Ev.yes c3 (Ev.is rfl)
  refine Ev.no c3 (Ev.bind (ref04_Length_any y m (by omega)) ?_);by_cases c4:(q:Int) > ymS y m
  · rw [if_neg (by omega)];exact Ev.yes c4 (Ev.is rfl)
  have hm:1≤m∧m≤12:=by
    unfold ymS at c4;by_cases h:1≤m∧m≤12
    · exact h
    · rw [if_neg h] at c4;omega
  rw [if_pos (by omega)];refine Ev.no c4 ?_
  have e:wrap64 (wrap64 (wrap64 (wrap64 ((y:Int) - 1900) * 12)+(m:Int)) - 1)=((12 * (y - 1900)+(m - 1):Nat):Int):=by
    rw [w_in (x:=(y:Int) - 1900) (by omega),w_in (x:=((y:Int) - 1900) * 12) (by omega),w_in (x:=((y:Int) - 1900) * 12+(m:Int)) (by omega),w_in (by omega)];omega
  rw [e];have h0:=first_nonneg (12 * (y - 1900)+(m - 1));have h1:=first_at (show 12 * (y - 1900)+(m - 1)≤3600 by omega);have hle:=ymS_le y m
  have key:Ev (fun k=>rf04_first.f k ((12 * (y - 1900)+(m - 1):Nat):Int)) (first (12 * (y - 1900)+(m - 1))):=by
    have:=ref04_first_l0 (12 * (y - 1900)+(m - 1)) (by omega) _ 0 (Nat.zero_add _);exact this
  refine Ev.bind key (Ev.is ?_);rw [w_in (x:=first (12 * (y - 1900)+(m - 1))+(q:Int)) (by omega),w_in (by omega)];congr 1;omega
def IsW (w:List UInt8) (k:Nat) (t:List UInt8):Prop:=w≠[]∧(∀ c r,w=c :: r→c.toNat≠35∧c.toNat≠32)∧∀ r i,Brk r→∃ z,wordS (w++r) i=(k,t,i+w.length,z,0)
theorem IsW.num {c:UInt8} {w:List UInt8} (hc:isDig c=true∨(c.toNat=45∧headDig w=true)) (hw:numN w=w.length) (hl:w.length≤59):IsW (c :: w) 2 (c :: w):=by
  have hx:c.toNat≠35∧c.toNat≠32:=by
    rcases hc with hc|hc
    · have:=(isDig_range c).mp hc;omega
    · omega
  have hnl:¬ isLet c=true:=by
    intro h;unfold isLet at h;simp only [Bool.or_eq_true,Bool.and_eq_true,decide_eq_true_iff] at h
    rcases hc with hc|hc
    · have:=(isDig_range c).mp hc;omega
    · omega
  refine ⟨by simp,fun a r h=>(by obtain ⟨rfl,rfl⟩:=List.cons.inj h;exact hx),fun r i hr=>⟨0,?_⟩⟩;show wordS (c :: (w++r)) i=_
  have hc':isDig c=true∨(c.toNat=45∧headDig (w++r)=true):=hc.imp id (fun h=>⟨h.1,headDig_app r h.2⟩);rw [wordS_cons,if_neg hnl,if_pos hc',num_app w hw r hr,gS,if_neg (by omega),if_neg (by omega)];rw [show (c :: (w++r)).take (w.length+1)=c :: w from by rw [List.take_succ_cons,List.take_left]];rfl
def Cuts (R:List UInt8) (ps:List (Nat×List UInt8)):Prop:=∀ f i,R.length≤f→∃ ws j,cutR f R i=(ws,j,0)∧ws.map (fun (x:S73)=>(x.f0,x.f1))=ps.map (fun p=>((p.1:Int),oL p.2))
theorem Cuts.nil:Cuts [] []:=fun f i _=>by
  cases f with
 |zero=>exact ⟨[],_,rfl,rfl⟩
 |succ f=>exact ⟨[],_,rfl,rfl⟩
def deadR (s:ByteArray) (L:List S73) (i:Nat):RRes:=if i < L.length then noR (rd_T73 L (i:Int)).f2 27 else noR (s.size:Int) 27
theorem fail_eq (s:ByteArray) (L:List S73) (i:Nat):r48_fail s L (i:Int)=some (deadR s L i):=by
  unfold r48_fail deadR;by_cases h:i < L.length
  · rw [if_pos (by omega),if_pos (by omega),if_pos h]
  · rw [if_neg (by omega),if_neg h]
theorem dead_len (s:ByteArray) (L:List S73) (j:Nat):(deadR s L j).2.1.length≤1000∧(deadR s L j).2.2.2.2.1.length≤1000:=by
  unfold deadR;split <;> exact ⟨Nat.zero_le _,Nat.zero_le _⟩
end A

end Go.Proofs.YtkbgkekegjfkfaaGreatDoor