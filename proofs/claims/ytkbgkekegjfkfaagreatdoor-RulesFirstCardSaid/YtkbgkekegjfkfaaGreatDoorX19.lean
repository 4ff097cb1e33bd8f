-- By pack.py, a program of this session's.
import Derived.Test.YtkbgkekegjfkfaaGreatDoorX16
set_option linter.unusedVariables false
set_option linter.unusedSimpArgs false
namespace Go.Proofs.YtkbgkekegjfkfaaGreatDoor.A
open Go.RowKit B WW WL WM
attribute [local go_sem] max2_int min2_int max_two min_two max_three min_three max_four min_four
set_option maxHeartbeats 8000000
set_option maxRecDepth 100000
mutual
def lw48_large.j0:Nat→Bool→ByteArray→List (S48)→ByteArray→ByteArray→List (S50)→Option (Bool)
 | 0,_,_,_,_,_,_=>none
 | k+1,x28,x102000,x102001,x102002,x102003,x102004=>if x28=true then (some true) else (lw48_large.l0 k 0 x102000 x102001 x102002 x102003 x102004)
def lw48_large.l0:Nat→Int→ByteArray→List (S48)→ByteArray→ByteArray→List (S50)→Option (Bool)
 | 0,_,_,_,_,_,_=>none
 | k+1,x3,x102000,x102001,x102002,x102003,x102004=>if x3 < (x102001.length:Int) then (if 0≤x3 then (if (((rd_T48 x102001 x3).f2).size:Int) > 400 then (some true) else (lw48_large.l0 k (wrap64 (x3+1)) x102000 x102001 x102002 x102003 x102004)) else (none)) else (lw48_large.l1 k 0 x102000 x102001 x102002 x102003 x102004)
def lw48_large.l1:Nat→Int→ByteArray→List (S48)→ByteArray→ByteArray→List (S50)→Option (Bool)
 | 0,_,_,_,_,_,_=>none
 | k+1,x4,x102000,x102001,x102002,x102003,x102004=>if x4 < (x102004.length:Int) then (if 0≤x4 then (if (wrap64 ((((rd_T50 x102004 x4).f0).size:Int)+(((rd_T50 x102004 x4).f1).size:Int))) > 400 then (some true) else (lw48_large.l1 k (wrap64 (x4+1)) x102000 x102001 x102002 x102003 x102004)) else (none)) else (some false)
end
def lw48_large.f (k:Nat) (a0_0:ByteArray) (l0_1:List (S48)) (a0_2:ByteArray) (a0_3:ByteArray) (l0_4:List (S50)):Option (Bool):=if (l0_1.length:Int) > 20 then (lw48_large.j0 k true a0_0 l0_1 a0_2 a0_3 l0_4) else (if (l0_4.length:Int) > 20 then (lw48_large.j0 k true a0_0 l0_1 a0_2 a0_3 l0_4) else (lw48_large.j0 k (decide ((wrap64 ((wrap64 ((a0_0.size:Int)+(a0_2.size:Int)))+(a0_3.size:Int))) > 400)) a0_0 l0_1 a0_2 a0_3 l0_4))
def codeX (x:S73):Bool:=decide (x.f0=1∨x.f0=2)
def ReadPost (bd g:Nat) (vC vT vW:Value) (p':PR) (r:Int) (w:World) (e:Ending) (w':World):Prop :=
  e=.returned (.bool (r != 14))∧(∃ vC' vT' vW',RP w' bd g { p' with st:=r } vC' vT' vW')∧FP bd g vC vT vW w w'
def pr0:PR:=⟨⟨#[]⟩,[],⟨#[]⟩,⟨#[]⟩,[],0,[]⟩
abbrev RRes:=ByteArray×List S48×ByteArray×ByteArray×List S50×Int×Int
def noR (a e:Int):RRes:=(⟨#[]⟩,[],⟨#[]⟩,⟨#[]⟩,[],a,e)
theorem sretP (Post:Ending→World→Prop) (T:Array Value) (W:World) (g:Nat) (cs:Array Value) (i e:Int) (t2:T.getD 2 undef=.pointer (some ⟨g,0,none⟩)) (t3:T.getD 3 undef=.int .i64 i) (t4:T.getD 4 undef=.int .i64 e)
    (hg:W.heap[g]?=some (.cells cs 25 (0,0))) (hs:cs.size=5) (hp:Post (.returned (.tuple #[.agg cs,.int .i64 i,.int .i64 e])) W):bodyPost Tryz.prog Tryz.f18 Post .ret { tmps:=T,defers:=[] } W:=by
  refine bodyPost_ret (v:=.tuple #[.agg cs,.int .i64 i,.int .i64 e]) ?_ rfl hp;have:=results_list (P:=Tryz.prog) (fn:=Tryz.f18) (tmps:=T) (w:=W) (rs:=[.cell 2 25,.tmp 3,.tmp 4]) rfl (by simp) (.cell g 25 cs (0,0) _ t2 hg Tryz.underlying25 rfl (by rw [hs];kernel_rfl) (.tmp (.tmp .nil)));rw [t3,t4] at this;exact this
theorem noretP (Post:Ending→World→Prop) (T:Array Value) (W w0:World) (gr:Nat) (i e:Int) (t2:T.getD 2 undef=.pointer (some ⟨gr,0,none⟩)) (t3:T.getD 3 undef=.int .i64 i) (t4:T.getD 4 undef=.int .i64 e)
    (hg:W.heap[gr]?=some (.cells #[Value.string ⟨#[]⟩,.slice none 0 0,.string ⟨#[]⟩,.string ⟨#[]⟩,.slice none 0 0] 25 (0,0))) (hB:Below w0.heap.size w0 W) (hge:w0.heap.size≤gr) (hp:∀ W',Below w0.heap.size w0 W'→Post (.returned (.tuple #[.agg #[Value.string ⟨#[]⟩,.slice none 0 0,.string ⟨#[]⟩,.string ⟨#[]⟩,.slice none 0 0],.int .i64 i,.int .i64 e])) W') :
    bodyPost Tryz.prog Tryz.f18 Post .ret { tmps:=T,defers:=[] } (((((W.setCell ⟨gr,0,none⟩ (.string ⟨#[]⟩)).setCell ⟨gr,1,none⟩ (.slice none 0 0)).setCell ⟨gr,2,none⟩ (.string ⟨#[]⟩)).setCell ⟨gr,3,none⟩ (.string ⟨#[]⟩)).setCell ⟨gr,4,none⟩ (.slice none 0 0)) :=
  sretP Post T _ gr #[Value.string ⟨#[]⟩,.slice none 0 0,.string ⟨#[]⟩,.string ⟨#[]⟩,.slice none 0 0] i e t2 t3 t4 (blk_put (cs:=#[Value.string ⟨#[]⟩,.slice none 0 0,.string ⟨#[]⟩,.string ⟨#[]⟩,.slice none 0 0]) (blk_put (cs:=#[Value.string ⟨#[]⟩,.slice none 0 0,.string ⟨#[]⟩,.string ⟨#[]⟩,.slice none 0 0]) (blk_put (cs:=#[Value.string ⟨#[]⟩,.slice none 0 0,.string ⟨#[]⟩,.string ⟨#[]⟩,.slice none 0 0]) (blk_put (cs:=#[Value.string ⟨#[]⟩,.slice none 0 0,.string ⟨#[]⟩,.string ⟨#[]⟩,.slice none 0 0]) (blk_put (cs:=#[Value.string ⟨#[]⟩,.slice none 0 0,.string ⟨#[]⟩,.string ⟨#[]⟩,.slice none 0 0]) hg 0 _ rfl) 1 _ rfl) 2 _ rfl) 3 _ rfl) 4 _ rfl) rfl (hp _ (below_setN (below_setN (below_setN (below_setN (below_setN hB hge _) hge _) hge _) hge _) hge _))
theorem n48r:∀ q,q∈(48:Nat) :: k48.E→q≠25:=by decide
theorem yesretP (Post:Ending→World→Prop) (T:Array Value) (W w0:World) (gr bd:Nat) (nm acc par:ByteArray) (cs:List S48) (tg:List S50) (vC vT:Value) (t2:T.getD 2 undef=.pointer (some ⟨gr,0,none⟩)) (t3:T.getD 3 undef=.int .i64 0) (t4:T.getD 4 undef=.int .i64 0)
    (hg:W.heap[gr]?=some (.cells #[Value.string ⟨#[]⟩,.slice none 0 0,.string ⟨#[]⟩,.string ⟨#[]⟩,.slice none 0 0] 25 (0,0))) (hB:Below w0.heap.size w0 W) (hge:w0.heap.size≤gr) (hC:Kd.R k48 48 W bd (fun _=>True) vC cs) (hT:Kd.R k50 50 W bd (fun _=>True) vT tg)
    (hp:∀ W',Kd.R k48 48 W' bd (fun _=>True) vC cs→Kd.R k50 50 W' bd (fun _=>True) vT tg→Below w0.heap.size w0 W'→Post (.returned (.tuple #[.agg #[.string nm,vC,.string acc,.string par,vT],.int .i64 0,.int .i64 0])) W') :
    bodyPost Tryz.prog Tryz.f18 Post .ret { tmps:=T,defers:=[] } (((((W.setCell ⟨gr,0,none⟩ (.string nm)).setCell ⟨gr,1,none⟩ (vC)).setCell ⟨gr,2,none⟩ (.string acc)).setCell ⟨gr,3,none⟩ (.string par)).setCell ⟨gr,4,none⟩ (vT)):=by
  have b0:=blk_put (cs':=#[.string nm,.slice none 0 0,.string ⟨#[]⟩,.string ⟨#[]⟩,.slice none 0 0]) hg 0 (.string nm) rfl;have c0:=Kd.R_set hC hg n48r 0 (.string nm);have d0:=Kd.R_set hT hg n50r 0 (.string nm);have b1:=blk_put (cs':=#[.string nm,vC,.string ⟨#[]⟩,.string ⟨#[]⟩,.slice none 0 0]) b0 1 (vC) rfl;have c1:=Kd.R_set c0 b0 n48r 1 (vC);have d1:=Kd.R_set d0 b0 n50r 1 (vC);have b2:=blk_put (cs':=#[.string nm,vC,.string acc,.string ⟨#[]⟩,.slice none 0 0]) b1 2 (.string acc) rfl;have c2:=Kd.R_set c1 b1 n48r 2 (.string acc);have d2:=Kd.R_set d1 b1 n50r 2 (.string acc);have b3:=blk_put (cs':=#[.string nm,vC,.string acc,.string par,.slice none 0 0]) b2 3 (.string par) rfl;have c3:=Kd.R_set c2 b2 n48r 3 (.string par);have d3:=Kd.R_set d2 b2 n50r 3 (.string par);have b4:=blk_put (cs':=#[.string nm,vC,.string acc,.string par,vT]) b3 4 (vT) rfl;have c4:=Kd.R_set c3 b3 n48r 4 (vT);have d4:=Kd.R_set d3 b3 n50r 4 (vT);exact sretP Post T _ gr _ 0 0 t2 t3 t4 b4 rfl (hp _ c4 d4 (below_setN (below_setN (below_setN (below_setN (below_setN hB hge _) hge _) hge _) hge _) hge _))
def livesC:List S48:=[⟨1,3,⟨#[]⟩,-100⟩,⟨3,4,⟨#[114,101,110,116]⟩,0⟩]
end Go.Proofs.YtkbgkekegjfkfaaGreatDoor.A
namespace Go.Proofs.YtkbgkekegjfkfaaGreatDoor.WW
open Go.RowKit
section
variable {P:Program} {ops:Array Oper} {rest:List Oper} {o:Oper} {a:Act} {Q:Exit→Act→World→Prop} {W:World}
theorem gate_guard (hw:Region.wanted o (yielded ops a.tmps)=true) (h:wpList P ops Q ({ o with guard:=none } :: rest) a W):wpList P ops Q (o :: rest) a W:=by
  have h1:Region.wanted { o with guard:=none } (yielded ops a.tmps)=true:=rfl;unfold wpList at h ⊢;rw [if_pos h1] at h;rw [if_pos hw];exact h
end
end Go.Proofs.YtkbgkekegjfkfaaGreatDoor.WW
namespace Go.Proofs.YtkbgkekegjfkfaaGreatDoor.A
open Go.RowKit B WW WL WM
attribute [local go_sem] max2_int min2_int max_two min_two max_three min_three max_four min_four
set_option maxHeartbeats 8000000
set_option maxRecDepth 100000
attribute [local go_sem high] eqA48
theorem rf48_Same.calls (k:Nat) (a0_0:ByteArray) (A0_1:Option Addr) (c0_1:Nat) (l0_1:List (S48)) (a0_2 a0_3:ByteArray) (A0_4:Option Addr) (c0_4:Nat) (l0_4:List (S50)) (a1_0:ByteArray) (A1_1:Option Addr) (c1_1:Nat) (l1_1:List (S48)) (a1_2 a1_3:ByteArray) (A1_4:Option Addr) (c1_4:Nat) (l1_4:List (S50)) (r:Bool) (w:World) (hr0_1:Kd.C k48 w A0_1 l0_1.length l0_1) (hc0_1:l0_1.length≤c0_1) (hr0_4:Kd.C k50 w A0_4 l0_4.length l0_4) (hc0_4:l0_4.length≤c0_4) (hr1_1:Kd.C k48 w A1_1 l1_1.length l1_1) (hc1_1:l1_1.length≤c1_1) (hr1_4:Kd.C k50 w A1_4 l1_4.length l1_4) (hc1_4:l1_4.length≤c1_4) (h:rf48_Same.f k a0_0 l0_1 a0_2 a0_3 l0_4 a1_0 l1_1 a1_2 a1_3 l1_4=some r) :
  Calls Tryz.prog 19 #[.agg #[.string a0_0,.slice A0_1 l0_1.length c0_1,.string a0_2,.string a0_3,.slice A0_4 l0_4.length c0_4],.agg #[.string a1_0,.slice A1_1 l1_1.length c1_1,.string a1_2,.string a1_3,.slice A1_4 l1_4.length c1_4]] w fun e w'=>e=.returned (.bool r)∧Below w.heap.size w w':=by
 have hu25:=Tryz.underlying25;have hu48:=Tryz.underlying48;have HR0_1:=sd hr0_1;have HC0_1:=sd hc0_1;clear hr0_1 hc0_1;have HR0_4:=sd hr0_4;have HC0_4:=sd hc0_4;clear hr0_4 hc0_4;have HR1_1:=sd hr1_1;have HC1_1:=sd hc1_1;clear hr1_1 hc1_1;have HR1_4:=sd hr1_4;have HC1_4:=sd hc1_4;clear hr1_4 hc1_4;have HB:=sd (Below.refl w.heap.size w);have H:=h;clear h;unfold rf48_Same.f at H;have HC3:=sd H;clear H;go_enter Tryz.func19,Tryz.ntmps19
 go_upto_region 1 with (first | ((with_reducible refine gate_dst (N:=2) rfl ?_);(try (refine gate_guard (by rfl) ?_;dsimp only));refine bxA 2 #[.string a0_0,.slice A0_1 l0_1.length c0_1,.string a0_2,.string a0_3,.slice A0_4 l0_4.length c0_4] 25 ?_;intro gb245 hg w4 hbox hb;have BK245:=sd (hbox);have GW245:=gem hg HB;have GE245:=GW245;replace HB:=hbm HB hb;clear hb hbox hg) | ((with_reducible refine gate_dst (N:=3) rfl ?_);(try (refine gate_guard (by rfl) ?_;dsimp only));refine bxA 3 #[.string a1_0,.slice A1_1 l1_1.length c1_1,.string a1_2,.string a1_3,.slice A1_4 l1_4.length c1_4] 25 ?_;intro gb246 hg w5 hbox hb;have BK246:=sd (hbox);have GW246:=gem hg HB;have GE246:=GW246;have NB245_246:=nlm hg BK245;have NB246_245:=ngm hg BK245;replace BK245:=bkm BK245 hb;replace HB:=hbm HB hb;clear hb hbox hg))
 repeat (go_quiet (first | ((with_reducible refine gate_dst (N:=2) rfl ?_);(try (refine gate_guard (by rfl) ?_;dsimp only));refine bxA 2 #[.string a0_0,.slice A0_1 l0_1.length c0_1,.string a0_2,.string a0_3,.slice A0_4 l0_4.length c0_4] 25 ?_;intro gb245 hg w4 hbox hb;have BK245:=sd (hbox);have GW245:=gem hg HB;have GE245:=GW245;replace HB:=hbm HB hb;clear hb hbox hg) | ((with_reducible refine gate_dst (N:=3) rfl ?_);(try (refine gate_guard (by rfl) ?_;dsimp only));refine bxA 3 #[.string a1_0,.slice A1_1 l1_1.length c1_1,.string a1_2,.string a1_3,.slice A1_4 l1_4.length c1_4] 25 ?_;intro gb246 hg w5 hbox hb;have BK246:=sd (hbox);have GW246:=gem hg HB;have GE246:=GW246;have NB245_246:=nlm hg BK245;have NB246_245:=ngm hg BK245;replace BK245:=bkm BK245 hb;replace HB:=hbm HB hb;clear hb hbox hg));go_upto_region 1 with (first | ((with_reducible refine gate_dst (N:=2) rfl ?_);(try (refine gate_guard (by rfl) ?_;dsimp only));refine bxA 2 #[.string a0_0,.slice A0_1 l0_1.length c0_1,.string a0_2,.string a0_3,.slice A0_4 l0_4.length c0_4] 25 ?_;intro gb245 hg w4 hbox hb;have BK245:=sd (hbox);have GW245:=gem hg HB;have GE245:=GW245;replace HB:=hbm HB hb;clear hb hbox hg) | ((with_reducible refine gate_dst (N:=3) rfl ?_);(try (refine gate_guard (by rfl) ?_;dsimp only));refine bxA 3 #[.string a1_0,.slice A1_1 l1_1.length c1_1,.string a1_2,.string a1_3,.slice A1_4 l1_4.length c1_4] 25 ?_;intro gb246 hg w5 hbox hb;have BK246:=sd (hbox);have GW246:=gem hg HB;have GE246:=GW246;have NB245_246:=nlm hg BK245;have NB246_245:=ngm hg BK245;replace BK245:=bkm BK245 hb;replace HB:=hbm HB hb;clear hb hbox hg)))
 (try simp only [Act.put,List.setIfInBounds_toArray,List.set_cons_zero,List.set_cons_succ])
 go_cut [41] (fun v41 wc=>∃ (kq:Nat) (x41_2:Bool),v41=.bool x41_2∧Aside0 (rf48_Same.j0 kq x41_2 a0_0 l0_1 a0_2 a0_3 l0_4 a1_0 l1_1 a1_2 a1_3 l1_4=some r)∧Aside0 (kq≤k)∧Aside0 (wc.heap[gb245]?=some (.cells #[.string a0_0,(.slice A0_1 l0_1.length c0_1),.string a0_2,.string a0_3,(.slice A0_4 l0_4.length c0_4)] 25 (0,0)))∧Aside0 (wc.heap[gb246]?=some (.cells #[.string a1_0,(.slice A1_1 l1_1.length c1_1),.string a1_2,.string a1_3,(.slice A1_4 l1_4.length c1_4)] 25 (0,0)))∧Aside0 (Below w.heap.size w wc))
 case first =>
  have H:=HC3.out;clear HC3;replace H:=ifI H;rcases H with ⟨c6,H⟩ | ⟨c6,H⟩
  ·obtain ⟨c6b0,c6b1⟩:=eqI c6;clear c6;(first | rw [c6b0] | (simp only [i64_w,i32_w];rw [c6b0]) | skip)
   replace H:=ifI H;rcases H with ⟨c7,H⟩ | ⟨c7,H⟩
   ·obtain ⟨c7b0,c7b1⟩:=eqI c7;clear c7;replace H:=ifI H;rcases H with ⟨c8,H⟩ | ⟨c8,H⟩
    ·obtain ⟨c8b0,c8b1⟩:=eqI c8;clear c8;replace H:=ifI H;rcases H with ⟨c9,H⟩ | ⟨c9,H⟩
     ·obtain ⟨c9b0,c9b1⟩:=eqI c9;have c9b2:(l0_1.length == l1_1.length)=true:=by first | simpa using c9 | (simp at c9 ⊢;omega)
      clear c9;replace H:=bdI H;obtain ⟨t247,A10,H⟩:=H;(try dsimp only at H)
      have H':=sd H;clear H;have hnb11:=NB245_246.out;have hnc11:=NB246_245.out;obtain ⟨_,_,_,_,_,_,_,_,_,_⟩:=bk5 BK245;obtain ⟨_,_,_,_,_,_,_,_,_,_⟩:=bk5 BK246;go_wp2_with (first | (go_at_call 42;(with_reducible refine (rf09_Same.calls k _ _ l0_4 _ _ l1_4 t247 _ ?side1 ?side2 ?side3 ?side4 A10.out).mono ?_);(case side1=>exact zq40);(case side2=>exact HC0_4.out);(case side3=>exact zq41);(case side4=>exact HC1_4.out);rintro e w' ⟨rfl,⟨nd,rfl⟩⟩;(try first | exact ⟨rfl,_,World.drewN_drewN _ _ _⟩ | exact ⟨rfl,_,Eq.trans (World.drewN_drewN _ _ _) (congrArg (World.drewN _) (Nat.add_assoc _ _ _))⟩)))
      repeat (go_quiet (first | (go_at_call 42;(with_reducible refine (rf09_Same.calls k _ _ l0_4 _ _ l1_4 t247 _ ?side1 ?side2 ?side3 ?side4 A10.out).mono ?_);(case side1=>exact zq40);(case side2=>exact HC0_4.out);(case side3=>exact zq41);(case side4=>exact HC1_4.out);rintro e w' ⟨rfl,⟨nd,rfl⟩⟩;(try first | exact ⟨rfl,_,World.drewN_drewN _ _ _⟩ | exact ⟨rfl,_,Eq.trans (World.drewN_drewN _ _ _) (congrArg (World.drewN _) (Nat.add_assoc _ _ _))⟩)));try go_wp2_with (first | (go_at_call 42;(with_reducible refine (rf09_Same.calls k _ _ l0_4 _ _ l1_4 t247 _ ?side1 ?side2 ?side3 ?side4 A10.out).mono ?_);(case side1=>exact zq40);(case side2=>exact HC0_4.out);(case side3=>exact zq41);(case side4=>exact HC1_4.out);rintro e w' ⟨rfl,⟨nd,rfl⟩⟩;(try first | exact ⟨rfl,_,World.drewN_drewN _ _ _⟩ | exact ⟨rfl,_,Eq.trans (World.drewN_drewN _ _ _) (congrArg (World.drewN _) (Nat.add_assoc _ _ _))⟩))))
      go_meet
      case rel=>exact ⟨_,(!t247),zq7,H',⟨by first | omega | exact Nat.le_refl _⟩,⟨zq42⟩,⟨zq43⟩,⟨zq44⟩⟩
     obtain ⟨c9b0,c9b1⟩:=neI c9;have c9b2:(l0_1.length == l1_1.length)=false:=by first | simpa using c9 | (simp at c9 ⊢;omega)
     have H':=sd H;clear H;have hnb14:=NB245_246.out;have hnc14:=NB246_245.out;obtain ⟨_,_,_,_,_,_,_,_,_,_⟩:=bk5 BK245;obtain ⟨_,_,_,_,_,_,_,_,_,_⟩:=bk5 BK246;go_wp2
     repeat (go_quiet (fail);try go_wp2)
     go_meet
     case rel=>exact ⟨_,(true),zq7,H',⟨by first | omega | exact Nat.le_refl _⟩,⟨zq42⟩,⟨zq43⟩,⟨zq44⟩⟩
    obtain ⟨c8b0,c8b1⟩:=neI c8;have H':=sd H;clear H;have hnb17:=NB245_246.out;have hnc17:=NB246_245.out;obtain ⟨_,_,_,_,_,_,_,_,_,_⟩:=bk5 BK245;obtain ⟨_,_,_,_,_,_,_,_,_,_⟩:=bk5 BK246;go_wp2
    repeat (go_quiet (fail);try go_wp2)
    go_meet
    case rel=>exact ⟨_,(true),zq7,H',⟨by first | omega | exact Nat.le_refl _⟩,⟨zq42⟩,⟨zq43⟩,⟨zq44⟩⟩
   obtain ⟨c7b0,c7b1⟩:=neI c7;have H':=sd H;clear H;have hnb20:=NB245_246.out;have hnc20:=NB246_245.out;obtain ⟨_,_,_,_,_,_,_,_,_,_⟩:=bk5 BK245;obtain ⟨_,_,_,_,_,_,_,_,_,_⟩:=bk5 BK246;go_wp2
   repeat (go_quiet (fail);try go_wp2)
   go_meet
   case rel=>exact ⟨_,(true),zq7,H',⟨by first | omega | exact Nat.le_refl _⟩,⟨zq42⟩,⟨zq43⟩,⟨zq44⟩⟩
  obtain ⟨c6b0,c6b1⟩:=neI c6;(first | rw [c6b0] | (simp only [i64_w,i32_w];rw [c6b0]) | skip)
  have H':=sd H;clear H;have hnb23:=NB245_246.out;have hnc23:=NB246_245.out;obtain ⟨_,_,_,_,_,_,_,_,_,_⟩:=bk5 BK245;obtain ⟨_,_,_,_,_,_,_,_,_,_⟩:=bk5 BK246;go_wp2
  repeat (go_quiet (fail);try go_wp2)
  go_meet
  case rel=>exact ⟨_,(true),zq7,H',⟨by first | omega | exact Nat.le_refl _⟩,⟨zq42⟩,⟨zq43⟩,⟨zq44⟩⟩
 case rest =>
  clear HC3;try clear c1
  try clear c2
  try clear p2
  try clear c6
  try clear c6b0
  try clear c6b1
  try clear c7
  try clear c7b0
  try clear c7b1
  try clear c8
  try clear c8b0
  try clear c8b1
  try clear c9
  try clear c9b0
  try clear c9b1
  try clear c9b2
  try clear c11
  try clear c14
  try clear c17
  try clear c19
  try clear c20
  try clear c23
  try clear hcz12_0
  try clear hcz12_1
  try clear hcz12_2
  try clear hcz12_3
  try clear hcz12_4
  try clear hcz13_0
  try clear hcz13_1
  try clear hcz13_2
  try clear hcz13_3
  try clear hcz13_4
  try clear hcz15_0
  try clear hcz15_1
  try clear hcz15_2
  try clear hcz15_3
  try clear hcz15_4
  try clear hcz16_0
  try clear hcz16_1
  try clear hcz16_2
  try clear hcz16_3
  try clear hcz16_4
  try clear hcz18_0
  try clear hcz18_1
  try clear hcz18_2
  try clear hcz18_3
  try clear hcz18_4
  try clear hcz19_0
  try clear hcz19_1
  try clear hcz19_2
  try clear hcz19_3
  try clear hcz19_4
  try clear hcz21_0
  try clear hcz21_1
  try clear hcz21_2
  try clear hcz21_3
  try clear hcz21_4
  try clear hcz22_0
  try clear hcz22_1
  try clear hcz22_2
  try clear hcz22_3
  try clear hcz22_4
  try clear hcz24_0
  try clear hcz24_1
  try clear hcz24_2
  try clear hcz24_3
  try clear hcz24_4
  try clear hcz25_0
  try clear hcz25_1
  try clear hcz25_2
  try clear hcz25_3
  try clear hcz25_4
  try clear hfz12_0
  try clear hfz12_1
  try clear hfz12_2
  try clear hfz12_3
  try clear hfz12_4
  try clear hfz13_0
  try clear hfz13_1
  try clear hfz13_2
  try clear hfz13_3
  try clear hfz13_4
  try clear hfz15_0
  try clear hfz15_1
  try clear hfz15_2
  try clear hfz15_3
  try clear hfz15_4
  try clear hfz16_0
  try clear hfz16_1
  try clear hfz16_2
  try clear hfz16_3
  try clear hfz16_4
  try clear hfz18_0
  try clear hfz18_1
  try clear hfz18_2
  try clear hfz18_3
  try clear hfz18_4
  try clear hfz19_0
  try clear hfz19_1
  try clear hfz19_2
  try clear hfz19_3
  try clear hfz19_4
  try clear hfz21_0
  try clear hfz21_1
  try clear hfz21_2
  try clear hfz21_3
  try clear hfz21_4
  try clear hfz22_0
  try clear hfz22_1
  try clear hfz22_2
  try clear hfz22_3
  try clear hfz22_4
  try clear hfz24_0
  try clear hfz24_1
  try clear hfz24_2
  try clear hfz24_3
  try clear hfz24_4
  try clear hfz25_0
  try clear hfz25_1
  try clear hfz25_2
  try clear hfz25_3
  try clear hfz25_4
  obtain ⟨kq,x41_2,rfl,HA,HJ2,BK245,BK246,HB⟩:=hcut
  cases kq with
  | zero=>exact absurd HA.out (by simp [rf48_Same.j0])
  | succ kj2 =>
   have H:=HA.out;clear HA;simp only [rf48_Same.j0] at H
   by_cases c26:x41_2=true
   ·subst c26;rw [if_pos rfl] at H;obtain rfl:=Option.some.inj H;go_wp2
    repeat (go_quiet (fail);try go_wp2)
    go_ret
    exact ⟨zq4,zq44⟩
   replace c26:=Bool.eq_false_iff.mpr c26;subst c26;rw [if_neg Bool.false_ne_true] at H;have H':=sd H;clear H;go_wp2
   repeat (go_quiet (fail);try go_wp2)
   go_loopg [5] kj2 (fun kq v5 w'=>∃ (x5_2:Int),v5=.int .i64 x5_2∧Aside0 (rf48_Same.l0 kq x5_2 a0_0 l0_1 a0_2 a0_3 l0_4 a1_0 l1_1 a1_2 a1_3 l1_4=some r)∧Aside0 (kq≤kj2)∧Aside0 (w'.heap[gb245]?=some (.cells #[.string a0_0,(.slice A0_1 l0_1.length c0_1),.string a0_2,.string a0_3,(.slice A0_4 l0_4.length c0_4)] 25 (0,0)))∧Aside0 (w'.heap[gb246]?=some (.cells #[.string a1_0,(.slice A1_1 l1_1.length c1_1),.string a1_2,.string a1_3,(.slice A1_4 l1_4.length c1_4)] 25 (0,0)))∧Aside0 (Below w.heap.size w w'))
   case atStart=>exact ⟨(0),zq7,H',⟨Nat.le_refl _⟩,⟨zq42⟩,⟨zq43⟩,⟨zq44⟩⟩
   case round =>
    clear H';try clear c1
    try clear c2
    try clear p2
    try clear c6
    try clear c6b0
    try clear c6b1
    try clear c7
    try clear c7b0
    try clear c7b1
    try clear c8
    try clear c8b0
    try clear c8b1
    try clear c9
    try clear c9b0
    try clear c9b1
    try clear c9b2
    try clear c11
    try clear c14
    try clear c17
    try clear c19
    try clear c20
    try clear c23
    try clear c26
    try clear hcz12_0
    try clear hcz12_1
    try clear hcz12_2
    try clear hcz12_3
    try clear hcz12_4
    try clear hcz13_0
    try clear hcz13_1
    try clear hcz13_2
    try clear hcz13_3
    try clear hcz13_4
    try clear hcz15_0
    try clear hcz15_1
    try clear hcz15_2
    try clear hcz15_3
    try clear hcz15_4
    try clear hcz16_0
    try clear hcz16_1
    try clear hcz16_2
    try clear hcz16_3
    try clear hcz16_4
    try clear hcz18_0
    try clear hcz18_1
    try clear hcz18_2
    try clear hcz18_3
    try clear hcz18_4
    try clear hcz19_0
    try clear hcz19_1
    try clear hcz19_2
    try clear hcz19_3
    try clear hcz19_4
    try clear hcz21_0
    try clear hcz21_1
    try clear hcz21_2
    try clear hcz21_3
    try clear hcz21_4
    try clear hcz22_0
    try clear hcz22_1
    try clear hcz22_2
    try clear hcz22_3
    try clear hcz22_4
    try clear hcz24_0
    try clear hcz24_1
    try clear hcz24_2
    try clear hcz24_3
    try clear hcz24_4
    try clear hcz25_0
    try clear hcz25_1
    try clear hcz25_2
    try clear hcz25_3
    try clear hcz25_4
    try clear hfz12_0
    try clear hfz12_1
    try clear hfz12_2
    try clear hfz12_3
    try clear hfz12_4
    try clear hfz13_0
    try clear hfz13_1
    try clear hfz13_2
    try clear hfz13_3
    try clear hfz13_4
    try clear hfz15_0
    try clear hfz15_1
    try clear hfz15_2
    try clear hfz15_3
    try clear hfz15_4
    try clear hfz16_0
    try clear hfz16_1
    try clear hfz16_2
    try clear hfz16_3
    try clear hfz16_4
    try clear hfz18_0
    try clear hfz18_1
    try clear hfz18_2
    try clear hfz18_3
    try clear hfz18_4
    try clear hfz19_0
    try clear hfz19_1
    try clear hfz19_2
    try clear hfz19_3
    try clear hfz19_4
    try clear hfz21_0
    try clear hfz21_1
    try clear hfz21_2
    try clear hfz21_3
    try clear hfz21_4
    try clear hfz22_0
    try clear hfz22_1
    try clear hfz22_2
    try clear hfz22_3
    try clear hfz22_4
    try clear hfz24_0
    try clear hfz24_1
    try clear hfz24_2
    try clear hfz24_3
    try clear hfz24_4
    try clear hfz25_0
    try clear hfz25_1
    try clear hfz25_2
    try clear hfz25_3
    try clear hfz25_4
    try clear p2
    obtain ⟨x5_2,rfl,HA,HK2,BK245,BK246,HB⟩:=hrel
    cases gk with
    | zero=>exact absurd HA.out (by simp [rf48_Same.l0])
    | succ k2 =>
     have H:=HA.out;clear HA;simp only [rf48_Same.l0] at H
     replace H:=ifI H;rcases H with ⟨c27,H⟩ | ⟨c27,H⟩
     ·have c27b0:decide (x5_2 < (l0_1.length:Int))=true:=decide_eq_true c27;clear c27;replace H:=ifI H;rcases H with ⟨c28,H⟩ | ⟨c28,H⟩
      ·have c28b0:decide (0≤x5_2)=true:=decide_eq_true c28;clear c28;replace H:=ifI H;rcases H with ⟨c29,H⟩ | ⟨c29,H⟩
       ·have c29b0:decide (x5_2 < (l1_1.length:Int))=true:=decide_eq_true c29;clear c29;replace H:=ifI H;rcases H with ⟨c30,H⟩ | ⟨c30,H⟩
        ·have c30b0:(!(((rd_T48 l0_1 x5_2).f0) == ((rd_T48 l1_1 x5_2).f0)) || (!(((rd_T48 l0_1 x5_2).f1) == ((rd_T48 l1_1 x5_2).f1)) || (!((((rd_T48 l0_1 x5_2).f2).toList) == (((rd_T48 l1_1 x5_2).f2).toList)) || (!(((rd_T48 l0_1 x5_2).f3) == ((rd_T48 l1_1 x5_2).f3))))))=true:=c30;clear c30;obtain rfl:=Option.some.inj H;have hnb31:=NB245_246.out;have hnc31:=NB246_245.out;obtain ⟨_,_,_,_,_,_,_,_,_,_⟩:=bk5 BK245;have p248:0≤(x5_2:Int):=od;have q248:x5_2 < (l0_1.length:Int):=od;obtain ⟨ad248,e248,hx248_0,hx248_1,hx248_2,hx248_3⟩:=at_T48 HR0_1.out x5_2 p248 q248
         cases e248
         replace hx248_0:=(HB.out.cell (World.block_lt_of_cell? w _ hx248_0)).trans hx248_0;replace hx248_1:=(HB.out.cell (World.block_lt_of_cell? w _ hx248_1)).trans hx248_1;replace hx248_2:=(HB.out.cell (World.block_lt_of_cell? w _ hx248_2)).trans hx248_2;replace hx248_3:=(HB.out.cell (World.block_lt_of_cell? w _ hx248_3)).trans hx248_3;replace p248:=eq_true p248;replace q248:=eq_true q248;obtain ⟨_,_,_,_,_,_,_,_,_,_⟩:=bk5 BK246;have p249:0≤(x5_2:Int):=od;have q249:x5_2 < (l1_1.length:Int):=od;obtain ⟨ad249,e249,hx249_0,hx249_1,hx249_2,hx249_3⟩:=at_T48 HR1_1.out x5_2 p249 q249
         cases e249
         replace hx249_0:=(HB.out.cell (World.block_lt_of_cell? w _ hx249_0)).trans hx249_0;replace hx249_1:=(HB.out.cell (World.block_lt_of_cell? w _ hx249_1)).trans hx249_1;replace hx249_2:=(HB.out.cell (World.block_lt_of_cell? w _ hx249_2)).trans hx249_2;replace hx249_3:=(HB.out.cell (World.block_lt_of_cell? w _ hx249_3)).trans hx249_3;replace p249:=eq_true p249;replace q249:=eq_true q249;go_wp2
         repeat (go_quiet (fail);try go_wp2)
         go_ret
         exact ⟨zq4,zq44⟩
        have c30b0:(!(((rd_T48 l0_1 x5_2).f0) == ((rd_T48 l1_1 x5_2).f0)) || (!(((rd_T48 l0_1 x5_2).f1) == ((rd_T48 l1_1 x5_2).f1)) || (!((((rd_T48 l0_1 x5_2).f2).toList) == (((rd_T48 l1_1 x5_2).f2).toList)) || (!(((rd_T48 l0_1 x5_2).f3) == ((rd_T48 l1_1 x5_2).f3))))))=false:=by simpa using c30
        clear c30;have H':=sd H;clear H;have hnb34:=NB245_246.out;have hnc34:=NB246_245.out;obtain ⟨_,_,_,_,_,_,_,_,_,_⟩:=bk5 BK245;have p248:0≤(x5_2:Int):=od;have q248:x5_2 < (l0_1.length:Int):=od;obtain ⟨ad248,e248,hx248_0,hx248_1,hx248_2,hx248_3⟩:=at_T48 HR0_1.out x5_2 p248 q248
        cases e248
        replace hx248_0:=(HB.out.cell (World.block_lt_of_cell? w _ hx248_0)).trans hx248_0;replace hx248_1:=(HB.out.cell (World.block_lt_of_cell? w _ hx248_1)).trans hx248_1;replace hx248_2:=(HB.out.cell (World.block_lt_of_cell? w _ hx248_2)).trans hx248_2;replace hx248_3:=(HB.out.cell (World.block_lt_of_cell? w _ hx248_3)).trans hx248_3;replace p248:=eq_true p248;replace q248:=eq_true q248;obtain ⟨_,_,_,_,_,_,_,_,_,_⟩:=bk5 BK246;have p249:0≤(x5_2:Int):=od;have q249:x5_2 < (l1_1.length:Int):=od;obtain ⟨ad249,e249,hx249_0,hx249_1,hx249_2,hx249_3⟩:=at_T48 HR1_1.out x5_2 p249 q249
        cases e249
        replace hx249_0:=(HB.out.cell (World.block_lt_of_cell? w _ hx249_0)).trans hx249_0;replace hx249_1:=(HB.out.cell (World.block_lt_of_cell? w _ hx249_1)).trans hx249_1;replace hx249_2:=(HB.out.cell (World.block_lt_of_cell? w _ hx249_2)).trans hx249_2;replace hx249_3:=(HB.out.cell (World.block_lt_of_cell? w _ hx249_3)).trans hx249_3;replace p249:=eq_true p249;replace q249:=eq_true q249;go_wp2
        repeat (go_quiet (fail);try go_wp2)
        go_roundg k2
        case measure=>have:=HJ2.out;have:=HK2.out;omega
        case rel=>exact ⟨(wrap64 (x5_2+1)),zq7,H',⟨by have:=HJ2.out;have:=HK2.out;omega⟩,⟨zq42⟩,⟨zq43⟩,⟨zq44⟩⟩
       exact absurd H (by simp)
      exact absurd H (by simp)
     have c27b0:decide (x5_2 < (l0_1.length:Int))=false:=decide_eq_false c27;clear c27;obtain rfl:=Option.some.inj H;have hnb37:=NB245_246.out;have hnc37:=NB246_245.out;obtain ⟨_,_,_,_,_,_,_,_,_,_⟩:=bk5 BK245;go_wp2
     repeat (go_quiet (fail);try go_wp2)
     go_ret
     exact ⟨zq4,zq44⟩
end Go.Proofs.YtkbgkekegjfkfaaGreatDoor.A
namespace Go.Proofs.YtkbgkekegjfkfaaGreatDoor.A
open Go.RowKit B WW WL WM
attribute [local go_sem] max2_int min2_int max_two min_two max_three min_three max_four min_four
set_option maxHeartbeats 8000000
set_option maxRecDepth 100000
theorem lw48_large.calls (k:Nat) (a0_0:ByteArray) (A0_1:Option Addr) (c0_1:Nat) (l0_1:List (S48)) (a0_2 a0_3:ByteArray) (A0_4:Option Addr) (c0_4:Nat) (l0_4:List (S50)) (r:Bool) (w:World) (hr0_1:Kd.C k48 w A0_1 l0_1.length l0_1) (hc0_1:l0_1.length≤c0_1) (hr0_4:Kd.C k50 w A0_4 l0_4.length l0_4) (hc0_4:l0_4.length≤c0_4) (h:lw48_large.f k a0_0 l0_1 a0_2 a0_3 l0_4=some r) :
  Calls Tryz.prog 8 #[.agg #[.string a0_0,.slice A0_1 l0_1.length c0_1,.string a0_2,.string a0_3,.slice A0_4 l0_4.length c0_4]] w fun e w'=>e=.returned (.bool r)∧Below w.heap.size w w':=by
 have hu25:=Tryz.underlying25;have HR0_1:=sd hr0_1;have HC0_1:=sd hc0_1;clear hr0_1 hc0_1;have HR0_4:=sd hr0_4;have HC0_4:=sd hc0_4;clear hr0_4 hc0_4;have HB:=sd (Below.refl w.heap.size w);have H:=h;clear h;unfold lw48_large.f at H;have HC2:=sd H;clear H;go_enter Tryz.func8,Tryz.ntmps8
 go_upto_region 1 with (first | ((with_reducible refine gate_dst (N:=1) rfl ?_);(try (refine gate_guard (by rfl) ?_;dsimp only));refine bxA 1 #[.string a0_0,.slice A0_1 l0_1.length c0_1,.string a0_2,.string a0_3,.slice A0_4 l0_4.length c0_4] 25 ?_;intro gb101 hg w3 hbox hb;have BK101:=sd (hbox);have GW101:=gem hg HB;have GE101:=GW101;replace HB:=hbm HB hb;clear hb hbox hg))
 repeat (go_quiet (first | ((with_reducible refine gate_dst (N:=1) rfl ?_);(try (refine gate_guard (by rfl) ?_;dsimp only));refine bxA 1 #[.string a0_0,.slice A0_1 l0_1.length c0_1,.string a0_2,.string a0_3,.slice A0_4 l0_4.length c0_4] 25 ?_;intro gb101 hg w3 hbox hb;have BK101:=sd (hbox);have GW101:=gem hg HB;have GE101:=GW101;replace HB:=hbm HB hb;clear hb hbox hg));go_upto_region 1 with (first | ((with_reducible refine gate_dst (N:=1) rfl ?_);(try (refine gate_guard (by rfl) ?_;dsimp only));refine bxA 1 #[.string a0_0,.slice A0_1 l0_1.length c0_1,.string a0_2,.string a0_3,.slice A0_4 l0_4.length c0_4] 25 ?_;intro gb101 hg w3 hbox hb;have BK101:=sd (hbox);have GW101:=gem hg HB;have GE101:=GW101;replace HB:=hbm HB hb;clear hb hbox hg)))
 (try simp only [Act.put,List.setIfInBounds_toArray,List.set_cons_zero,List.set_cons_succ])
 go_cut [28] (fun v28 wc=>∃ (kq:Nat) (x28_1:Bool),v28=.bool x28_1∧Aside0 (lw48_large.j0 kq x28_1 a0_0 l0_1 a0_2 a0_3 l0_4=some r)∧Aside0 (kq≤k)∧Aside0 (wc.heap[gb101]?=some (.cells #[.string a0_0,(.slice A0_1 l0_1.length c0_1),.string a0_2,.string a0_3,(.slice A0_4 l0_4.length c0_4)] 25 (0,0)))∧Aside0 (Below w.heap.size w wc))
 case first =>
  have H:=HC2.out;clear HC2;replace H:=ifI H;rcases H with ⟨c4,H⟩ | ⟨c4,H⟩
  ·have c4b0:decide (20 < (l0_1.length:Int))=true:=decide_eq_true c4;have c4b1:decide (20 < l0_1.length)=true:=decide_eq_true (by omega);clear c4;(first | rw [c4b0] | (simp only [i64_w,i32_w];rw [c4b0]) | skip)
   have H':=sd H;clear H;obtain ⟨_,_,_,_,_,_,_,_,_,_⟩:=bk5 BK101;go_wp2
   repeat (go_quiet (fail);try go_wp2)
   go_meet
   case rel=>exact ⟨_,(true),zq7,H',⟨by first | omega | exact Nat.le_refl _⟩,⟨zq93⟩,⟨zq94⟩⟩
  have c4b0:decide (20 < (l0_1.length:Int))=false:=decide_eq_false c4;have c4b1:decide (20 < l0_1.length)=false:=decide_eq_false (by omega);clear c4;(first | rw [c4b0] | (simp only [i64_w,i32_w];rw [c4b0]) | skip)
  replace H:=ifI H;rcases H with ⟨c6,H⟩ | ⟨c6,H⟩
  ·have c6b0:decide (20 < (l0_4.length:Int))=true:=decide_eq_true c6;have c6b1:decide (20 < l0_4.length)=true:=decide_eq_true (by omega);clear c6;have H':=sd H;clear H;obtain ⟨_,_,_,_,_,_,_,_,_,_⟩:=bk5 BK101;go_wp2
   repeat (go_quiet (fail);try go_wp2)
   go_meet
   case rel=>exact ⟨_,(true),zq7,H',⟨by first | omega | exact Nat.le_refl _⟩,⟨zq93⟩,⟨zq94⟩⟩
  have c6b0:decide (20 < (l0_4.length:Int))=false:=decide_eq_false c6;have c6b1:decide (20 < l0_4.length)=false:=decide_eq_false (by omega);clear c6;have H':=sd H;clear H;obtain ⟨_,_,_,_,_,_,_,_,_,_⟩:=bk5 BK101;go_wp2
  repeat (go_quiet (fail);try go_wp2)
  go_meet
  case rel=>exact ⟨_,(decide ((wrap64 ((wrap64 ((a0_0.size:Int)+(a0_2.size:Int)))+(a0_3.size:Int))) > 400)),zq7,H',⟨by first | omega | exact Nat.le_refl _⟩,⟨zq93⟩,⟨zq94⟩⟩
 case rest =>
  clear HC2;try clear p2
  try clear c4
  try clear c4b0
  try clear c4b1
  try clear c6
  try clear c6b0
  try clear c6b1
  try clear p6
  try clear c8
  try clear hcz5_0
  try clear hcz5_1
  try clear hcz5_2
  try clear hcz5_3
  try clear hcz5_4
  try clear hcz7_0
  try clear hcz7_1
  try clear hcz7_2
  try clear hcz7_3
  try clear hcz7_4
  try clear hcz8_0
  try clear hcz8_1
  try clear hcz8_2
  try clear hcz8_3
  try clear hcz8_4
  try clear hfz5_0
  try clear hfz5_1
  try clear hfz5_2
  try clear hfz5_3
  try clear hfz5_4
  try clear hfz7_0
  try clear hfz7_1
  try clear hfz7_2
  try clear hfz7_3
  try clear hfz7_4
  try clear hfz8_0
  try clear hfz8_1
  try clear hfz8_2
  try clear hfz8_3
  try clear hfz8_4
  obtain ⟨kq,x28_1,rfl,HA,HJ1,BK101,HB⟩:=hcut
  cases kq with
  | zero=>exact absurd HA.out (by simp [lw48_large.j0])
  | succ kj1 =>
   have H:=HA.out;clear HA;simp only [lw48_large.j0] at H
   by_cases c9:x28_1=true
   ·subst c9;rw [if_pos rfl] at H;obtain rfl:=Option.some.inj H;go_wp2
    repeat (go_quiet (fail);try go_wp2)
    go_ret
    exact ⟨zq4,zq94⟩
   replace c9:=Bool.eq_false_iff.mpr c9;subst c9;rw [if_neg Bool.false_ne_true] at H;have H':=sd H;clear H;go_wp2
   repeat (go_quiet (fail);try go_wp2)
   go_loopg [3] kj1 (fun kq v3 w'=>∃ (x3_2:Int),v3=.int .i64 x3_2∧Aside0 (lw48_large.l0 kq x3_2 a0_0 l0_1 a0_2 a0_3 l0_4=some r)∧Aside0 (kq≤kj1)∧Aside0 (w'.heap[gb101]?=some (.cells #[.string a0_0,(.slice A0_1 l0_1.length c0_1),.string a0_2,.string a0_3,(.slice A0_4 l0_4.length c0_4)] 25 (0,0)))∧Aside0 (Below w.heap.size w w'))
   case atStart=>exact ⟨(0),zq7,H',⟨Nat.le_refl _⟩,⟨zq93⟩,⟨zq94⟩⟩
   case round =>
    clear H';try clear p2
    try clear c4
    try clear c4b0
    try clear c4b1
    try clear c6
    try clear c6b0
    try clear c6b1
    try clear p6
    try clear c8
    try clear c9
    try clear hcz5_0
    try clear hcz5_1
    try clear hcz5_2
    try clear hcz5_3
    try clear hcz5_4
    try clear hcz7_0
    try clear hcz7_1
    try clear hcz7_2
    try clear hcz7_3
    try clear hcz7_4
    try clear hcz8_0
    try clear hcz8_1
    try clear hcz8_2
    try clear hcz8_3
    try clear hcz8_4
    try clear hfz5_0
    try clear hfz5_1
    try clear hfz5_2
    try clear hfz5_3
    try clear hfz5_4
    try clear hfz7_0
    try clear hfz7_1
    try clear hfz7_2
    try clear hfz7_3
    try clear hfz7_4
    try clear hfz8_0
    try clear hfz8_1
    try clear hfz8_2
    try clear hfz8_3
    try clear hfz8_4
    try clear p2
    try clear p6
    obtain ⟨x3_2,rfl,HA,HK2,BK101,HB⟩:=hrel
    cases gk with
    | zero=>exact absurd HA.out (by simp [lw48_large.l0])
    | succ k2 =>
     have H:=HA.out;clear HA;simp only [lw48_large.l0] at H
     replace H:=ifI H;rcases H with ⟨c10,H⟩ | ⟨c10,H⟩
     ·have c10b0:decide (x3_2 < (l0_1.length:Int))=true:=decide_eq_true c10;clear c10;replace H:=ifI H;rcases H with ⟨c11,H⟩ | ⟨c11,H⟩
      ·have c11b0:decide (0≤x3_2)=true:=decide_eq_true c11;clear c11;replace H:=ifI H;rcases H with ⟨c12,H⟩ | ⟨c12,H⟩
       ·have c12b0:decide (400 < (((rd_T48 l0_1 x3_2).f2).size:Int))=true:=decide_eq_true c12;have c12b1:decide (400 < ((rd_T48 l0_1 x3_2).f2).size)=true:=decide_eq_true (by omega);clear c12;obtain rfl:=Option.some.inj H;obtain ⟨_,_,_,_,_,_,_,_,_,_⟩:=bk5 BK101;have p102:0≤(x3_2:Int):=od;have q102:x3_2 < (l0_1.length:Int):=od;obtain ⟨ad102,e102,hx102_0,hx102_1,hx102_2,hx102_3⟩:=at_T48 HR0_1.out x3_2 p102 q102
        cases e102
        replace hx102_0:=(HB.out.cell (World.block_lt_of_cell? w _ hx102_0)).trans hx102_0;replace hx102_1:=(HB.out.cell (World.block_lt_of_cell? w _ hx102_1)).trans hx102_1;replace hx102_2:=(HB.out.cell (World.block_lt_of_cell? w _ hx102_2)).trans hx102_2;replace hx102_3:=(HB.out.cell (World.block_lt_of_cell? w _ hx102_3)).trans hx102_3;replace p102:=eq_true p102;replace q102:=eq_true q102;go_wp2
        repeat (go_quiet (fail);try go_wp2)
        go_ret
        exact ⟨zq4,zq94⟩
       have c12b0:decide (400 < (((rd_T48 l0_1 x3_2).f2).size:Int))=false:=decide_eq_false c12;have c12b1:decide (400 < ((rd_T48 l0_1 x3_2).f2).size)=false:=decide_eq_false (by omega);clear c12;have H':=sd H;clear H;obtain ⟨_,_,_,_,_,_,_,_,_,_⟩:=bk5 BK101;have p102:0≤(x3_2:Int):=od;have q102:x3_2 < (l0_1.length:Int):=od;obtain ⟨ad102,e102,hx102_0,hx102_1,hx102_2,hx102_3⟩:=at_T48 HR0_1.out x3_2 p102 q102
       cases e102
       replace hx102_0:=(HB.out.cell (World.block_lt_of_cell? w _ hx102_0)).trans hx102_0;replace hx102_1:=(HB.out.cell (World.block_lt_of_cell? w _ hx102_1)).trans hx102_1;replace hx102_2:=(HB.out.cell (World.block_lt_of_cell? w _ hx102_2)).trans hx102_2;replace hx102_3:=(HB.out.cell (World.block_lt_of_cell? w _ hx102_3)).trans hx102_3;replace p102:=eq_true p102;replace q102:=eq_true q102;go_wp2
       repeat (go_quiet (fail);try go_wp2)
       go_roundg k2
       case measure=>have:=HJ1.out;have:=HK2.out;omega
       case rel=>exact ⟨(wrap64 (x3_2+1)),zq7,H',⟨zq23⟩,⟨zq93⟩,⟨zq94⟩⟩
      exact absurd H (by simp)
     have c10b0:decide (x3_2 < (l0_1.length:Int))=false:=decide_eq_false c10;clear c10;have H':=sd H;clear H;obtain ⟨_,_,_,_,_,_,_,_,_,_⟩:=bk5 BK101;go_wp2
     repeat (go_quiet (fail);try go_wp2)
     go_loopg [4] k2 (fun kq v4 w'=>∃ (x4_3:Int),v4=.int .i64 x4_3∧Aside0 (lw48_large.l1 kq x4_3 a0_0 l0_1 a0_2 a0_3 l0_4=some r)∧Aside0 (kq≤k2)∧Aside0 (w'.heap[gb101]?=some (.cells #[.string a0_0,(.slice A0_1 l0_1.length c0_1),.string a0_2,.string a0_3,(.slice A0_4 l0_4.length c0_4)] 25 (0,0)))∧Aside0 (Below w.heap.size w w'))
     case atStart=>exact ⟨(0),zq7,H',⟨Nat.le_refl _⟩,⟨zq93⟩,⟨zq94⟩⟩
     case round =>
      clear H';try clear c1
      try clear p1
      try clear q1
      try clear hx1
      try clear p2
      try clear c4
      try clear c4b0
      try clear c4b1
      try clear c6
      try clear c6b0
      try clear c6b1
      try clear p6
      try clear c8
      try clear c9
      try clear c10
      try clear c10b0
      try clear p10
      try clear q10
      try clear hx10
      try clear c11
      try clear c11b0
      try clear c12
      try clear c12b0
      try clear c12b1
      try clear hcz13_0
      try clear hcz13_1
      try clear hcz13_2
      try clear hcz13_3
      try clear hcz13_4
      try clear hcz14_0
      try clear hcz14_1
      try clear hcz14_2
      try clear hcz14_3
      try clear hcz14_4
      try clear hcz15_0
      try clear hcz15_1
      try clear hcz15_2
      try clear hcz15_3
      try clear hcz15_4
      try clear hcz5_0
      try clear hcz5_1
      try clear hcz5_2
      try clear hcz5_3
      try clear hcz5_4
      try clear hcz7_0
      try clear hcz7_1
      try clear hcz7_2
      try clear hcz7_3
      try clear hcz7_4
      try clear hcz8_0
      try clear hcz8_1
      try clear hcz8_2
      try clear hcz8_3
      try clear hcz8_4
      try clear hfz13_0
      try clear hfz13_1
      try clear hfz13_2
      try clear hfz13_3
      try clear hfz13_4
      try clear hfz14_0
      try clear hfz14_1
      try clear hfz14_2
      try clear hfz14_3
      try clear hfz14_4
      try clear hfz15_0
      try clear hfz15_1
      try clear hfz15_2
      try clear hfz15_3
      try clear hfz15_4
      try clear hfz5_0
      try clear hfz5_1
      try clear hfz5_2
      try clear hfz5_3
      try clear hfz5_4
      try clear hfz7_0
      try clear hfz7_1
      try clear hfz7_2
      try clear hfz7_3
      try clear hfz7_4
      try clear hfz8_0
      try clear hfz8_1
      try clear hfz8_2
      try clear hfz8_3
      try clear hfz8_4
      try clear hx102_0
      try clear hx102_1
      try clear hx102_2
      try clear hx102_3
      try clear p102
      try clear p2
      try clear p6
      try clear q102
      obtain ⟨x4_3,rfl,HA,HK3,BK101,HB⟩:=hrel
      cases gk with
      | zero=>exact absurd HA.out (by simp [lw48_large.l1])
      | succ k3 =>
       have H:=HA.out;clear HA;simp only [lw48_large.l1] at H
       replace H:=ifI H;rcases H with ⟨c16,H⟩ | ⟨c16,H⟩
       ·have c16b0:decide (x4_3 < (l0_4.length:Int))=true:=decide_eq_true c16;clear c16;replace H:=ifI H;rcases H with ⟨c17,H⟩ | ⟨c17,H⟩
        ·have c17b0:decide (0≤x4_3)=true:=decide_eq_true c17;clear c17;replace H:=ifI H;rcases H with ⟨c18,H⟩ | ⟨c18,H⟩
         ·have c18b0:decide (400 < (wrap64 ((((rd_T50 l0_4 x4_3).f0).size:Int)+(((rd_T50 l0_4 x4_3).f1).size:Int))))=true:=decide_eq_true c18;clear c18;obtain rfl:=Option.some.inj H;obtain ⟨_,_,_,_,_,_,_,_,_,_⟩:=bk5 BK101;have p103:0≤(x4_3:Int):=od;have q103:x4_3 < (l0_4.length:Int):=od;obtain ⟨ad103,e103,hx103_0,hx103_1⟩:=at_T50 HR0_4.out x4_3 p103 q103
          cases e103
          replace hx103_0:=(HB.out.cell (World.block_lt_of_cell? w _ hx103_0)).trans hx103_0;replace hx103_1:=(HB.out.cell (World.block_lt_of_cell? w _ hx103_1)).trans hx103_1;replace p103:=eq_true p103;replace q103:=eq_true q103;have p104:0≤(x4_3:Int):=od;have q104:x4_3 < (l0_4.length:Int):=od;obtain ⟨ad104,e104,hx104_0,hx104_1⟩:=at_T50 HR0_4.out x4_3 p104 q104;obtain rfl:ad103=ad104:=(by injection e104)
          replace hx104_0:=(HB.out.cell (World.block_lt_of_cell? w _ hx104_0)).trans hx104_0;replace hx104_1:=(HB.out.cell (World.block_lt_of_cell? w _ hx104_1)).trans hx104_1;replace p104:=eq_true p104;replace q104:=eq_true q104;go_wp2
          repeat (go_quiet (fail);try go_wp2)
          go_ret
          exact ⟨zq4,zq94⟩
         have c18b0:decide (400 < (wrap64 ((((rd_T50 l0_4 x4_3).f0).size:Int)+(((rd_T50 l0_4 x4_3).f1).size:Int))))=false:=decide_eq_false c18;clear c18;have H':=sd H;clear H;obtain ⟨_,_,_,_,_,_,_,_,_,_⟩:=bk5 BK101;have p103:0≤(x4_3:Int):=od;have q103:x4_3 < (l0_4.length:Int):=od;obtain ⟨ad103,e103,hx103_0,hx103_1⟩:=at_T50 HR0_4.out x4_3 p103 q103
         cases e103
         replace hx103_0:=(HB.out.cell (World.block_lt_of_cell? w _ hx103_0)).trans hx103_0;replace hx103_1:=(HB.out.cell (World.block_lt_of_cell? w _ hx103_1)).trans hx103_1;replace p103:=eq_true p103;replace q103:=eq_true q103;have p104:0≤(x4_3:Int):=od;have q104:x4_3 < (l0_4.length:Int):=od;obtain ⟨ad104,e104,hx104_0,hx104_1⟩:=at_T50 HR0_4.out x4_3 p104 q104;obtain rfl:ad103=ad104:=(by injection e104)
         replace hx104_0:=(HB.out.cell (World.block_lt_of_cell? w _ hx104_0)).trans hx104_0;replace hx104_1:=(HB.out.cell (World.block_lt_of_cell? w _ hx104_1)).trans hx104_1;replace p104:=eq_true p104;replace q104:=eq_true q104;go_wp2
         repeat (go_quiet (fail);try go_wp2)
         go_roundg k3
         case measure=>have:=HJ1.out;have:=HK2.out;have:=HK3.out;omega
         case rel=>exact ⟨(wrap64 (x4_3+1)),zq7,H',⟨by have:=HJ1.out;have:=HK2.out;have:=HK3.out;omega⟩,⟨zq93⟩,⟨zq94⟩⟩
        exact absurd H (by simp)
       have c16b0:decide (x4_3 < (l0_4.length:Int))=false:=decide_eq_false c16;clear c16;obtain rfl:=Option.some.inj H;obtain ⟨_,_,_,_,_,_,_,_,_,_⟩:=bk5 BK101;go_wp2
       repeat (go_quiet (fail);try go_wp2)
       go_ret
       exact ⟨zq4,zq94⟩
end Go.Proofs.YtkbgkekegjfkfaaGreatDoor.A
