-- By pack.py, a program of this session's.
import Derived.Test.YtkbgkekegjfkfaaGreatDoorZ11
import Derived.Test.YtkbgkekegjfkfaaGreatDoorZ12
import Derived.Test.YtkbgkekegjfkfaaGreatDoorZ14
import Derived.Test.YtkbgkekegjfkfaaGreatDoorZ15
import Derived.Test.YtkbgkekegjfkfaaGreatDoorZ16
set_option linter.unusedVariables false
set_option linter.unusedSimpArgs false
namespace Go.Proofs.YtkbgkekegjfkfaaGreatDoor
namespace A
open Go.RowKit B WW WL WM
attribute [local go_sem] max2_int min2_int max_two min_two max_three min_three max_four min_four
set_option maxHeartbeats 8000000
set_option maxRecDepth 100000
mutual
def rules_Check.j0:Nat→Bool→ByteArray→List (S48)→ByteArray→ByteArray→List (S50)→Option (Int)
|0,_,_,_,_,_,_=>none
|k+1,x6,x118000,x118001,x118002,x118003,x118004=>if x6=true then (some 7) else ((dims_Right.f k x118004).bind fun t121=>(if t121=true then (if (x118001.length:Int)=0 then (some 2) else (if (x118001.length:Int) > 8 then (some 9) else (rules_Check.l0 k x118001 (x118001.length:Int) 0))) else (some 14)))
def rules_Check.l0:Nat→List (S48)→Int→Int→Option (Int)
|0,_,_,_=>none
|k+1,x44,x45,x46=>if x46 < x45 then (if 0≤x46 then (if x46 < (x44.length:Int) then ((rules_cond.f k ((rd_T48 x44 x46).f0) ((rd_T48 x44 x46).f1) ((rd_T48 x44 x46).f2) ((rd_T48 x44 x46).f3)).bind fun t124=>(if t124=0 then (rules_Check.l0 k x44 x45 (wrap64 (x46+1))) else (some t124))) else (none)) else (none)) else (some 0)
end
def rules_Check.f (k:Nat) (a0_0:ByteArray) (l0_1:List (S48)) (a0_2:ByteArray) (a0_3:ByteArray) (l0_4:List (S50)):Option (Int):=(words_Code.f a0_0).bind fun t118=>(if t118=true then ((words_Code.f a0_2).bind fun t119=>(if t119=true then (if a0_3.toList=([]:List UInt8) then (rules_Check.j0 k false a0_0 l0_1 a0_2 a0_3 l0_4) else ((words_Code.f a0_3).bind fun t120=>(rules_Check.j0 k (!t120) a0_0 l0_1 a0_2 a0_3 l0_4))) else (rules_Check.j0 k true a0_0 l0_1 a0_2 a0_3 l0_4))) else (rules_Check.j0 k true a0_0 l0_1 a0_2 a0_3 l0_4))
def rules_Text.f (k:Nat) (nm:ByteArray) (cs:List S48) (acc par:ByteArray) (tg:List S50):Option (ByteArray×Int) :=
 (rules_Check.f k nm cs acc par tg).bind fun e=>if e=0 then (if cs.length≤1000000∧tg.length≤1000000 then (txC k cs [ruleB,nm] ifB).bind fun l =>
  txJ (txT tg (if par.toList=[] then l++[thenB,acc] else l++[thenB,acc]++[partyB,par])) else none) else some (⟨#[]⟩,e)
theorem words_word.calls (k:Nat) (a0:ByteArray) (a1 r1:Int) (r2:ByteArray) (r3 r4 r5 r6:Int) (w:World) (h:words_word.f k a0 a1=some (r1,r2,r3,r4,r5,r6)) :
  Calls Tryz.prog 80 #[.string a0,.int .i64 a1] w fun e w'=>e=.returned (.tuple #[.agg #[.int .i64 r1,.string r2,.int .i64 r3],.int .i64 r4,.agg #[.int .i64 r5,.int .i64 r6]])∧Below w.heap.size w w':=by
 have HPost:∀ W,Below w.heap.size w W→(fun (e:Ending) (w':World)=>e=.returned (.tuple #[.agg #[.int .i64 r1,.string r2,.int .i64 r3],.int .i64 r4,.agg #[.int .i64 r5,.int .i64 r6]])∧Below w.heap.size w w') (.returned (.tuple #[.agg #[.int .i64 r1,.string r2,.int .i64 r3],.int .i64 r4,.agg #[.int .i64 r5,.int .i64 r6]])) W:=fun W hW=>⟨rfl,hW⟩
 generalize (fun (e:Ending) (w':World)=>e=.returned (.tuple #[.agg #[.int .i64 r1,.string r2,.int .i64 r3],.int .i64 r4,.agg #[.int .i64 r5,.int .i64 r6]])∧Below w.heap.size w w')=Post at HPost ⊢;have HP:=sd HPost;clear HPost;unfold words_word.f at h;split at h
 case isFalse=>cases h
 rename_i hb
 obtain ⟨hb0,hb1,hs⟩:=hb;obtain ⟨i,rfl⟩:=Int.eq_ofNat_of_zero_le hb0;have hi:i < a0.size:=by omega
 clear hb0 hb1;rw [show bt a0 (i:Int)=(a0[i].toNat:Int) from (bt_at a0 i hi).symm] at h;obtain ⟨c,hc⟩:∃ c,a0[i]=c:=⟨_,rfl⟩
 rw [hc] at h;replace h:=Option.bind_eq_some_iff.mp h;obtain ⟨l,hl,h⟩:=h;have CL:=sd (fun W=>words_letter.calls (c.toNat:Int) l W hl);clear hl
 cases l
 ·rw [if_neg (by decide)] at h;replace h:=Option.bind_eq_some_iff.mp h;obtain ⟨d,hd,h⟩:=h;have CD:=sd (fun W=>words_digit.calls (c.toNat:Int) d W hd);clear hd
  cases d
  ·rw [if_neg (by decide)] at h;by_cases h45:(c.toNat:Int)=45
   ·rw [if_pos h45] at h;replace h:=Option.bind_eq_some_iff.mp h;obtain ⟨b,hb,h⟩:=h;have CA:=sd (fun W=>words_digitAt.calls a0 ((i:Int)+1) b W hb);have s45:((c.toNat:Int) == 45)=true:=beq_iff_eq.mpr h45;clear hb
    cases b
    ·rw [if_neg (by decide)] at h;unfold words_word.h at h;rw [show bt a0 (i:Int)=(c.toNat:Int) by rw [← hc];exact (bt_at a0 i hi).symm] at h;have h34:¬ (c.toNat:Int)=34:=by omega
     clear h45;rw [if_neg h34] at h;have s34:((c.toNat:Int) == 34)=false:=beq_eq_false_iff_ne.mpr h34;clear h34;replace h:=Option.bind_eq_some_iff.mp h;obtain ⟨e,he,h⟩:=h;have CN:=sd (fun W=>words_signEnd.calls k a0 (i:Int) e W he);clear he;by_cases hei:e=(i:Int)
     ·rw [if_pos hei] at h;subst hei;simp only [Option.some.injEq,Prod.mk.injEq] at h
      obtain ⟨rfl,rfl,rfl,rfl,rfl,rfl⟩:=h;go_enter Tryz.func80,Tryz.ntmps80
      go_wp2_with fail
      refine (CL.out _).mono ?_;rintro e w' ⟨rfl,nd0,rfl⟩;go_wp2_with fail
      refine (CD.out _).mono ?_;rintro e w' ⟨rfl,nd1,rfl⟩;go_wp2_with fail
      refine (CA.out _).mono ?_;rintro e w' ⟨rfl,nd2,rfl⟩;go_wp2_with fail
      refine (CN.out _).mono ?_;rintro e w' ⟨rfl,nd3,rfl⟩;go_wp2_with fail
      exact word_ret _ _ _ w.heap.size 4 ⟨#[]⟩ (i:Int) ((i:Int)) ((i:Int)) (5) rfl rfl rfl zq1 zq1 zq1 zq1 zq1 (HP.out _ zq2)
     rw [if_neg hei] at h;unfold words_word.g at h;split at h
     case isFalse=>cases h
     rename_i hb
     obtain ⟨q0,q1⟩:=hb;obtain ⟨n,rfl⟩:=Int.eq_ofNat_of_zero_le (show 0≤e by omega);simp only [Int.toNat_natCast,Option.some.injEq,Prod.mk.injEq] at h
     obtain ⟨rfl,rfl,rfl,rfl,rfl,rfl⟩:=h;have hne:((n:Int) == (i:Int))=false:=beq_eq_false_iff_ne.mpr hei;clear hei;have hsz:(a0.extract i n).size=n - i:=by rw [ByteArray.size_extract];omega
     by_cases hm:(60:Int) < (n:Int) - (i:Int)
     ·rw [if_pos hm,if_pos hm] at HP;have hm2:60 < n - i:=by omega
      clear hm;go_enter Tryz.func80,Tryz.ntmps80
      go_wp2_with fail
      refine (CL.out _).mono ?_;rintro e w' ⟨rfl,nd0,rfl⟩;go_wp2_with fail
      refine (CD.out _).mono ?_;rintro e w' ⟨rfl,nd1,rfl⟩;go_wp2_with fail
      refine (CA.out _).mono ?_;rintro e w' ⟨rfl,nd2,rfl⟩;go_wp2_with fail
      refine (CN.out _).mono ?_;rintro e w' ⟨rfl,nd3,rfl⟩;go_wp2_with fail
      go_region
      go_wp2_with fail
      exact word_ret _ _ _ w.heap.size 4 (a0.extract i n) (i:Int) ((n:Int)) ((i:Int)) (9) rfl rfl rfl zq1 zq1 zq1 zq1 zq1 (HP.out _ zq2)
     rw [if_neg hm,if_neg hm] at HP;have hm2:¬ 60 < n - i:=by omega
     clear hm;go_enter Tryz.func80,Tryz.ntmps80
     go_wp2_with fail
     refine (CL.out _).mono ?_;rintro e w' ⟨rfl,nd0,rfl⟩;go_wp2_with fail
     refine (CD.out _).mono ?_;rintro e w' ⟨rfl,nd1,rfl⟩;go_wp2_with fail
     refine (CA.out _).mono ?_;rintro e w' ⟨rfl,nd2,rfl⟩;go_wp2_with fail
     refine (CN.out _).mono ?_;rintro e w' ⟨rfl,nd3,rfl⟩;go_wp2_with fail
     go_region
     go_wp2_with fail
     exact word_ret _ _ _ w.heap.size 4 (a0.extract i n) (i:Int) ((n:Int)) (0) (0) rfl rfl rfl zq1 zq1 zq1 zq1 zq1 (HP.out _ zq2)
    ·rw [if_pos rfl] at h;clear h45;replace h:=Option.bind_eq_some_iff.mp h;obtain ⟨e,he,h⟩:=h;have CN:=sd (fun W=>words_numberEnd.calls k a0 (i:Int) e W he);clear he;unfold words_word.g at h;split at h
     case isFalse=>cases h
     rename_i hb
     obtain ⟨q0,q1⟩:=hb;obtain ⟨n,rfl⟩:=Int.eq_ofNat_of_zero_le (show 0≤e by omega);simp only [Int.toNat_natCast,Option.some.injEq,Prod.mk.injEq] at h
     obtain ⟨rfl,rfl,rfl,rfl,rfl,rfl⟩:=h;have hsz:(a0.extract i n).size=n - i:=by rw [ByteArray.size_extract];omega
     by_cases hm:(60:Int) < (n:Int) - (i:Int)
     ·rw [if_pos hm,if_pos hm] at HP;have hm2:60 < n - i:=by omega
      clear hm;go_enter Tryz.func80,Tryz.ntmps80
      go_wp2_with fail
      refine (CL.out _).mono ?_;rintro e w' ⟨rfl,nd0,rfl⟩;go_wp2_with fail
      refine (CD.out _).mono ?_;rintro e w' ⟨rfl,nd1,rfl⟩;go_wp2_with fail
      refine (CA.out _).mono ?_;rintro e w' ⟨rfl,nd2,rfl⟩;go_wp2_with fail
      refine (CN.out _).mono ?_;rintro e w' ⟨rfl,nd3,rfl⟩;go_wp2_with fail
      go_region
      go_wp2_with fail
      exact word_ret _ _ _ w.heap.size 2 (a0.extract i n) (i:Int) ((n:Int)) ((i:Int)) (9) rfl rfl rfl zq1 zq1 zq1 zq1 zq1 (HP.out _ zq2)
     rw [if_neg hm,if_neg hm] at HP;have hm2:¬ 60 < n - i:=by omega
     clear hm;go_enter Tryz.func80,Tryz.ntmps80
     go_wp2_with fail
     refine (CL.out _).mono ?_;rintro e w' ⟨rfl,nd0,rfl⟩;go_wp2_with fail
     refine (CD.out _).mono ?_;rintro e w' ⟨rfl,nd1,rfl⟩;go_wp2_with fail
     refine (CA.out _).mono ?_;rintro e w' ⟨rfl,nd2,rfl⟩;go_wp2_with fail
     refine (CN.out _).mono ?_;rintro e w' ⟨rfl,nd3,rfl⟩;go_wp2_with fail
     go_region
     go_wp2_with fail
     exact word_ret _ _ _ w.heap.size 2 (a0.extract i n) (i:Int) ((n:Int)) (0) (0) rfl rfl rfl zq1 zq1 zq1 zq1 zq1 (HP.out _ zq2)
   rw [if_neg h45] at h;have s45:((c.toNat:Int) == 45)=false:=beq_eq_false_iff_ne.mpr h45;clear h45;unfold words_word.h at h;rw [show bt a0 (i:Int)=(c.toNat:Int) by rw [← hc];exact (bt_at a0 i hi).symm] at h;by_cases h34:(c.toNat:Int)=34
   ·rw [if_pos h34] at h;have s34:((c.toNat:Int) == 34)=true:=beq_iff_eq.mpr h34;clear h34;replace h:=Option.bind_eq_some_iff.mp h;obtain ⟨⟨q,qe,qa,qp⟩,hq,h⟩:=h;have CQ:=sd (fun W=>words_quoted.calls k a0 (i:Int) q qe qa qp W hq);clear hq;dsimp only at h
    by_cases hp:qp=0
    ·subst hp;rw [if_neg (by decide)] at h;simp only [Option.some.injEq,Prod.mk.injEq] at h
     obtain ⟨rfl,rfl,rfl,rfl,rfl,rfl⟩:=h;by_cases hm:(60:Int) < (q.size:Int)
     ·rw [if_pos hm,if_pos hm] at HP;go_enter Tryz.func80,Tryz.ntmps80
      go_wp2_with fail
      refine (CL.out _).mono ?_;rintro e w' ⟨rfl,nd0,rfl⟩;go_wp2_with fail
      refine (CD.out _).mono ?_;rintro e w' ⟨rfl,nd1,rfl⟩;go_wp2_with fail
      refine (CQ.out _).mono ?_;rintro e W1 ⟨rfl,hb⟩;obtain ⟨hc',hf'⟩:=bcell hb;have hz1:w.heap.size+1 < W1.heap.size:=by have:=hb.size;simp at this;omega
      have k0:W1.cell? ⟨w.heap.size,0,none⟩=some (.int .i64 3):=(hc' _ _ (by simp <;> omega)).trans (by simp [go_sem]);have k1:W1.cell? ⟨w.heap.size,1,none⟩=some (.string ⟨#[]⟩):=(hc' _ _ (by simp <;> omega)).trans (by simp [go_sem]);have k2:W1.cell? ⟨w.heap.size,2,none⟩=some (.int .i64 (i:Int)):=(hc' _ _ (by simp <;> omega)).trans (by simp [go_sem]);have k3:W1.cell? ⟨w.heap.size+1,0,none⟩=some (.int .i64 0):=(hc' _ _ (by simp <;> omega)).trans (by simp [go_sem]);have k4:W1.cell? ⟨w.heap.size+1,1,none⟩=some (.int .i64 0):=(hc' _ _ (by simp <;> omega)).trans (by simp [go_sem]);have f0:W1.frozen? ⟨w.heap.size,0,none⟩=false:=(hf' _ _ (by simp <;> omega)).trans (by simp [go_sem]);have f1:W1.frozen? ⟨w.heap.size,1,none⟩=false:=(hf' _ _ (by simp <;> omega)).trans (by simp [go_sem]);have f2:W1.frozen? ⟨w.heap.size,2,none⟩=false:=(hf' _ _ (by simp <;> omega)).trans (by simp [go_sem]);have f3:W1.frozen? ⟨w.heap.size+1,0,none⟩=false:=(hf' _ _ (by simp <;> omega)).trans (by simp [go_sem]);have f4:W1.frozen? ⟨w.heap.size+1,1,none⟩=false:=(hf' _ _ (by simp <;> omega)).trans (by simp [go_sem]);have HB:=sd ((show Below w.heap.size w _ from zq2).trans (hb.mono (by simp <;> omega)));clear hb hc' hf';have HW:=sd (show WordW W1 w.heap.size 3 ⟨#[]⟩ (i:Int) 0 0 from ⟨k0,k1,k2,k3,k4,f0,f1,f2,f3,f4⟩);go_wp2_with fail
      have HW2:=sd (((((HW.out.s q).a qa).e (0)).a (i:Int)).e 9);have HB2:=sd (show Below w.heap.size w (((((W1.setCell ⟨w.heap.size,1,none⟩ (.string q)).setCell ⟨w.heap.size+1,0,none⟩ (.int .i64 qa)).setCell ⟨w.heap.size+1,1,none⟩ (.int .i64 0)).setCell ⟨w.heap.size+1,0,none⟩ (.int .i64 (i:Int))).setCell ⟨w.heap.size+1,1,none⟩ (.int .i64 9)) from below_setN (below_setN (below_setN (below_setN (below_setN (HB.out) (Nat.le_refl _) _) (Nat.le_succ _) _) (Nat.le_succ _) _) (Nat.le_succ _) _) (Nat.le_succ _) _);generalize ((((W1.setCell ⟨w.heap.size,1,none⟩ (.string q)).setCell ⟨w.heap.size+1,0,none⟩ (.int .i64 qa)).setCell ⟨w.heap.size+1,1,none⟩ (.int .i64 0)).setCell ⟨w.heap.size+1,0,none⟩ (.int .i64 (i:Int))).setCell ⟨w.heap.size+1,1,none⟩ (.int .i64 9)=W2 at HW2 HB2 ⊢;clear k0 k1 k2 k3 k4 f0 f1 f2 f3 f4 HB;have HB:=HB2;obtain ⟨k0,k1,k2,k3,k4,f0,f1,f2,f3,f4⟩:=HW2.out;go_region
      go_wp2_with fail
      exact word_ret _ _ _ w.heap.size 3 q (i:Int) qe ((i:Int)) (9) rfl rfl rfl zq1 zq1 zq1 zq1 zq1 (HP.out _ zq3)
     rw [if_neg hm,if_neg hm] at HP;go_enter Tryz.func80,Tryz.ntmps80
     go_wp2_with fail
     refine (CL.out _).mono ?_;rintro e w' ⟨rfl,nd0,rfl⟩;go_wp2_with fail
     refine (CD.out _).mono ?_;rintro e w' ⟨rfl,nd1,rfl⟩;go_wp2_with fail
     refine (CQ.out _).mono ?_;rintro e W1 ⟨rfl,hb⟩;obtain ⟨hc',hf'⟩:=bcell hb;have hz1:w.heap.size+1 < W1.heap.size:=by have:=hb.size;simp at this;omega
     have k0:W1.cell? ⟨w.heap.size,0,none⟩=some (.int .i64 3):=(hc' _ _ (by simp <;> omega)).trans (by simp [go_sem]);have k1:W1.cell? ⟨w.heap.size,1,none⟩=some (.string ⟨#[]⟩):=(hc' _ _ (by simp <;> omega)).trans (by simp [go_sem]);have k2:W1.cell? ⟨w.heap.size,2,none⟩=some (.int .i64 (i:Int)):=(hc' _ _ (by simp <;> omega)).trans (by simp [go_sem]);have k3:W1.cell? ⟨w.heap.size+1,0,none⟩=some (.int .i64 0):=(hc' _ _ (by simp <;> omega)).trans (by simp [go_sem]);have k4:W1.cell? ⟨w.heap.size+1,1,none⟩=some (.int .i64 0):=(hc' _ _ (by simp <;> omega)).trans (by simp [go_sem]);have f0:W1.frozen? ⟨w.heap.size,0,none⟩=false:=(hf' _ _ (by simp <;> omega)).trans (by simp [go_sem]);have f1:W1.frozen? ⟨w.heap.size,1,none⟩=false:=(hf' _ _ (by simp <;> omega)).trans (by simp [go_sem]);have f2:W1.frozen? ⟨w.heap.size,2,none⟩=false:=(hf' _ _ (by simp <;> omega)).trans (by simp [go_sem]);have f3:W1.frozen? ⟨w.heap.size+1,0,none⟩=false:=(hf' _ _ (by simp <;> omega)).trans (by simp [go_sem]);have f4:W1.frozen? ⟨w.heap.size+1,1,none⟩=false:=(hf' _ _ (by simp <;> omega)).trans (by simp [go_sem]);have HB:=sd ((show Below w.heap.size w _ from zq2).trans (hb.mono (by simp <;> omega)));clear hb hc' hf';have HW:=sd (show WordW W1 w.heap.size 3 ⟨#[]⟩ (i:Int) 0 0 from ⟨k0,k1,k2,k3,k4,f0,f1,f2,f3,f4⟩);go_wp2_with fail
     have HW2:=sd (((HW.out.s q).a qa).e (0));have HB2:=sd (show Below w.heap.size w (((W1.setCell ⟨w.heap.size,1,none⟩ (.string q)).setCell ⟨w.heap.size+1,0,none⟩ (.int .i64 qa)).setCell ⟨w.heap.size+1,1,none⟩ (.int .i64 0)) from below_setN (below_setN (below_setN (HB.out) (Nat.le_refl _) _) (Nat.le_succ _) _) (Nat.le_succ _) _);generalize ((W1.setCell ⟨w.heap.size,1,none⟩ (.string q)).setCell ⟨w.heap.size+1,0,none⟩ (.int .i64 qa)).setCell ⟨w.heap.size+1,1,none⟩ (.int .i64 0)=W2 at HW2 HB2 ⊢;clear k0 k1 k2 k3 k4 f0 f1 f2 f3 f4 HB;have HB:=HB2;obtain ⟨k0,k1,k2,k3,k4,f0,f1,f2,f3,f4⟩:=HW2.out;go_region
     go_wp2_with fail
     exact word_ret _ _ _ w.heap.size 3 q (i:Int) qe (qa) (0) rfl rfl rfl zq1 zq1 zq1 zq1 zq1 (HP.out _ zq3)
    rw [if_pos hp] at h;simp only [Option.some.injEq,Prod.mk.injEq] at h
    obtain ⟨rfl,rfl,rfl,rfl,rfl,rfl⟩:=h;have hpb:(qp == 0)=false:=beq_eq_false_iff_ne.mpr hp;clear hp;go_enter Tryz.func80,Tryz.ntmps80
    go_wp2_with fail
    refine (CL.out _).mono ?_;rintro e w' ⟨rfl,nd0,rfl⟩;go_wp2_with fail
    refine (CD.out _).mono ?_;rintro e w' ⟨rfl,nd1,rfl⟩;go_wp2_with fail
    refine (CQ.out _).mono ?_;rintro e W1 ⟨rfl,hb⟩;obtain ⟨hc',hf'⟩:=bcell hb;have hz1:w.heap.size+1 < W1.heap.size:=by have:=hb.size;simp at this;omega
    have k0:W1.cell? ⟨w.heap.size,0,none⟩=some (.int .i64 3):=(hc' _ _ (by simp <;> omega)).trans (by simp [go_sem]);have k1:W1.cell? ⟨w.heap.size,1,none⟩=some (.string ⟨#[]⟩):=(hc' _ _ (by simp <;> omega)).trans (by simp [go_sem]);have k2:W1.cell? ⟨w.heap.size,2,none⟩=some (.int .i64 (i:Int)):=(hc' _ _ (by simp <;> omega)).trans (by simp [go_sem]);have k3:W1.cell? ⟨w.heap.size+1,0,none⟩=some (.int .i64 0):=(hc' _ _ (by simp <;> omega)).trans (by simp [go_sem]);have k4:W1.cell? ⟨w.heap.size+1,1,none⟩=some (.int .i64 0):=(hc' _ _ (by simp <;> omega)).trans (by simp [go_sem]);have f0:W1.frozen? ⟨w.heap.size,0,none⟩=false:=(hf' _ _ (by simp <;> omega)).trans (by simp [go_sem]);have f1:W1.frozen? ⟨w.heap.size,1,none⟩=false:=(hf' _ _ (by simp <;> omega)).trans (by simp [go_sem]);have f2:W1.frozen? ⟨w.heap.size,2,none⟩=false:=(hf' _ _ (by simp <;> omega)).trans (by simp [go_sem]);have f3:W1.frozen? ⟨w.heap.size+1,0,none⟩=false:=(hf' _ _ (by simp <;> omega)).trans (by simp [go_sem]);have f4:W1.frozen? ⟨w.heap.size+1,1,none⟩=false:=(hf' _ _ (by simp <;> omega)).trans (by simp [go_sem]);have HB:=sd ((show Below w.heap.size w _ from zq2).trans (hb.mono (by simp <;> omega)));clear hb hc' hf';have HW:=sd (show WordW W1 w.heap.size 3 ⟨#[]⟩ (i:Int) 0 0 from ⟨k0,k1,k2,k3,k4,f0,f1,f2,f3,f4⟩);go_wp2_with fail
    have HW2:=sd (((HW.out.s q).a qa).e (qp));have HB2:=sd (show Below w.heap.size w (((W1.setCell ⟨w.heap.size,1,none⟩ (.string q)).setCell ⟨w.heap.size+1,0,none⟩ (.int .i64 qa)).setCell ⟨w.heap.size+1,1,none⟩ (.int .i64 qp)) from below_setN (below_setN (below_setN (HB.out) (Nat.le_refl _) _) (Nat.le_succ _) _) (Nat.le_succ _) _);generalize ((W1.setCell ⟨w.heap.size,1,none⟩ (.string q)).setCell ⟨w.heap.size+1,0,none⟩ (.int .i64 qa)).setCell ⟨w.heap.size+1,1,none⟩ (.int .i64 qp)=W2 at HW2 HB2 ⊢;clear k0 k1 k2 k3 k4 f0 f1 f2 f3 f4 HB;have HB:=HB2;obtain ⟨k0,k1,k2,k3,k4,f0,f1,f2,f3,f4⟩:=HW2.out;go_region
    go_wp2_with fail
    exact word_ret _ _ _ w.heap.size 3 q (i:Int) qe (qa) (qp) rfl rfl rfl zq1 zq1 zq1 zq1 zq1 (HP.out _ zq3)
   rw [if_neg h34] at h;have s34:((c.toNat:Int) == 34)=false:=beq_eq_false_iff_ne.mpr h34;clear h34;replace h:=Option.bind_eq_some_iff.mp h;obtain ⟨e,he,h⟩:=h;have CN:=sd (fun W=>words_signEnd.calls k a0 (i:Int) e W he);clear he;by_cases hei:e=(i:Int)
   ·rw [if_pos hei] at h;subst hei;simp only [Option.some.injEq,Prod.mk.injEq] at h
    obtain ⟨rfl,rfl,rfl,rfl,rfl,rfl⟩:=h;go_enter Tryz.func80,Tryz.ntmps80
    go_wp2_with fail
    refine (CL.out _).mono ?_;rintro e w' ⟨rfl,nd0,rfl⟩;go_wp2_with fail
    refine (CD.out _).mono ?_;rintro e w' ⟨rfl,nd1,rfl⟩;go_wp2_with fail
    refine (CN.out _).mono ?_;rintro e w' ⟨rfl,nd2,rfl⟩;go_wp2_with fail
    exact word_ret _ _ _ w.heap.size 4 ⟨#[]⟩ (i:Int) ((i:Int)) ((i:Int)) (5) rfl rfl rfl zq1 zq1 zq1 zq1 zq1 (HP.out _ zq2)
   rw [if_neg hei] at h;unfold words_word.g at h;split at h
   case isFalse=>cases h
   rename_i hb
   obtain ⟨q0,q1⟩:=hb;obtain ⟨n,rfl⟩:=Int.eq_ofNat_of_zero_le (show 0≤e by omega);simp only [Int.toNat_natCast,Option.some.injEq,Prod.mk.injEq] at h
   obtain ⟨rfl,rfl,rfl,rfl,rfl,rfl⟩:=h;have hne:((n:Int) == (i:Int))=false:=beq_eq_false_iff_ne.mpr hei;clear hei;have hsz:(a0.extract i n).size=n - i:=by rw [ByteArray.size_extract];omega
   by_cases hm:(60:Int) < (n:Int) - (i:Int)
   ·rw [if_pos hm,if_pos hm] at HP;have hm2:60 < n - i:=by omega
    clear hm;go_enter Tryz.func80,Tryz.ntmps80
    go_wp2_with fail
    refine (CL.out _).mono ?_;rintro e w' ⟨rfl,nd0,rfl⟩;go_wp2_with fail
    refine (CD.out _).mono ?_;rintro e w' ⟨rfl,nd1,rfl⟩;go_wp2_with fail
    refine (CN.out _).mono ?_;rintro e w' ⟨rfl,nd2,rfl⟩;go_wp2_with fail
    go_region
    go_wp2_with fail
    exact word_ret _ _ _ w.heap.size 4 (a0.extract i n) (i:Int) ((n:Int)) ((i:Int)) (9) rfl rfl rfl zq1 zq1 zq1 zq1 zq1 (HP.out _ zq2)
   rw [if_neg hm,if_neg hm] at HP;have hm2:¬ 60 < n - i:=by omega
   clear hm;go_enter Tryz.func80,Tryz.ntmps80
   go_wp2_with fail
   refine (CL.out _).mono ?_;rintro e w' ⟨rfl,nd0,rfl⟩;go_wp2_with fail
   refine (CD.out _).mono ?_;rintro e w' ⟨rfl,nd1,rfl⟩;go_wp2_with fail
   refine (CN.out _).mono ?_;rintro e w' ⟨rfl,nd2,rfl⟩;go_wp2_with fail
   go_region
   go_wp2_with fail
   exact word_ret _ _ _ w.heap.size 4 (a0.extract i n) (i:Int) ((n:Int)) (0) (0) rfl rfl rfl zq1 zq1 zq1 zq1 zq1 (HP.out _ zq2)
  ·rw [if_pos rfl] at h;replace h:=Option.bind_eq_some_iff.mp h;obtain ⟨e,he,h⟩:=h;have CN:=sd (fun W=>words_numberEnd.calls k a0 (i:Int) e W he);clear he;unfold words_word.g at h;split at h
   case isFalse=>cases h
   rename_i hb
   obtain ⟨q0,q1⟩:=hb;obtain ⟨n,rfl⟩:=Int.eq_ofNat_of_zero_le (show 0≤e by omega);simp only [Int.toNat_natCast,Option.some.injEq,Prod.mk.injEq] at h
   obtain ⟨rfl,rfl,rfl,rfl,rfl,rfl⟩:=h;have hsz:(a0.extract i n).size=n - i:=by rw [ByteArray.size_extract];omega
   by_cases hm:(60:Int) < (n:Int) - (i:Int)
   ·rw [if_pos hm,if_pos hm] at HP;have hm2:60 < n - i:=by omega
    clear hm;go_enter Tryz.func80,Tryz.ntmps80
    go_wp2_with fail
    refine (CL.out _).mono ?_;rintro e w' ⟨rfl,nd0,rfl⟩;go_wp2_with fail
    refine (CD.out _).mono ?_;rintro e w' ⟨rfl,nd1,rfl⟩;go_wp2_with fail
    refine (CN.out _).mono ?_;rintro e w' ⟨rfl,nd2,rfl⟩;go_wp2_with fail
    go_region
    go_wp2_with fail
    exact word_ret _ _ _ w.heap.size 2 (a0.extract i n) (i:Int) ((n:Int)) ((i:Int)) (9) rfl rfl rfl zq1 zq1 zq1 zq1 zq1 (HP.out _ zq2)
   rw [if_neg hm,if_neg hm] at HP;have hm2:¬ 60 < n - i:=by omega
   clear hm;go_enter Tryz.func80,Tryz.ntmps80
   go_wp2_with fail
   refine (CL.out _).mono ?_;rintro e w' ⟨rfl,nd0,rfl⟩;go_wp2_with fail
   refine (CD.out _).mono ?_;rintro e w' ⟨rfl,nd1,rfl⟩;go_wp2_with fail
   refine (CN.out _).mono ?_;rintro e w' ⟨rfl,nd2,rfl⟩;go_wp2_with fail
   go_region
   go_wp2_with fail
   exact word_ret _ _ _ w.heap.size 2 (a0.extract i n) (i:Int) ((n:Int)) (0) (0) rfl rfl rfl zq1 zq1 zq1 zq1 zq1 (HP.out _ zq2)
 ·rw [if_pos rfl] at h;replace h:=Option.bind_eq_some_iff.mp h;obtain ⟨e,he,h⟩:=h;have CN:=sd (fun W=>words_nameEnd.calls k a0 (i:Int) e W he);clear he;unfold words_word.g at h;split at h
  case isFalse=>cases h
  rename_i hb
  obtain ⟨q0,q1⟩:=hb;obtain ⟨n,rfl⟩:=Int.eq_ofNat_of_zero_le (show 0≤e by omega);simp only [Int.toNat_natCast,Option.some.injEq,Prod.mk.injEq] at h
  obtain ⟨rfl,rfl,rfl,rfl,rfl,rfl⟩:=h;have hsz:(a0.extract i n).size=n - i:=by rw [ByteArray.size_extract];omega
  by_cases hm:(12:Int) < (n:Int) - (i:Int)
  ·rw [if_pos hm,if_pos hm] at HP;have hm2:12 < n - i:=by omega
   clear hm;go_enter Tryz.func80,Tryz.ntmps80
   go_wp2_with fail
   refine (CL.out _).mono ?_;rintro e w' ⟨rfl,nd0,rfl⟩;go_wp2_with fail
   refine (CN.out _).mono ?_;rintro e w' ⟨rfl,nd1,rfl⟩;go_wp2_with fail
   go_region
   go_wp2_with fail
   exact word_ret _ _ _ w.heap.size 1 (a0.extract i n) (i:Int) ((n:Int)) ((i:Int)) (9) rfl rfl rfl zq1 zq1 zq1 zq1 zq1 (HP.out _ zq2)
  rw [if_neg hm,if_neg hm] at HP;have hm2:¬ 12 < n - i:=by omega
  clear hm;go_enter Tryz.func80,Tryz.ntmps80
  go_wp2_with fail
  refine (CL.out _).mono ?_;rintro e w' ⟨rfl,nd0,rfl⟩;go_wp2_with fail
  refine (CN.out _).mono ?_;rintro e w' ⟨rfl,nd1,rfl⟩;go_wp2_with fail
  go_region
  go_wp2_with fail
  exact word_ret _ _ _ w.heap.size 1 (a0.extract i n) (i:Int) ((n:Int)) (0) (0) rfl rfl rfl zq1 zq1 zq1 zq1 zq1 (HP.out _ zq2)
theorem rf48_Reader_rule.calls (k g:Nat) (L:List S73) (at0:Int) (fl0:Bool) (nm:ByteArray) (cs:List S48) (acc par:ByteArray) (tg:List S50) (vs:List S87) (at':Int) (fl':Bool) (w0 w:World) (hI:IsS82 w0 w g L at0 fl0) (hB:Below w0.heap.size w0 w) (h:rf48_Reader_rule.f k L at0 fl0=some (nm,cs,acc,par,tg,vs,at',fl')) :
    Calls Tryz.prog 44 #[.pointer (some ⟨g,0,none⟩)] w fun e w'=>∃ vC vT vV,e=.returned (.tuple #[.agg #[.string nm,vC,.string acc,.string par,vT],vV])∧Kd.R k48 48 w' w.heap.size (fun _=>True) vC cs∧Kd.R k50 50 w' w.heap.size (fun _=>True) vT tg∧Kd.R k87 87 w' w.heap.size (fun _=>True) vV vs∧IsS82 w0 w' g L at' fl'∧Below w0.heap.size w0 w'∧KeepBut w w' g none:=by
  unfold rf48_Reader_rule.f at h;obtain ⟨⟨at1,fl1⟩,h1,h⟩:=Option.bind_eq_some_iff.mp h;obtain ⟨⟨n2,at2,fl2⟩,h2,h⟩:=Option.bind_eq_some_iff.mp h;obtain ⟨⟨at3,fl3⟩,h3,h⟩:=Option.bind_eq_some_iff.mp h;obtain ⟨⟨cs4,vs4,at4,fl4⟩,h4,h⟩:=Option.bind_eq_some_iff.mp h;obtain ⟨⟨at5,fl5⟩,h5,h⟩:=Option.bind_eq_some_iff.mp h;obtain ⟨⟨n6,at6,fl6⟩,h6,h⟩:=Option.bind_eq_some_iff.mp h;obtain ⟨⟨b7,at7,fl7⟩,h7,h⟩:=Option.bind_eq_some_iff.mp h;obtain ⟨⟨n8,at8,fl8⟩,h8,h⟩:=Option.bind_eq_some_iff.mp h;obtain ⟨⟨tg9,at9,fl9⟩,h9,h⟩:=Option.bind_eq_some_iff.mp h;obtain ⟨rfl,rfl,rfl,rfl,rfl,rfl,rfl,rfl⟩:=h;have S1:=sd h1;have S2:=sd h2;have S3:=sd h3;have S4:=sd h4;have S5:=sd h5;have S6:=sd h6;have S7:=sd h7;have S8:=sd h8;have S9:=sd h9;have HI:=sd hI;have HBB:=sd hB;clear h1 h2 h3 h4 h5 h6 h7 h8 h9 hI hB;dsimp only at S2 S3 S4 S5 S6 S7 S8 S9
  have HQ:=sd (fun (vC vT vV:Value) (W:World) (a:Kd.R k48 48 W w.heap.size (fun _=>True) vC cs4) (b:Kd.R k50 50 W w.heap.size (fun _=>True) vT tg9) (c:Kd.R k87 87 W w.heap.size (fun _=>True) vV vs4) (d:IsS82 w0 W g L at9 (if at9 < (L.length:Int) then true else fl9)) (e:Below w0.heap.size w0 W) (f:KeepBut w W g none) =>
    (show (fun (e:Ending) (w':World)=>∃ vC vT vV,e=.returned (.tuple #[.agg #[.string n2,vC,.string n6,.string n8,vT],vV])∧Kd.R k48 48 w' w.heap.size (fun _=>True) vC cs4∧Kd.R k50 50 w' w.heap.size (fun _=>True) vT tg9∧Kd.R k87 87 w' w.heap.size (fun _=>True) vV vs4∧IsS82 w0 w' g L at9 (if at9 < (L.length:Int) then true else fl9)∧Below w0.heap.size w0 w'∧KeepBut w w' g none) (.returned (.tuple #[.agg #[.string n2,vC,.string n6,.string n8,vT],vV])) W from ⟨vC,vT,vV,rfl,a,b,c,d,e,f⟩))
  generalize (fun (e:Ending) (w':World)=>∃ vC vT vV,e=.returned (.tuple #[.agg #[.string n2,vC,.string n6,.string n8,vT],vV])∧Kd.R k48 48 w' w.heap.size (fun _=>True) vC cs4∧Kd.R k50 50 w' w.heap.size (fun _=>True) vT tg9∧Kd.R k87 87 w' w.heap.size (fun _=>True) vV vs4∧IsS82 w0 w' g L at9 (if at9 < (L.length:Int) then true else fl9)∧Below w0.heap.size w0 w'∧KeepBut w w' g none)=Post at HQ ⊢;go_enter Tryz.func44,Tryz.ntmps44
  go_upto_region 3 with (fail)
  obtain ⟨w1,hw1⟩:∃ W,W=w.alloc (Obj.cells #[Value.string ⟨#[]⟩,Value.slice none 0 0,Value.string ⟨#[]⟩,Value.string ⟨#[]⟩,Value.slice none 0 0] 25):=⟨_,rfl⟩
  have hb1:Below w.heap.size w w1:=by rw [hw1];exact below_alloc (Below.refl _ _) _
  have e1:w1.heap.size=w.heap.size+1:=by rw [hw1];simp
  have k2:w1.heap[w.heap.size]?=some (.cells cells25Z 25 (0,0)):=by rw [hw1];exact blk_new _ _
  rw [← hw1];have hb2:=below_alloc (Below.refl w1.heap.size w1) (Obj.cells #[Value.string ⟨#[]⟩,Value.slice none 0 0,Value.string ⟨#[]⟩,Value.string ⟨#[]⟩,Value.slice none 0 0] 25);have k4:(w1.alloc (Obj.cells #[Value.string ⟨#[]⟩,Value.slice none 0 0,Value.string ⟨#[]⟩,Value.string ⟨#[]⟩,Value.slice none 0 0] 25)).heap[w1.heap.size]?=some (.cells cells25Z 25 (0,0)):=blk_new _ _;rw [e1] at k4;have hb:=hb1.trans (hb2.mono hb1.size);have k2':=blk_below k2 hb2;generalize w1.alloc (Obj.cells #[Value.string ⟨#[]⟩,Value.slice none 0 0,Value.string ⟨#[]⟩,Value.string ⟨#[]⟩,Value.slice none 0 0] 25)=w2 at *;obtain ⟨g2,hg2⟩:∃ x,x=w.heap.size:=⟨_,rfl⟩
  obtain ⟨g4,hg4⟩:∃ x,x=w.heap.size+1:=⟨_,rfl⟩
  rw [show (⟨w.heap.size,0,none⟩:Addr)=⟨g2,0,none⟩ by rw [hg2],show (⟨w.heap.size+1,0,none⟩:Addr)=⟨g4,0,none⟩ by rw [hg4]];rw [← hg2] at k2';rw [← hg4] at k4;have R:=sd (RL.mk (ok:=fun _=>True) (HI.out.below hb) (HBB.out.trans (hb.mono HBB.out.size)) (KeepBut.of_below hb g none) k4 k2' (Kd.R_nil _ _ _ _ _) (Kd.R_nil _ _ _ _ _) (Kd.R_nil _ _ _ _ _) (by omega) (by omega) (by omega) HBB.out.size:RL (fun _=>True) w0 w w2 g g2 g4 L at0 fl0 ⟨#[]⟩ [] ⟨#[]⟩ ⟨#[]⟩ [] [] (.slice none 0 0) (.slice none 0 0) (.slice none 0 0));clear hw1 hb1 e1 k2 hb2 k4 hb k2' hg2 hg4 HI HBB;go_wp2_with fail
  refine (rf48_Reader_must.calls g L at0 fl0 ruleB at1 fl1 w0 _ R.out.hI R.out.hB S1.out).mono ?_;rintro e w3 ⟨rfl,hI,hB,hK⟩;replace R:=sd (R.out.call hI hB hK);clear hI hB hK;go_wp2_with fail
  refine (rf48_Reader_code.calls g L at1 fl1 n2 at2 fl2 w0 _ R.out.hI R.out.hB S2.out).mono ?_;rintro e w4 ⟨rfl,hI,hB,hK⟩;replace R:=sd (R.out.call hI hB hK);clear hI hB hK;obtain ⟨z0,z1,z2,z3,z4,y0,y1,y2,y3,y4⟩:=bk5 (sd R.out.b4);go_upto_region 5 with (fail)
  replace R:=sd (R.out.set 0 (.string n2) rfl R.out.rC R.out.rT);clear z0 z1 z2 z3 z4 y0 y1 y2 y3 y4;generalize w4.setCell ⟨g4,0,none⟩ (.string n2)=w5 at R ⊢;go_wp2_with fail
  refine (rf48_Reader_must.calls g L at2 fl2 ifB at3 fl3 w0 _ R.out.hI R.out.hB S3.out).mono ?_;rintro e w6 ⟨rfl,hI,hB,hK⟩;replace R:=sd (R.out.call hI hB hK);clear hI hB hK;go_wp2_with fail
  go_loopg [5,6] k (fun kq v5 v6 wr=>∃ (at_:Int) (fl:Bool) (cs:List S48) (vs:List S87) (vC:Value) (m:Bool),v6=.bool m∧Aside0 ((if m=true then rule_cs L kq at_ fl cs vs else some (cs,vs,at_,fl))=some (cs4,vs4,at4,fl4))∧Aside0 (cs.length=vs.length)∧Aside0 (RL (fun _=>True) w0 w wr g g2 g4 L at_ fl n2 cs ⟨#[]⟩ ⟨#[]⟩ [] vs vC (.slice none 0 0) v5))
  case atStart=>exact ⟨at3,fl3,[],[],_,true,rfl,S4,⟨rfl⟩,R⟩
  case round =>
    clear R S4;obtain ⟨at_,fl,cs,vs,vC,m,rfl,HS,HL,R⟩:=hrel;rename World=>wr
    obtain ⟨AV,cV,rfl⟩:=Kd.R_slice R.out.rV;obtain ⟨A_,c_,x0,x1,x2,x3⟩:=s82_cells R.out.hI;by_cases hx:m=true∧fl=false
    case neg =>
      have hs:(cs,vs,at_,fl)=(cs4,vs4,at4,fl4):=by
        have h:=HS.out
        cases m with
       |false=>rw [if_neg (by decide)] at h;exact Option.some.inj h
       |true =>
          have hf:fl=true:=by cases fl with
           |true=>rfl
           |false=>exact absurd ⟨rfl,rfl⟩ hx
          rw [if_pos rfl] at h
          cases gk with
         |zero=>rw [rule_cs] at h;cases h
         |succ kk=>rw [rule_cs,if_pos hf] at h;exact Option.some.inj h
      have e1:cs=cs4:=congrArg (fun x=>x.1) hs;have e2:vs=vs4:=congrArg (fun x=>x.2.1) hs;have e3:at_=at4:=congrArg (fun x=>x.2.2.1) hs;have e4:fl=fl4:=congrArg (fun x=>x.2.2.2) hs;subst e1 e2 e3 e4;clear hs HS HL
      have hm:m=false∨(m=true∧fl=true):=by
        cases m with
       |false=>exact Or.inl rfl
       |true=>cases fl with
         |true=>exact Or.inr ⟨rfl,rfl⟩
         |false=>exact absurd ⟨rfl,rfl⟩ hx
      clear hx;rcases hm with rfl|⟨rfl,rfl⟩
      all_goals go_wp2_with fail
      all_goals
        refine (rf48_Reader_must.calls g L at_ _ thenB at5 fl5 w0 _ R.out.hI R.out.hB S5.out).mono ?_;rintro e w7 ⟨rfl,hI,hB,hK⟩;replace R:=sd (R.out.call hI hB hK);clear hI hB hK x0 x1 x2 x3;go_wp2_with fail
        refine (rf48_Reader_code.calls g L at5 fl5 n6 at6 fl6 w0 _ R.out.hI R.out.hB S6.out).mono ?_;rintro e w8 ⟨rfl,hI,hB,hK⟩;replace R:=sd (R.out.call hI hB hK);clear hI hB hK;obtain ⟨z0,z1,z2,z3,z4,y0,y1,y2,y3,y4⟩:=bk5 (sd R.out.b4);go_upto_region 15 with (fail)
        replace R:=sd (R.out.set 2 (.string n6) rfl R.out.rC R.out.rT);clear z0 z1 z2 z3 z4 y0 y1 y2 y3 y4;generalize w8.setCell ⟨g4,2,none⟩ (.string n6)=w9 at R ⊢;go_wp2_with fail
        refine (rf48_Reader_is.calls g L at6 fl6 partyB b7 at7 fl7 w0 _ R.out.hI R.out.hB S7.out).mono ?_;rintro e w10 ⟨rfl,hI,hB,hK⟩;replace R:=sd (R.out.call hI hB hK);clear hI hB hK
        cases b7
        case' true =>
          go_wp2_with fail
          have s8:=S8.out;unfold rule_pa at s8;rw [if_pos rfl] at s8;refine (rf48_Reader_code.calls g L at7 fl7 n8 at8 fl8 w0 _ R.out.hI R.out.hB s8).mono ?_;rintro e w11 ⟨rfl,hI,hB,hK⟩;replace R:=sd (R.out.call hI hB hK);clear hI hB hK s8;obtain ⟨z0,z1,z2,z3,z4,y0,y1,y2,y3,y4⟩:=bk5 (sd R.out.b4);go_wp2_with fail
          replace R:=sd (R.out.set 3 (.string n8) rfl R.out.rC R.out.rT);clear z0 z1 z2 z3 z4 y0 y1 y2 y3 y4;generalize w11.setCell ⟨g4,3,none⟩ (.string n8)=w10 at R ⊢
        case' false =>
          have s8:=S8.out;unfold rule_pa at s8;rw [if_neg (by intro h;cases h)] at s8;obtain ⟨h8a,h8b⟩:=Prod.mk.inj (Option.some.inj s8);obtain ⟨h8b,h8c⟩:=Prod.mk.inj h8b;subst h8b h8c;replace R:=sd (show RL (fun _=>True) w0 w w10 g g2 g4 L _ _ n2 cs n6 n8 [] vs vC (.slice none 0 0) (.slice AV vs.length cV) from h8a ▸ R.out);clear h8a s8;go_wp2_with fail
        all_goals
          clear S8;go_loopg [9] k (fun kq v9 wr=>∃ (at_:Int) (fl:Bool) (tg:List S50) (vT:Value),Aside0 (rule_tg L kq at_ fl tg=some (tg9,at9,fl9))∧Aside0 (RL (fun _=>True) w0 w wr g g2 g4 L at_ fl n2 cs n6 n8 tg vs vC vT (.slice AV vs.length cV)))
          case atStart=>exact ⟨_,_,[],_,S9,R⟩
          case round =>
            clear R S9;obtain ⟨at_,fl,tg,vT,HS,R⟩:=hrel;rename World=>wr
            cases gk with
           |zero=>exact absurd HS.out (by rw [rule_tg];intro h;cases h)
           |succ kk =>
              have h:=HS.out;rw [rule_tg] at h;clear HS;obtain ⟨⟨b1,b2,b3⟩,hb,h⟩:=Option.bind_eq_some_iff.mp h;dsimp only at h
              have HB1:=sd hb;have HN:=sd h;clear hb h;go_wp2_with fail
              refine (rf48_Reader_is.calls g L at_ fl tagB b1 b2 b3 w0 _ R.out.hI R.out.hB HB1.out).mono ?_;rintro e w12 ⟨rfl,hI,hB,hK⟩;replace R:=sd (R.out.call hI hB hK);clear hI hB hK HB1
              cases b1
              · have h:=HN.out
                rw [if_neg (by decide)] at h;obtain ⟨rfl,rfl,rfl⟩:=h;clear HN;obtain ⟨A_,c_,x0,x1,x2,x3⟩:=s82_cells R.out.hI;go_wp2_with fail
                obtain ⟨ACx,cCx,rfl⟩:=Kd.R_slice R.out.rC;obtain ⟨ATx,cTx,rfl⟩:=Kd.R_slice R.out.rT;refine start_ (n:=10) (S:=fun w'=>w'.cell? ⟨g,1,none⟩=some (.int .i64 at9)∧w'.cell? ⟨g,0,none⟩=some (.slice A_ L.length c_)) (ds:=[]) #[false,false,false,false,false,false,false,false,false,false] (by kernel_rfl) rfl rfl ⟨x1,x0⟩ (fun hHeld=>?_);replace R:=sd (R.out.below (below_drew1 (Below.refl _ _)));clear x0 x1 x2 x3;generalize w12.drew=w13 at R hHeld ⊢;refine pB 0 74 ?_;refine pB 1 75 ?_;refine pB 2 76 ?_;refine pB 4 78 ?_;refine pB 5 79 ?_;refine pB 6 80 ?_;refine tB 3 77 hHeld ?_;refine tB 7 81 hHeld ?_;refine pB 8 82 ?_;refine pB 9 83 ?_;refine done_ (by kernel_rfl) ?_;clear hHeld;obtain ⟨A_,c_,x0,x1,x2,x3⟩:=s82_cells R.out.hI;obtain ⟨z0,z1,z2,z3,z4,y0,y1,y2,y3,y4⟩:=bk5 (sd R.out.b4);obtain ⟨v0,v1,v2,v3,v4,u0,u1,u2,u3,u4⟩:=bk5 (sd R.out.b2);by_cases hlt:at9 < (L.length:Int)
                · rw [if_pos hlt] at HQ
                  go_upto_region 25 with (fail)
                  replace R:=sd (R.out.set2 true);clear hlt x0 x1 x2 x3 z0 z1 z2 z3 z4 y0 y1 y2 y3 y4 v0 v1 v2 v3 v4 u0 u1 u2 u3 u4;generalize w13.setCell ⟨g,2,none⟩ (.bool true)=w14 at R ⊢;obtain ⟨z0,z1,z2,z3,z4,y0,y1,y2,y3,y4⟩:=bk5 (sd R.out.b4);obtain ⟨v0,v1,v2,v3,v4,u0,u1,u2,u3,u4⟩:=bk5 (sd R.out.b2);go_wp2_with fail
                  obtain ⟨hb,hC,hT,hV,hI,hB,hK⟩:=R.out.fin rfl;exact sretR Post _ _ g2 _ (.slice AV vs.length cV) (by rfl) (by rfl) hb rfl (HQ.out _ _ _ _ hC hT hV hI hB hK)
                rw [if_neg hlt] at HQ;go_wp2_with fail
                obtain ⟨hb,hC,hT,hV,hI,hB,hK⟩:=R.out.fin rfl;exact sretR Post _ _ g2 _ (.slice AV vs.length cV) (by rfl) (by rfl) hb rfl (HQ.out _ _ _ _ hC hT hV hI hB hK)
              · have h:=HN.out
                rw [if_pos rfl] at h;obtain ⟨⟨c1,c2,c3⟩,hc,h⟩:=Option.bind_eq_some_iff.mp h;obtain ⟨⟨s1,s2⟩,hs,h⟩:=Option.bind_eq_some_iff.mp h;obtain ⟨⟨d1,d2,d3⟩,hd,h⟩:=Option.bind_eq_some_iff.mp h;dsimp only at hs hd h
                split at h
                case isFalse=>cases h
                rename_i htl
                have HC1:=sd hc;have HS1:=sd hs;have HD1:=sd hd;have HTL:=sd htl;replace HN:=sd h;clear hc hs hd h htl;obtain ⟨AT,cT,rfl⟩:=Kd.R_slice R.out.rT;go_upto_region 19 with (fail)
                have hbt:=below_alloc (Below.refl w12.heap.size w12) (Obj.cells #[Value.string ⟨#[]⟩,Value.string ⟨#[]⟩] 50);have bt:(w12.alloc (Obj.cells #[Value.string ⟨#[]⟩,Value.string ⟨#[]⟩] 50)).heap[w12.heap.size]?=some (.cells #[Value.string ⟨#[]⟩,Value.string ⟨#[]⟩] 50 (0,0)):=blk_new _ _;have hge:=keep_size R.out.hK;have hng2:=blk_lt R.out.b2;have hng4:=blk_lt R.out.b4;have RF:=R.out.fresh.below hbt;generalize w12.alloc (Obj.cells #[Value.string ⟨#[]⟩,Value.string ⟨#[]⟩] 50)=w13 at *;obtain ⟨gt,hgt⟩:∃ x,x=w12.heap.size:=⟨_,rfl⟩
                rw [← hgt] at bt RF hge hng2 hng4 ⊢;have BT:=sd bt;replace R:=sd RF;have HGT:=sd (show w.heap.size≤gt∧g2≠gt∧g4≠gt from ⟨hge,Nat.ne_of_lt hng2,Nat.ne_of_lt hng4⟩);clear bt RF hge hng2 hng4 hbt hgt;go_wp2_with fail
                refine (rf48_Reader_code.calls g L b2 b3 c1 c2 c3 w0 _ R.out.hI R.out.hB HC1.out).mono ?_;rintro e w14 ⟨rfl,hI,hB,hK⟩;replace BT:=sd (hK.blk BT.out (Ne.symm (R.out.hI.ne_blk BT.out (by decide))) (by simp));replace R:=sd (R.out.call hI hB hK);clear hI hB hK HC1;obtain ⟨m0,m1,n0,n1⟩:=bk2 BT;go_upto_region 20 with (fail)
                replace R:=sd (R.out.far (R.out.hI.ne_blk BT.out (by decide)) HGT.out.2.1 HGT.out.2.2 HGT.out.1 0 (.string c1));replace BT:=sd (blk_put (cs':=#[Value.string c1,Value.string ⟨#[]⟩]) BT.out 0 (.string c1) rfl);clear m0 m1 n0 n1;generalize w14.setCell ⟨gt,0,none⟩ (.string c1)=w15 at *;go_wp2_with fail
                refine (rf48_Reader_sign.calls g L c2 c3 eqB s1 s2 w0 _ R.out.hI R.out.hB HS1.out).mono ?_;rintro e w16 ⟨rfl,hI,hB,hK⟩;replace BT:=sd (hK.blk BT.out (Ne.symm (R.out.hI.ne_blk BT.out (by decide))) (by simp));replace R:=sd (R.out.call hI hB hK);clear hI hB hK HS1;go_wp2_with fail
                refine (rf48_Reader_code.calls g L s1 s2 d1 d2 d3 w0 _ R.out.hI R.out.hB HD1.out).mono ?_;rintro e w17 ⟨rfl,hI,hB,hK⟩;replace BT:=sd (hK.blk BT.out (Ne.symm (R.out.hI.ne_blk BT.out (by decide))) (by simp));replace R:=sd (R.out.call hI hB hK);clear hI hB hK HD1;obtain ⟨m0,m1,n0,n1⟩:=bk2 BT;go_upto_region 22 with (fail)
                replace R:=sd ((R.out.far (R.out.hI.ne_blk BT.out (by decide)) HGT.out.2.1 HGT.out.2.2 HGT.out.1 1 (.string d1)).mono (fun _ _=>trivial):RL (fun _=>True) w0 w _ g g2 g4 L d2 d3 n2 cs n6 n8 tg vs vC _ _);replace BT:=sd (blk_put (cs':=#[Value.string c1,Value.string d1]) BT.out 1 (.string d1) rfl);clear m0 m1 n0 n1 HGT;generalize w17.setCell ⟨gt,1,none⟩ (.string d1)=w17 at *;obtain ⟨m0,m1,_⟩:=bk2 BT;obtain ⟨z0,z1,z2,z3,z4,y0,y1,y2,y3,y4⟩:=bk5 (sd R.out.b4);clear BT;go_wp2_with (first|((with_reducible refine gate_builtin (b:=.append) (xs:=#[.tmp 69,.tmp 71]) rfl ?_);refine Kd.R_append k50 (w0:=w17) (W:=w17) w.heap.size rfl (.tmp 69) (.tmp 71) 23 50 _ 32 rfl Tryz.underlying23 info50 rfl (by decide) (by decide) (.slice AT tg.length cT) tg ⟨c1,d1⟩ [.string c1,.string d1] (fun _=>True) (fun _=>False) rfl rfl (k50_mkM _ _ _ ⟨c1,d1⟩) (fun k hk=>hk.elim) (fun _ _=>trivial) R.out.rT (Below.refl _ _) (keep_size R.out.hK) (by have:=HTL.out;omega) ?_;intro v1 w18 hR hb hg hat;obtain ⟨tg',htg'⟩:∃ q,q=tg++[(⟨c1,d1⟩:S50)]:=⟨_,rfl⟩;rw [← htg'] at hR HN;clear htg';obtain ⟨AT',cT',rfl⟩:=Kd.R_slice hR;have hB':=R.out.hB.trans (hb.mono R.out.hw0);have hk':=kb_grown R.out.hK R.out.rT hg;have hb4:=sd (blk_grown R.out.b4 hg (Kd.R_ne R.out.rT R.out.b4 (by decide)));replace R:=sd (R.out.growT hR hB' hg hk');clear hR hb hg hat hB' hk' z0 z1 z2 z3 z4 y0 y1 y2 y3 y4 m0 m1;obtain ⟨z0,z1,z2,z3,z4,y0,y1,y2,y3,y4⟩:=bk5 hb4;clear hb4))
                clear z0 z1 z2 z3 z4 y0 y1 y2 y3 y4;go_roundg kk
                case measure=>omega
                case rel=>exact ⟨d2,d3,_,_,HN,R⟩
    obtain ⟨rfl,rfl⟩:=hx
    cases gk with
   |zero=>exact absurd HS.out (by rw [if_pos rfl,rule_cs];intro h;cases h)
   |succ kk =>
      have h:=HS.out;rw [if_pos rfl,rule_cs,if_neg (by decide)] at h;clear HS;obtain ⟨⟨q1,q2,q3,q4,q5,q6,q7,q8,q9⟩,hq,h⟩:=Option.bind_eq_some_iff.mp h;split at h
      case isFalse=>cases h
      rename_i hcl
      obtain ⟨⟨b1,b2,b3⟩,hb,h⟩:=Option.bind_eq_some_iff.mp h;dsimp only at hb h
      have HQ1:=sd hq;have HB1:=sd hb;have HN:=sd h;have HCL:=sd hcl;clear hq hb h hcl;go_wp2_with fail
      refine (rf48_Reader_cond.calls kk g L at_ false q1 q2 q3 q4 q5 q6 q7 q8 q9 w0 _ R.out.hI R.out.hB HQ1.out).mono ?_;rintro e w7 ⟨rfl,hI,hB,hK⟩;replace R:=sd (R.out.call hI hB hK);clear hI hB hK x0 x1 x2 x3;obtain ⟨AC,cC,rfl⟩:=Kd.R_slice R.out.rC;go_upto_region 9 with (fail)
      obtain ⟨w8,hw8⟩:∃ W,W=w7.alloc (Obj.cells #[Value.int IntKind.i64 q1,Value.int IntKind.i64 q2,Value.string q3,Value.int IntKind.i64 q4] 48):=⟨_,rfl⟩
      have hb1:Below w7.heap.size w7 w8:=by rw [hw8];exact below_alloc (Below.refl _ _) _
      have e1:w8.heap.size=w7.heap.size+1:=by rw [hw8];simp
      have kc:w8.heap[w7.heap.size]?=some (.cells #[Value.int IntKind.i64 q1,Value.int IntKind.i64 q2,Value.string q3,Value.int IntKind.i64 q4] 48 (0,0)):=by rw [hw8];exact blk_new _ _
      rw [← hw8];have hb2:=below_alloc (Below.refl w8.heap.size w8) (Obj.cells #[Value.int IntKind.i64 q5,Value.string q6,Value.int IntKind.i64 q7] 87);have kv:(w8.alloc (Obj.cells #[Value.int IntKind.i64 q5,Value.string q6,Value.int IntKind.i64 q7] 87)).heap[w8.heap.size]?=some (.cells #[Value.int IntKind.i64 q5,Value.string q6,Value.int IntKind.i64 q7] 87 (0,0)):=blk_new _ _;rw [e1] at kv;replace kc:=blk_below kc hb2;have hb:=hb1.trans (hb2.mono hb1.size);generalize w8.alloc (Obj.cells #[Value.int IntKind.i64 q5,Value.string q6,Value.int IntKind.i64 q7] 87)=w9 at *;obtain ⟨gc,hgc⟩:∃ x,x=w7.heap.size:=⟨_,rfl⟩
      obtain ⟨gv,hgv⟩:∃ x,x=w7.heap.size+1:=⟨_,rfl⟩
      rw [show (⟨w7.heap.size,0,none⟩:Addr)=⟨gc,0,none⟩ by rw [hgc],show (⟨w7.heap.size+1,0,none⟩:Addr)=⟨gv,0,none⟩ by rw [hgv]];rw [← hgc] at kc;rw [← hgv] at kv;have R9:=R.out.below hb;obtain ⟨z0,z1,z2,z3,z4,y0,y1,y2,y3,y4⟩:=bk5 (sd R9.b4);obtain ⟨m0,m1,m2,n0,n1,n2_⟩:=bk3 (sd kv);have hb':Below w7.heap.size w7 (w9.setCell ⟨gv,0,none⟩ (.int .i64 (cs.length:Int))):=below_setN hb (by omega) _;have hgv4:=sd (show gv≠g4 from fun e=>by have:=blk_lt R.out.b4;omega);have kv':=blk_put (cs':=#[Value.int IntKind.i64 (cs.length:Int),Value.string q6,Value.int IntKind.i64 q7]) kv 0 (.int .i64 (cs.length:Int)) rfl;have kc':=blk_far (p:=⟨gv,0,none⟩) kc (show gc≠gv by omega) (.int .i64 (cs.length:Int));replace R:=sd (R.out.below hb');have BV:=sd kv';have BC:=sd kc';clear hw8 hb1 e1 kc hb2 kv hb hgc hgv R9 hb' kv' kc';go_upto_region 10 with (fail)
      clear z0 z1 z2 z3 z4 y0 y1 y2 y3 y4 m0 m1 m2 n0 n1 n2_;generalize w9.setCell ⟨gv,0,none⟩ (.int .i64 (cs.length:Int))=w10 at *;obtain ⟨z0,z1,z2,z3,z4,y0,y1,y2,y3,y4⟩:=bk5 (sd R.out.b4);obtain ⟨m0,m1,m2,m3,_⟩:=bk4 BC;clear BC;go_upto_region 11 with (first|((with_reducible refine gate_builtin (b:=.append) (xs:=#[.tmp 36,.tmp 38]) rfl ?_);refine Kd.R_append k48 (w0:=w10) (W:=w10) w.heap.size rfl (.tmp 36) (.tmp 38) 22 48 _ 40 rfl Tryz.underlying22 info48 rfl (by decide) (by decide) (.slice AC cs.length cC) cs ⟨q1,q2,q3,q4⟩ [.int .i64 q1,.int .i64 q2,.string q3,.int .i64 q4] (fun _=>True) (fun _=>False) rfl rfl (k48_mkM _ _ _ ⟨q1,q2,q3,q4⟩) (fun k hk=>hk.elim) (fun _ _=>trivial) R.out.rC (Below.refl _ _) (keep_size R.out.hK) (by have:=HCL.out;omega) ?_;intro v1 w11 hR hb hg hat;obtain ⟨cs',hcs'⟩:∃ q,q=cs++[(⟨q1,q2,q3,q4⟩:S48)]:=⟨_,rfl⟩;rw [← hcs'] at hR HN;have HCL2:=sd (show cs'.length=cs.length+1 by rw [hcs',List.length_append];rfl);clear hcs';obtain ⟨AC',cC',rfl⟩:=Kd.R_slice hR;have hB':=R.out.hB.trans (hb.mono R.out.hw0);have hk':=kb_grown R.out.hK R.out.rC hg;have hb4:=sd (blk_grown R.out.b4 hg (Kd.R_ne R.out.rC R.out.b4 (by decide)));replace BV:=sd (blk_grown BV.out hg (Kd.R_ne R.out.rC BV.out (by decide)));replace R:=sd (R.out.growC hR hB' hg hk');clear hR hb hg hat hB' hk' z0 z1 z2 z3 z4 y0 y1 y2 y3 y4 m0 m1 m2 m3;obtain ⟨z0,z1,z2,z3,z4,y0,y1,y2,y3,y4⟩:=bk5 hb4;clear hb4))
      replace BV:=sd (blk_far (p:=⟨g4,1,none⟩) BV.out hgv4.out (.slice AC' cs'.length cC'));clear z0 z1 z2 z3 z4 y0 y1 y2 y3 y4;generalize w11.setCell ⟨g4,1,none⟩ (.slice AC' cs'.length cC')=w12 at *;obtain ⟨m0,m1,m2,n0,n1,n2_⟩:=bk3 BV;go_wp2_with (first|((with_reducible refine gate_builtin (b:=.append) (xs:=#[.tmp 41,.tmp 43]) rfl ?_);refine Kd.R_append k87 (w0:=w12) (W:=w12) w.heap.size rfl (.tmp 41) (.tmp 43) 83 87 _ 32 rfl Tryz.underlying83 info87 rfl (by decide) (by decide) (.slice AV vs.length cV) vs ⟨(cs.length:Int),q6,q7⟩ [.int .i64 (cs.length:Int),.string q6,.int .i64 q7] (fun _=>True) (fun _=>False) rfl rfl (k87_mkM _ _ _ ⟨(cs.length:Int),q6,q7⟩) (fun k hk=>hk.elim) (fun _ _=>trivial) R.out.rV (Below.refl _ _) (keep_size R.out.hK) (by have:=HCL.out;have:=HL.out;omega) ?_;intro v2 w13 hR hb hg hat;obtain ⟨vs',hvs'⟩:∃ q,q=vs++[(⟨(cs.length:Int),q6,q7⟩:S87)]:=⟨_,rfl⟩;rw [← hvs'] at hR HN;have HL2:=sd (show vs'.length=vs.length+1 by rw [hvs',List.length_append];rfl);clear hvs';obtain ⟨AV',cV',rfl⟩:=Kd.R_slice hR;have hB':=R.out.hB.trans (hb.mono R.out.hw0);have hk':=kb_grown R.out.hK R.out.rV hg;replace R:=sd (R.out.growV hR hB' hg hk');clear hR hb hg hat hB' hk'))
      clear m0 m1 m2 n0 n1 n2_ BV;refine (rf48_Reader_is.calls g L q8 q9 andB b1 b2 b3 w0 _ R.out.hI R.out.hB HB1.out).mono ?_;rintro e w14 ⟨rfl,hI,hB,hK⟩;replace R:=sd (R.out.call hI hB hK);clear hI hB hK;go_wp2_with fail
      go_roundg kk
      case measure=>omega
      case rel=>exact ⟨b2,b3,_,_,_,b1,rfl,HN,⟨by rw [HCL2.out,HL2.out,HL.out]⟩,R⟩
end A

end Go.Proofs.YtkbgkekegjfkfaaGreatDoor