-- By pack.py, a program of this session's.
import Derived.Test.YtkbgkekegjfkfaaGreatDoorY8
import Derived.Test.YtkbgkekegjfkfaaGreatDoorY9
import Derived.Test.YtkbgkekegjfkfaaGreatDoorY10
set_option linter.unusedVariables false
set_option linter.unusedSimpArgs false
namespace Go.Proofs.YtkbgkekegjfkfaaGreatDoor.A
open Go.RowKit B WW WL WM
attribute [local go_sem] max2_int min2_int max_two min_two max_three min_three max_four min_four
set_option maxHeartbeats 8000000
set_option maxRecDepth 100000
mutual
def rules_Check.j0:Nat→Bool→ByteArray→List (S48)→ByteArray→ByteArray→List (S50)→Option (Int)
 | 0,_,_,_,_,_,_=>none
 | k+1,x6,x118000,x118001,x118002,x118003,x118004=>if x6=true then (some 7) else ((dims_Right.f k x118004).bind fun t121=>(if t121=true then (if (x118001.length:Int)=0 then (some 2) else (if (x118001.length:Int) > 8 then (some 9) else (rules_Check.l0 k x118001 (x118001.length:Int) 0))) else (some 14)))
def rules_Check.l0:Nat→List (S48)→Int→Int→Option (Int)
 | 0,_,_,_=>none
 | k+1,x44,x45,x46=>if x46 < x45 then (if 0≤x46 then (if x46 < (x44.length:Int) then ((rules_cond.f k ((rd_T48 x44 x46).f0) ((rd_T48 x44 x46).f1) ((rd_T48 x44 x46).f2) ((rd_T48 x44 x46).f3)).bind fun t124=>(if t124=0 then (rules_Check.l0 k x44 x45 (wrap64 (x46+1))) else (some t124))) else (none)) else (none)) else (some 0)
end
def rules_Check.f (k:Nat) (a0_0:ByteArray) (l0_1:List (S48)) (a0_2:ByteArray) (a0_3:ByteArray) (l0_4:List (S50)):Option (Int):=(words_Code.f a0_0).bind fun t118=>(if t118=true then ((words_Code.f a0_2).bind fun t119=>(if t119=true then (if a0_3.toList=([]:List UInt8) then (rules_Check.j0 k false a0_0 l0_1 a0_2 a0_3 l0_4) else ((words_Code.f a0_3).bind fun t120=>(rules_Check.j0 k (!t120) a0_0 l0_1 a0_2 a0_3 l0_4))) else (rules_Check.j0 k true a0_0 l0_1 a0_2 a0_3 l0_4))) else (rules_Check.j0 k true a0_0 l0_1 a0_2 a0_3 l0_4))
theorem words_word.calls (k:Nat) (a0:ByteArray) (a1 r1:Int) (r2:ByteArray) (r3 r4 r5 r6:Int) (w:World) (h:words_word.f k a0 a1=some (r1,r2,r3,r4,r5,r6)) :
  Calls Tryz.prog 80 #[.string a0,.int .i64 a1] w fun e w'=>e=.returned (.tuple #[.agg #[.int .i64 r1,.string r2,.int .i64 r3],.int .i64 r4,.agg #[.int .i64 r5,.int .i64 r6]])∧Below w.heap.size w w':=by
 have HPost:∀ W,Below w.heap.size w W→(fun (e:Ending) (w':World)=>e=.returned (.tuple #[.agg #[.int .i64 r1,.string r2,.int .i64 r3],.int .i64 r4,.agg #[.int .i64 r5,.int .i64 r6]])∧Below w.heap.size w w') (.returned (.tuple #[.agg #[.int .i64 r1,.string r2,.int .i64 r3],.int .i64 r4,.agg #[.int .i64 r5,.int .i64 r6]])) W:=fun W hW=>⟨rfl,hW⟩
 generalize (fun (e:Ending) (w':World)=>e=.returned (.tuple #[.agg #[.int .i64 r1,.string r2,.int .i64 r3],.int .i64 r4,.agg #[.int .i64 r5,.int .i64 r6]])∧Below w.heap.size w w')=Post at HPost ⊢;have HP:=sd HPost;clear HPost;unfold words_word.f at h;split at h
 case isFalse=>cases h
 rename_i hb
 obtain ⟨hb0,hb1,hs⟩:=hb;obtain ⟨i,rfl⟩:=Int.eq_ofNat_of_zero_le hb0;have hi:i < a0.size:=by omega
 clear hb0 hb1;rw [show bt a0 (i:Int)=(a0[i].toNat:Int) from (bt_at a0 i hi).symm] at h;obtain ⟨c,hc⟩:∃ c,a0[i]=c:=⟨_,rfl⟩
 rw [hc] at h;replace h:=Option.bind_eq_some_iff.mp h;obtain ⟨l,hl,h⟩:=h;have CL:=sd (fun W=>words_letter.calls (c.toNat:Int) l W hl);clear hl
 cases l
 ·rw [if_neg (by decide)] at h;replace h:=Option.bind_eq_some_iff.mp h;obtain ⟨d,hd,h⟩:=h;have CD:=sd (fun W=>words_digit.calls (c.toNat:Int) d W hd);clear hd
  cases d
  ·rw [if_neg (by decide)] at h;by_cases h45:(c.toNat:Int)=45
   ·rw [if_pos h45] at h;replace h:=Option.bind_eq_some_iff.mp h;obtain ⟨b,hb,h⟩:=h;have CA:=sd (fun W=>words_digitAt.calls a0 ((i:Int)+1) b W hb);have s45:((c.toNat:Int) == 45)=true:=beq_iff_eq.mpr h45;clear hb
    cases b
    ·rw [if_neg (by decide)] at h;unfold words_word.h at h;rw [show bt a0 (i:Int)=(c.toNat:Int) by rw [← hc];exact (bt_at a0 i hi).symm] at h;have h34:¬ (c.toNat:Int)=34:=by omega
     clear h45;rw [if_neg h34] at h;have s34:((c.toNat:Int) == 34)=false:=beq_eq_false_iff_ne.mpr h34;clear h34;replace h:=Option.bind_eq_some_iff.mp h;obtain ⟨e,he,h⟩:=h;have CN:=sd (fun W=>words_signEnd.calls k a0 (i:Int) e W he);clear he;by_cases hei:e=(i:Int)
     ·rw [if_pos hei] at h;subst hei;simp only [Option.some.injEq,Prod.mk.injEq] at h
      obtain ⟨rfl,rfl,rfl,rfl,rfl,rfl⟩:=h;go_enter Tryz.func80,Tryz.ntmps80
      go_wp2_with fail
      refine (CL.out _).mono ?_;rintro e w' ⟨rfl,nd0,rfl⟩;go_wp2_with fail
      refine (CD.out _).mono ?_;rintro e w' ⟨rfl,nd1,rfl⟩;go_wp2_with fail
      refine (CA.out _).mono ?_;rintro e w' ⟨rfl,nd2,rfl⟩;go_wp2_with fail
      refine (CN.out _).mono ?_;rintro e w' ⟨rfl,nd3,rfl⟩;go_wp2_with fail
      exact word_ret _ _ _ w.heap.size 4 ⟨#[]⟩ (i:Int) ((i:Int)) ((i:Int)) (5) rfl rfl rfl zq1 zq1 zq1 zq1 zq1 (HP.out _ zq2)
     rw [if_neg hei] at h;unfold words_word.g at h;split at h
     case isFalse=>cases h
     rename_i hb
     obtain ⟨q0,q1⟩:=hb;obtain ⟨n,rfl⟩:=Int.eq_ofNat_of_zero_le (show 0≤e by omega);simp only [Int.toNat_natCast,Option.some.injEq,Prod.mk.injEq] at h
     obtain ⟨rfl,rfl,rfl,rfl,rfl,rfl⟩:=h;have hne:((n:Int) == (i:Int))=false:=beq_eq_false_iff_ne.mpr hei;clear hei;have hsz:(a0.extract i n).size=n - i:=by rw [ByteArray.size_extract];omega
     by_cases hm:(60:Int) < (n:Int) - (i:Int)
     ·rw [if_pos hm,if_pos hm] at HP;have hm2:60 < n - i:=by omega
      clear hm;go_enter Tryz.func80,Tryz.ntmps80
      go_wp2_with fail
      refine (CL.out _).mono ?_;rintro e w' ⟨rfl,nd0,rfl⟩;go_wp2_with fail
      refine (CD.out _).mono ?_;rintro e w' ⟨rfl,nd1,rfl⟩;go_wp2_with fail
      refine (CA.out _).mono ?_;rintro e w' ⟨rfl,nd2,rfl⟩;go_wp2_with fail
      refine (CN.out _).mono ?_;rintro e w' ⟨rfl,nd3,rfl⟩;go_wp2_with fail
      go_region
      go_wp2_with fail
      exact word_ret _ _ _ w.heap.size 4 (a0.extract i n) (i:Int) ((n:Int)) ((i:Int)) (9) rfl rfl rfl zq1 zq1 zq1 zq1 zq1 (HP.out _ zq2)
     rw [if_neg hm,if_neg hm] at HP;have hm2:¬ 60 < n - i:=by omega
     clear hm;go_enter Tryz.func80,Tryz.ntmps80
     go_wp2_with fail
     refine (CL.out _).mono ?_;rintro e w' ⟨rfl,nd0,rfl⟩;go_wp2_with fail
     refine (CD.out _).mono ?_;rintro e w' ⟨rfl,nd1,rfl⟩;go_wp2_with fail
     refine (CA.out _).mono ?_;rintro e w' ⟨rfl,nd2,rfl⟩;go_wp2_with fail
     refine (CN.out _).mono ?_;rintro e w' ⟨rfl,nd3,rfl⟩;go_wp2_with fail
     go_region
     go_wp2_with fail
     exact word_ret _ _ _ w.heap.size 4 (a0.extract i n) (i:Int) ((n:Int)) (0) (0) rfl rfl rfl zq1 zq1 zq1 zq1 zq1 (HP.out _ zq2)
    ·rw [if_pos rfl] at h;clear h45;replace h:=Option.bind_eq_some_iff.mp h;obtain ⟨e,he,h⟩:=h;have CN:=sd (fun W=>words_numberEnd.calls k a0 (i:Int) e W he);clear he;unfold words_word.g at h;split at h
     case isFalse=>cases h
     rename_i hb
     obtain ⟨q0,q1⟩:=hb;obtain ⟨n,rfl⟩:=Int.eq_ofNat_of_zero_le (show 0≤e by omega);simp only [Int.toNat_natCast,Option.some.injEq,Prod.mk.injEq] at h
     obtain ⟨rfl,rfl,rfl,rfl,rfl,rfl⟩:=h;have hsz:(a0.extract i n).size=n - i:=by rw [ByteArray.size_extract];omega
     by_cases hm:(60:Int) < (n:Int) - (i:Int)
     ·rw [if_pos hm,if_pos hm] at HP;have hm2:60 < n - i:=by omega
      clear hm;go_enter Tryz.func80,Tryz.ntmps80
      go_wp2_with fail
      refine (CL.out _).mono ?_;rintro e w' ⟨rfl,nd0,rfl⟩;go_wp2_with fail
      refine (CD.out _).mono ?_;rintro e w' ⟨rfl,nd1,rfl⟩;go_wp2_with fail
      refine (CA.out _).mono ?_;rintro e w' ⟨rfl,nd2,rfl⟩;go_wp2_with fail
      refine (CN.out _).mono ?_;rintro e w' ⟨rfl,nd3,rfl⟩;go_wp2_with fail
      go_region
      go_wp2_with fail
      exact word_ret _ _ _ w.heap.size 2 (a0.extract i n) (i:Int) ((n:Int)) ((i:Int)) (9) rfl rfl rfl zq1 zq1 zq1 zq1 zq1 (HP.out _ zq2)
     rw [if_neg hm,if_neg hm] at HP;have hm2:¬ 60 < n - i:=by omega
     clear hm;go_enter Tryz.func80,Tryz.ntmps80
     go_wp2_with fail
     refine (CL.out _).mono ?_;rintro e w' ⟨rfl,nd0,rfl⟩;go_wp2_with fail
     refine (CD.out _).mono ?_;rintro e w' ⟨rfl,nd1,rfl⟩;go_wp2_with fail
     refine (CA.out _).mono ?_;rintro e w' ⟨rfl,nd2,rfl⟩;go_wp2_with fail
     refine (CN.out _).mono ?_;rintro e w' ⟨rfl,nd3,rfl⟩;go_wp2_with fail
     go_region
     go_wp2_with fail
     exact word_ret _ _ _ w.heap.size 2 (a0.extract i n) (i:Int) ((n:Int)) (0) (0) rfl rfl rfl zq1 zq1 zq1 zq1 zq1 (HP.out _ zq2)
   rw [if_neg h45] at h;have s45:((c.toNat:Int) == 45)=false:=beq_eq_false_iff_ne.mpr h45;clear h45;unfold words_word.h at h;rw [show bt a0 (i:Int)=(c.toNat:Int) by rw [← hc];exact (bt_at a0 i hi).symm] at h;by_cases h34:(c.toNat:Int)=34
   ·rw [if_pos h34] at h;have s34:((c.toNat:Int) == 34)=true:=beq_iff_eq.mpr h34;clear h34;replace h:=Option.bind_eq_some_iff.mp h;obtain ⟨⟨q,qe,qa,qp⟩,hq,h⟩:=h;have CQ:=sd (fun W=>words_quoted.calls k a0 (i:Int) q qe qa qp W hq);clear hq;dsimp only at h
    by_cases hp:qp=0
    ·subst hp;rw [if_neg (by decide)] at h;simp only [Option.some.injEq,Prod.mk.injEq] at h
     obtain ⟨rfl,rfl,rfl,rfl,rfl,rfl⟩:=h;by_cases hm:(60:Int) < (q.size:Int)
     ·rw [if_pos hm,if_pos hm] at HP;go_enter Tryz.func80,Tryz.ntmps80
      go_wp2_with fail
      refine (CL.out _).mono ?_;rintro e w' ⟨rfl,nd0,rfl⟩;go_wp2_with fail
      refine (CD.out _).mono ?_;rintro e w' ⟨rfl,nd1,rfl⟩;go_wp2_with fail
      refine (CQ.out _).mono ?_;rintro e W1 ⟨rfl,hb⟩;obtain ⟨hc',hf'⟩:=bcell hb;have hz1:w.heap.size+1 < W1.heap.size:=by have:=hb.size;simp at this;omega
      have k0:W1.cell? ⟨w.heap.size,0,none⟩=some (.int .i64 3):=(hc' _ _ (by simp <;> omega)).trans (by simp [go_sem]);have k1:W1.cell? ⟨w.heap.size,1,none⟩=some (.string ⟨#[]⟩):=(hc' _ _ (by simp <;> omega)).trans (by simp [go_sem]);have k2:W1.cell? ⟨w.heap.size,2,none⟩=some (.int .i64 (i:Int)):=(hc' _ _ (by simp <;> omega)).trans (by simp [go_sem]);have k3:W1.cell? ⟨w.heap.size+1,0,none⟩=some (.int .i64 0):=(hc' _ _ (by simp <;> omega)).trans (by simp [go_sem]);have k4:W1.cell? ⟨w.heap.size+1,1,none⟩=some (.int .i64 0):=(hc' _ _ (by simp <;> omega)).trans (by simp [go_sem]);have f0:W1.frozen? ⟨w.heap.size,0,none⟩=false:=(hf' _ _ (by simp <;> omega)).trans (by simp [go_sem]);have f1:W1.frozen? ⟨w.heap.size,1,none⟩=false:=(hf' _ _ (by simp <;> omega)).trans (by simp [go_sem]);have f2:W1.frozen? ⟨w.heap.size,2,none⟩=false:=(hf' _ _ (by simp <;> omega)).trans (by simp [go_sem]);have f3:W1.frozen? ⟨w.heap.size+1,0,none⟩=false:=(hf' _ _ (by simp <;> omega)).trans (by simp [go_sem]);have f4:W1.frozen? ⟨w.heap.size+1,1,none⟩=false:=(hf' _ _ (by simp <;> omega)).trans (by simp [go_sem]);have HB:=sd ((show Below w.heap.size w _ from zq2).trans (hb.mono (by simp <;> omega)));clear hb hc' hf';have HW:=sd (show WordW W1 w.heap.size 3 ⟨#[]⟩ (i:Int) 0 0 from ⟨k0,k1,k2,k3,k4,f0,f1,f2,f3,f4⟩);go_wp2_with fail
      have HW2:=sd (((((HW.out.s q).a qa).e (0)).a (i:Int)).e 9);have HB2:=sd (show Below w.heap.size w (((((W1.setCell ⟨w.heap.size,1,none⟩ (.string q)).setCell ⟨w.heap.size+1,0,none⟩ (.int .i64 qa)).setCell ⟨w.heap.size+1,1,none⟩ (.int .i64 0)).setCell ⟨w.heap.size+1,0,none⟩ (.int .i64 (i:Int))).setCell ⟨w.heap.size+1,1,none⟩ (.int .i64 9)) from below_setN (below_setN (below_setN (below_setN (below_setN (HB.out) (Nat.le_refl _) _) (Nat.le_succ _) _) (Nat.le_succ _) _) (Nat.le_succ _) _) (Nat.le_succ _) _);generalize ((((W1.setCell ⟨w.heap.size,1,none⟩ (.string q)).setCell ⟨w.heap.size+1,0,none⟩ (.int .i64 qa)).setCell ⟨w.heap.size+1,1,none⟩ (.int .i64 0)).setCell ⟨w.heap.size+1,0,none⟩ (.int .i64 (i:Int))).setCell ⟨w.heap.size+1,1,none⟩ (.int .i64 9)=W2 at HW2 HB2 ⊢;clear k0 k1 k2 k3 k4 f0 f1 f2 f3 f4 HB;have HB:=HB2;obtain ⟨k0,k1,k2,k3,k4,f0,f1,f2,f3,f4⟩:=HW2.out;go_region
      go_wp2_with fail
      exact word_ret _ _ _ w.heap.size 3 q (i:Int) qe ((i:Int)) (9) rfl rfl rfl zq1 zq1 zq1 zq1 zq1 (HP.out _ zq3)
     rw [if_neg hm,if_neg hm] at HP;go_enter Tryz.func80,Tryz.ntmps80
     go_wp2_with fail
     refine (CL.out _).mono ?_;rintro e w' ⟨rfl,nd0,rfl⟩;go_wp2_with fail
     refine (CD.out _).mono ?_;rintro e w' ⟨rfl,nd1,rfl⟩;go_wp2_with fail
     refine (CQ.out _).mono ?_;rintro e W1 ⟨rfl,hb⟩;obtain ⟨hc',hf'⟩:=bcell hb;have hz1:w.heap.size+1 < W1.heap.size:=by have:=hb.size;simp at this;omega
     have k0:W1.cell? ⟨w.heap.size,0,none⟩=some (.int .i64 3):=(hc' _ _ (by simp <;> omega)).trans (by simp [go_sem]);have k1:W1.cell? ⟨w.heap.size,1,none⟩=some (.string ⟨#[]⟩):=(hc' _ _ (by simp <;> omega)).trans (by simp [go_sem]);have k2:W1.cell? ⟨w.heap.size,2,none⟩=some (.int .i64 (i:Int)):=(hc' _ _ (by simp <;> omega)).trans (by simp [go_sem]);have k3:W1.cell? ⟨w.heap.size+1,0,none⟩=some (.int .i64 0):=(hc' _ _ (by simp <;> omega)).trans (by simp [go_sem]);have k4:W1.cell? ⟨w.heap.size+1,1,none⟩=some (.int .i64 0):=(hc' _ _ (by simp <;> omega)).trans (by simp [go_sem]);have f0:W1.frozen? ⟨w.heap.size,0,none⟩=false:=(hf' _ _ (by simp <;> omega)).trans (by simp [go_sem]);have f1:W1.frozen? ⟨w.heap.size,1,none⟩=false:=(hf' _ _ (by simp <;> omega)).trans (by simp [go_sem]);have f2:W1.frozen? ⟨w.heap.size,2,none⟩=false:=(hf' _ _ (by simp <;> omega)).trans (by simp [go_sem]);have f3:W1.frozen? ⟨w.heap.size+1,0,none⟩=false:=(hf' _ _ (by simp <;> omega)).trans (by simp [go_sem]);have f4:W1.frozen? ⟨w.heap.size+1,1,none⟩=false:=(hf' _ _ (by simp <;> omega)).trans (by simp [go_sem]);have HB:=sd ((show Below w.heap.size w _ from zq2).trans (hb.mono (by simp <;> omega)));clear hb hc' hf';have HW:=sd (show WordW W1 w.heap.size 3 ⟨#[]⟩ (i:Int) 0 0 from ⟨k0,k1,k2,k3,k4,f0,f1,f2,f3,f4⟩);go_wp2_with fail
     have HW2:=sd (((HW.out.s q).a qa).e (0));have HB2:=sd (show Below w.heap.size w (((W1.setCell ⟨w.heap.size,1,none⟩ (.string q)).setCell ⟨w.heap.size+1,0,none⟩ (.int .i64 qa)).setCell ⟨w.heap.size+1,1,none⟩ (.int .i64 0)) from below_setN (below_setN (below_setN (HB.out) (Nat.le_refl _) _) (Nat.le_succ _) _) (Nat.le_succ _) _);generalize ((W1.setCell ⟨w.heap.size,1,none⟩ (.string q)).setCell ⟨w.heap.size+1,0,none⟩ (.int .i64 qa)).setCell ⟨w.heap.size+1,1,none⟩ (.int .i64 0)=W2 at HW2 HB2 ⊢;clear k0 k1 k2 k3 k4 f0 f1 f2 f3 f4 HB;have HB:=HB2;obtain ⟨k0,k1,k2,k3,k4,f0,f1,f2,f3,f4⟩:=HW2.out;go_region
     go_wp2_with fail
     exact word_ret _ _ _ w.heap.size 3 q (i:Int) qe (qa) (0) rfl rfl rfl zq1 zq1 zq1 zq1 zq1 (HP.out _ zq3)
    rw [if_pos hp] at h;simp only [Option.some.injEq,Prod.mk.injEq] at h
    obtain ⟨rfl,rfl,rfl,rfl,rfl,rfl⟩:=h;have hpb:(qp == 0)=false:=beq_eq_false_iff_ne.mpr hp;clear hp;go_enter Tryz.func80,Tryz.ntmps80
    go_wp2_with fail
    refine (CL.out _).mono ?_;rintro e w' ⟨rfl,nd0,rfl⟩;go_wp2_with fail
    refine (CD.out _).mono ?_;rintro e w' ⟨rfl,nd1,rfl⟩;go_wp2_with fail
    refine (CQ.out _).mono ?_;rintro e W1 ⟨rfl,hb⟩;obtain ⟨hc',hf'⟩:=bcell hb;have hz1:w.heap.size+1 < W1.heap.size:=by have:=hb.size;simp at this;omega
    have k0:W1.cell? ⟨w.heap.size,0,none⟩=some (.int .i64 3):=(hc' _ _ (by simp <;> omega)).trans (by simp [go_sem]);have k1:W1.cell? ⟨w.heap.size,1,none⟩=some (.string ⟨#[]⟩):=(hc' _ _ (by simp <;> omega)).trans (by simp [go_sem]);have k2:W1.cell? ⟨w.heap.size,2,none⟩=some (.int .i64 (i:Int)):=(hc' _ _ (by simp <;> omega)).trans (by simp [go_sem]);have k3:W1.cell? ⟨w.heap.size+1,0,none⟩=some (.int .i64 0):=(hc' _ _ (by simp <;> omega)).trans (by simp [go_sem]);have k4:W1.cell? ⟨w.heap.size+1,1,none⟩=some (.int .i64 0):=(hc' _ _ (by simp <;> omega)).trans (by simp [go_sem]);have f0:W1.frozen? ⟨w.heap.size,0,none⟩=false:=(hf' _ _ (by simp <;> omega)).trans (by simp [go_sem]);have f1:W1.frozen? ⟨w.heap.size,1,none⟩=false:=(hf' _ _ (by simp <;> omega)).trans (by simp [go_sem]);have f2:W1.frozen? ⟨w.heap.size,2,none⟩=false:=(hf' _ _ (by simp <;> omega)).trans (by simp [go_sem]);have f3:W1.frozen? ⟨w.heap.size+1,0,none⟩=false:=(hf' _ _ (by simp <;> omega)).trans (by simp [go_sem]);have f4:W1.frozen? ⟨w.heap.size+1,1,none⟩=false:=(hf' _ _ (by simp <;> omega)).trans (by simp [go_sem]);have HB:=sd ((show Below w.heap.size w _ from zq2).trans (hb.mono (by simp <;> omega)));clear hb hc' hf';have HW:=sd (show WordW W1 w.heap.size 3 ⟨#[]⟩ (i:Int) 0 0 from ⟨k0,k1,k2,k3,k4,f0,f1,f2,f3,f4⟩);go_wp2_with fail
    have HW2:=sd (((HW.out.s q).a qa).e (qp));have HB2:=sd (show Below w.heap.size w (((W1.setCell ⟨w.heap.size,1,none⟩ (.string q)).setCell ⟨w.heap.size+1,0,none⟩ (.int .i64 qa)).setCell ⟨w.heap.size+1,1,none⟩ (.int .i64 qp)) from below_setN (below_setN (below_setN (HB.out) (Nat.le_refl _) _) (Nat.le_succ _) _) (Nat.le_succ _) _);generalize ((W1.setCell ⟨w.heap.size,1,none⟩ (.string q)).setCell ⟨w.heap.size+1,0,none⟩ (.int .i64 qa)).setCell ⟨w.heap.size+1,1,none⟩ (.int .i64 qp)=W2 at HW2 HB2 ⊢;clear k0 k1 k2 k3 k4 f0 f1 f2 f3 f4 HB;have HB:=HB2;obtain ⟨k0,k1,k2,k3,k4,f0,f1,f2,f3,f4⟩:=HW2.out;go_region
    go_wp2_with fail
    exact word_ret _ _ _ w.heap.size 3 q (i:Int) qe (qa) (qp) rfl rfl rfl zq1 zq1 zq1 zq1 zq1 (HP.out _ zq3)
   rw [if_neg h34] at h;have s34:((c.toNat:Int) == 34)=false:=beq_eq_false_iff_ne.mpr h34;clear h34;replace h:=Option.bind_eq_some_iff.mp h;obtain ⟨e,he,h⟩:=h;have CN:=sd (fun W=>words_signEnd.calls k a0 (i:Int) e W he);clear he;by_cases hei:e=(i:Int)
   ·rw [if_pos hei] at h;subst hei;simp only [Option.some.injEq,Prod.mk.injEq] at h
    obtain ⟨rfl,rfl,rfl,rfl,rfl,rfl⟩:=h;go_enter Tryz.func80,Tryz.ntmps80
    go_wp2_with fail
    refine (CL.out _).mono ?_;rintro e w' ⟨rfl,nd0,rfl⟩;go_wp2_with fail
    refine (CD.out _).mono ?_;rintro e w' ⟨rfl,nd1,rfl⟩;go_wp2_with fail
    refine (CN.out _).mono ?_;rintro e w' ⟨rfl,nd2,rfl⟩;go_wp2_with fail
    exact word_ret _ _ _ w.heap.size 4 ⟨#[]⟩ (i:Int) ((i:Int)) ((i:Int)) (5) rfl rfl rfl zq1 zq1 zq1 zq1 zq1 (HP.out _ zq2)
   rw [if_neg hei] at h;unfold words_word.g at h;split at h
   case isFalse=>cases h
   rename_i hb
   obtain ⟨q0,q1⟩:=hb;obtain ⟨n,rfl⟩:=Int.eq_ofNat_of_zero_le (show 0≤e by omega);simp only [Int.toNat_natCast,Option.some.injEq,Prod.mk.injEq] at h
   obtain ⟨rfl,rfl,rfl,rfl,rfl,rfl⟩:=h;have hne:((n:Int) == (i:Int))=false:=beq_eq_false_iff_ne.mpr hei;clear hei;have hsz:(a0.extract i n).size=n - i:=by rw [ByteArray.size_extract];omega
   by_cases hm:(60:Int) < (n:Int) - (i:Int)
   ·rw [if_pos hm,if_pos hm] at HP;have hm2:60 < n - i:=by omega
    clear hm;go_enter Tryz.func80,Tryz.ntmps80
    go_wp2_with fail
    refine (CL.out _).mono ?_;rintro e w' ⟨rfl,nd0,rfl⟩;go_wp2_with fail
    refine (CD.out _).mono ?_;rintro e w' ⟨rfl,nd1,rfl⟩;go_wp2_with fail
    refine (CN.out _).mono ?_;rintro e w' ⟨rfl,nd2,rfl⟩;go_wp2_with fail
    go_region
    go_wp2_with fail
    exact word_ret _ _ _ w.heap.size 4 (a0.extract i n) (i:Int) ((n:Int)) ((i:Int)) (9) rfl rfl rfl zq1 zq1 zq1 zq1 zq1 (HP.out _ zq2)
   rw [if_neg hm,if_neg hm] at HP;have hm2:¬ 60 < n - i:=by omega
   clear hm;go_enter Tryz.func80,Tryz.ntmps80
   go_wp2_with fail
   refine (CL.out _).mono ?_;rintro e w' ⟨rfl,nd0,rfl⟩;go_wp2_with fail
   refine (CD.out _).mono ?_;rintro e w' ⟨rfl,nd1,rfl⟩;go_wp2_with fail
   refine (CN.out _).mono ?_;rintro e w' ⟨rfl,nd2,rfl⟩;go_wp2_with fail
   go_region
   go_wp2_with fail
   exact word_ret _ _ _ w.heap.size 4 (a0.extract i n) (i:Int) ((n:Int)) (0) (0) rfl rfl rfl zq1 zq1 zq1 zq1 zq1 (HP.out _ zq2)
  ·rw [if_pos rfl] at h;replace h:=Option.bind_eq_some_iff.mp h;obtain ⟨e,he,h⟩:=h;have CN:=sd (fun W=>words_numberEnd.calls k a0 (i:Int) e W he);clear he;unfold words_word.g at h;split at h
   case isFalse=>cases h
   rename_i hb
   obtain ⟨q0,q1⟩:=hb;obtain ⟨n,rfl⟩:=Int.eq_ofNat_of_zero_le (show 0≤e by omega);simp only [Int.toNat_natCast,Option.some.injEq,Prod.mk.injEq] at h
   obtain ⟨rfl,rfl,rfl,rfl,rfl,rfl⟩:=h;have hsz:(a0.extract i n).size=n - i:=by rw [ByteArray.size_extract];omega
   by_cases hm:(60:Int) < (n:Int) - (i:Int)
   ·rw [if_pos hm,if_pos hm] at HP;have hm2:60 < n - i:=by omega
    clear hm;go_enter Tryz.func80,Tryz.ntmps80
    go_wp2_with fail
    refine (CL.out _).mono ?_;rintro e w' ⟨rfl,nd0,rfl⟩;go_wp2_with fail
    refine (CD.out _).mono ?_;rintro e w' ⟨rfl,nd1,rfl⟩;go_wp2_with fail
    refine (CN.out _).mono ?_;rintro e w' ⟨rfl,nd2,rfl⟩;go_wp2_with fail
    go_region
    go_wp2_with fail
    exact word_ret _ _ _ w.heap.size 2 (a0.extract i n) (i:Int) ((n:Int)) ((i:Int)) (9) rfl rfl rfl zq1 zq1 zq1 zq1 zq1 (HP.out _ zq2)
   rw [if_neg hm,if_neg hm] at HP;have hm2:¬ 60 < n - i:=by omega
   clear hm;go_enter Tryz.func80,Tryz.ntmps80
   go_wp2_with fail
   refine (CL.out _).mono ?_;rintro e w' ⟨rfl,nd0,rfl⟩;go_wp2_with fail
   refine (CD.out _).mono ?_;rintro e w' ⟨rfl,nd1,rfl⟩;go_wp2_with fail
   refine (CN.out _).mono ?_;rintro e w' ⟨rfl,nd2,rfl⟩;go_wp2_with fail
   go_region
   go_wp2_with fail
   exact word_ret _ _ _ w.heap.size 2 (a0.extract i n) (i:Int) ((n:Int)) (0) (0) rfl rfl rfl zq1 zq1 zq1 zq1 zq1 (HP.out _ zq2)
 ·rw [if_pos rfl] at h;replace h:=Option.bind_eq_some_iff.mp h;obtain ⟨e,he,h⟩:=h;have CN:=sd (fun W=>words_nameEnd.calls k a0 (i:Int) e W he);clear he;unfold words_word.g at h;split at h
  case isFalse=>cases h
  rename_i hb
  obtain ⟨q0,q1⟩:=hb;obtain ⟨n,rfl⟩:=Int.eq_ofNat_of_zero_le (show 0≤e by omega);simp only [Int.toNat_natCast,Option.some.injEq,Prod.mk.injEq] at h
  obtain ⟨rfl,rfl,rfl,rfl,rfl,rfl⟩:=h;have hsz:(a0.extract i n).size=n - i:=by rw [ByteArray.size_extract];omega
  by_cases hm:(12:Int) < (n:Int) - (i:Int)
  ·rw [if_pos hm,if_pos hm] at HP;have hm2:12 < n - i:=by omega
   clear hm;go_enter Tryz.func80,Tryz.ntmps80
   go_wp2_with fail
   refine (CL.out _).mono ?_;rintro e w' ⟨rfl,nd0,rfl⟩;go_wp2_with fail
   refine (CN.out _).mono ?_;rintro e w' ⟨rfl,nd1,rfl⟩;go_wp2_with fail
   go_region
   go_wp2_with fail
   exact word_ret _ _ _ w.heap.size 1 (a0.extract i n) (i:Int) ((n:Int)) ((i:Int)) (9) rfl rfl rfl zq1 zq1 zq1 zq1 zq1 (HP.out _ zq2)
  rw [if_neg hm,if_neg hm] at HP;have hm2:¬ 12 < n - i:=by omega
  clear hm;go_enter Tryz.func80,Tryz.ntmps80
  go_wp2_with fail
  refine (CL.out _).mono ?_;rintro e w' ⟨rfl,nd0,rfl⟩;go_wp2_with fail
  refine (CN.out _).mono ?_;rintro e w' ⟨rfl,nd1,rfl⟩;go_wp2_with fail
  go_region
  go_wp2_with fail
  exact word_ret _ _ _ w.heap.size 1 (a0.extract i n) (i:Int) ((n:Int)) (0) (0) rfl rfl rfl zq1 zq1 zq1 zq1 zq1 (HP.out _ zq2)
mutual
def num_formed.j0:Nat→ByteArray→Bool→Option (Bool)
 | 0,_,_=>none
 | k+1,x0,x3=>if x3=true then (if 1≤(x0.size:Int) then (num_formed.j1 k (x0.extract 1 x0.size) x3) else (none)) else (num_formed.j1 k x0 x3)
def num_formed.j1:Nat→ByteArray→Bool→Option (Bool)
 | 0,_,_=>none
 | k+1,x0,x3=>if x0.toList=([]:List UInt8) then (num_formed.j2 k x0 true) else (if 0 < (x0.size:Int) then (if (bt x0 0)=48 then (if x3=true then (num_formed.j2 k x0 true) else (num_formed.j2 k x0 (decide ((x0.size:Int) > 1)))) else (num_formed.j2 k x0 false)) else (none))
def num_formed.j2:Nat→ByteArray→Bool→Option (Bool)
 | 0,_,_=>none
 | k+1,x0,x30=>if x30=true then (some false) else (num_formed.l0 k x0 (x0.size:Int) 0)
def num_formed.l0:Nat→ByteArray→Int→Int→Option (Bool)
 | 0,_,_,_=>none
 | k+1,x0,x32,x33=>if x33 < x32 then (if 0≤x33 then (if x33 < (x0.size:Int) then (if (bt x0 x33) < 48 then (some false) else (if (bt x0 x33) > 57 then (some false) else (num_formed.l0 k x0 x32 (wrap64 (x33+1))))) else (none)) else (none)) else (some true)
end
def num_formed.f (k:Nat) (a0:ByteArray):Option (Bool):=if (a0.size:Int) > 0 then (if 0 < (a0.size:Int) then (num_formed.j0 k a0 ((bt a0 0) == 45)) else (none)) else (num_formed.j0 k a0 false)
theorem num_formed.calls (k:Nat) (a0:ByteArray) (r:Bool) (w:World) (h:num_formed.f k a0=some r) :
  Calls Tryz.prog 116 #[.string a0] w fun e w'=>e=.returned (.bool r)∧Drawn0 w w':=by
 have H:=h;clear h;unfold num_formed.f at H;have HC2:=sd H;clear H;go_enter Tryz.func116,Tryz.ntmps116
 go_upto_region 1 with (fail)
 go_cut [3] (fun v3 wc=>∃ (kq:Nat) (x3_1:Bool),v3=.bool x3_1∧Aside0 (num_formed.j0 kq a0 x3_1=some r)∧Aside0 (kq≤k)∧Drawn0 w wc)
 case first =>
  have H:=HC2.out;clear HC2;replace H:=ifI H;rcases H with ⟨c3,H⟩ | ⟨c3,H⟩
  ·have c3b0:decide (0 < (a0.size:Int))=true:=decide_eq_true c3;have c3b1:decide (0 < a0.size)=true:=decide_eq_true (by omega);clear c3;(first | rw [c3b0] | (simp only [i64_w,i32_w];rw [c3b0]) | skip)
   replace H:=ifI H;rcases H with ⟨c4,H⟩ | ⟨c4,H⟩
   ·have c4b0:decide (0 < (a0.size:Int))=true:=decide_eq_true c4;have c4b1:decide (0 < a0.size)=true:=decide_eq_true (by omega);clear c4;have H':=sd H;clear H;have p5:0≤(0:Int):=(by omega)
    have q5:0 < a0.size:=(by have:(0:Int) < (a0.size:Int):=od;omega)
    have hx5:∀ h:0 < a0.size,((a0[0]'h).toNat:Int)=bt a0 0:=bt_at a0 0;clear p5;have qi5:(0 < (a0.size:Int))=True:=eq_true (od);replace q5:=eq_true q5;go_wp2
    go_meet
    case rel=>exact ⟨_,(((bt a0 0) == 45)),zq7,H',⟨by first | omega | exact Nat.le_refl _⟩,zq16⟩
   exact absurd H (by simp)
  have c3b0:decide (0 < (a0.size:Int))=false:=decide_eq_false c3;have c3b1:decide (0 < a0.size)=false:=decide_eq_false (by omega);clear c3;(first | rw [c3b0] | (simp only [i64_w,i32_w];rw [c3b0]) | skip)
  have H':=sd H;clear H;go_wp2
  go_meet
  case rel=>exact ⟨_,(false),zq7,H',⟨by first | omega | exact Nat.le_refl _⟩,zq16⟩
 case rest =>
  clear HC2;try clear c1
  try clear p2
  try clear c3
  try clear c3b0
  try clear c3b1
  try clear c4
  try clear c4b0
  try clear c4b1
  try clear p5
  try clear q5
  try clear hx5
  try clear qi5
  try clear p5
  try clear q5
  obtain ⟨kq,x3_1,rfl,HA,HJ1,⟨mc1,rfl⟩⟩:=hcut
  cases kq with
  | zero=>exact absurd HA.out (by simp [num_formed.j0])
  | succ kj1 =>
   have H:=HA.out;clear HA;simp only [num_formed.j0] at H
   have HC6:=sd H;clear H;go_upto_if 13 with (fail)
   go_cut [0] (fun v0 wc=>∃ (kq:Nat) (x0_5:ByteArray),v0=.string x0_5∧Aside0 (num_formed.j1 kq x0_5 x3_1=some r)∧Aside0 (kq≤kj1)∧Drawn0 w wc)
   case first =>
    have H:=HC6.out;clear HC6;by_cases c7:x3_1=true
    ·subst c7;rw [if_pos rfl] at H;replace H:=ifI H;rcases H with ⟨c8,H⟩ | ⟨c8,H⟩
     ·have c8b0:=eq_true c8;have c8b1:decide (1≤(a0.size:Int))=true:=decide_eq_true c8;clear c8;have H':=sd H;clear H;go_wp2
      go_meet
      case rel=>exact ⟨_,(a0.extract 1 a0.size),zq7,H',⟨zq17⟩,zq16⟩
     exact absurd H (by simp)
    replace c7:=Bool.eq_false_iff.mpr c7;subst c7;rw [if_neg Bool.false_ne_true] at H;have H':=sd H;clear H;go_wp2
    go_meet
    case rel=>exact ⟨_,(a0),zq7,H',⟨zq17⟩,zq16⟩
   case rest =>
    clear HC6;try clear c1
    try clear p2
    try clear c3
    try clear c3b0
    try clear c3b1
    try clear c4
    try clear c4b0
    try clear c4b1
    try clear p5
    try clear q5
    try clear hx5
    try clear qi5
    try clear c7
    try clear c8
    try clear c8b0
    try clear c8b1
    try clear p2
    try clear p5
    try clear q5
    obtain ⟨kq,x0_5,rfl,HA,HJ5,⟨mc5,rfl⟩⟩:=hcut
    cases kq with
    | zero=>exact absurd HA.out (by simp [num_formed.j1])
    | succ kj5 =>
     have H:=HA.out;clear HA;simp only [num_formed.j1] at H
     have HC9:=sd H;clear H;go_upto_region 4 with (fail)
     go_cut [30] (fun v30 wc=>∃ (kq:Nat) (x30_8:Bool),v30=.bool x30_8∧Aside0 (num_formed.j2 kq x0_5 x30_8=some r)∧Aside0 (kq≤kj5)∧Drawn0 w wc)
     case first =>
      have H:=HC9.out;clear HC9;replace H:=ifI H;rcases H with ⟨c10,H⟩ | ⟨c10,H⟩
      ·obtain ⟨c10b0,c10b1⟩:=eqI c10;clear c10;(first | rw [c10b0] | (simp only [i64_w,i32_w];rw [c10b0]) | skip)
       have H':=sd H;clear H;go_wp2
       go_meet
       case rel=>exact ⟨_,(true),zq7,H',⟨zq18⟩,zq16⟩
      obtain ⟨c10b0,c10b1⟩:=neI c10;(first | rw [c10b0] | (simp only [i64_w,i32_w];rw [c10b0]) | skip)
      replace H:=ifI H;rcases H with ⟨c11,H⟩ | ⟨c11,H⟩
      ·have c11b0:decide (0 < (x0_5.size:Int))=true:=decide_eq_true c11;have c11b1:decide (0 < x0_5.size)=true:=decide_eq_true (by omega);clear c11;replace H:=ifI H;rcases H with ⟨c13,H⟩ | ⟨c13,H⟩
       ·obtain ⟨c13b0,c13b1⟩:=eqI c13;clear c13;by_cases c14:x3_1=true
        ·subst c14;rw [if_pos rfl] at H;have H':=sd H;clear H;have p12:0≤(0:Int):=(by omega)
         have q12:0 < x0_5.size:=(by have:(0:Int) < (x0_5.size:Int):=od;omega)
         have hx12:∀ h:0 < x0_5.size,((x0_5[0]'h).toNat:Int)=bt x0_5 0:=bt_at x0_5 0;clear p12;have qi12:(0 < (x0_5.size:Int))=True:=eq_true (od);replace q12:=eq_true q12;go_wp2
         go_meet
         case rel=>exact ⟨_,(true),zq7,H',⟨zq18⟩,zq16⟩
        replace c14:=Bool.eq_false_iff.mpr c14;subst c14;rw [if_neg Bool.false_ne_true] at H;have H':=sd H;clear H;have p12:0≤(0:Int):=(by omega)
        have q12:0 < x0_5.size:=(by have:(0:Int) < (x0_5.size:Int):=od;omega)
        have hx12:∀ h:0 < x0_5.size,((x0_5[0]'h).toNat:Int)=bt x0_5 0:=bt_at x0_5 0;clear p12;have qi12:(0 < (x0_5.size:Int))=True:=eq_true (od);replace q12:=eq_true q12;go_wp2
        go_meet
        case rel=>exact ⟨_,(decide ((x0_5.size:Int) > 1)),zq7,H',⟨zq18⟩,zq16⟩
       obtain ⟨c13b0,c13b1⟩:=neI c13;have H':=sd H;clear H;have p12:0≤(0:Int):=(by omega)
       have q12:0 < x0_5.size:=(by have:(0:Int) < (x0_5.size:Int):=od;omega)
       have hx12:∀ h:0 < x0_5.size,((x0_5[0]'h).toNat:Int)=bt x0_5 0:=bt_at x0_5 0;clear p12;have qi12:(0 < (x0_5.size:Int))=True:=eq_true (od);replace q12:=eq_true q12;go_wp2
       go_meet
       case rel=>exact ⟨_,(false),zq7,H',⟨zq18⟩,zq16⟩
      exact absurd H (by simp)
     case rest =>
      clear HC9;try clear c1
      try clear p1
      try clear q1
      try clear hx1
      try clear qi1
      try clear p2
      try clear c3
      try clear c3b0
      try clear c3b1
      try clear c4
      try clear c4b0
      try clear c4b1
      try clear c5
      try clear p5
      try clear q5
      try clear hx5
      try clear qi5
      try clear c7
      try clear c8
      try clear c8b0
      try clear c8b1
      try clear c10
      try clear c10b0
      try clear c10b1
      try clear c11
      try clear c11b0
      try clear c11b1
      try clear p12
      try clear q12
      try clear hx12
      try clear qi12
      try clear c13
      try clear c13b0
      try clear c13b1
      try clear c14
      try clear p12
      try clear p2
      try clear p5
      try clear q12
      try clear q5
      obtain ⟨kq,x30_8,rfl,HA,HJ8,⟨mc8,rfl⟩⟩:=hcut
      cases kq with
      | zero=>exact absurd HA.out (by simp [num_formed.j2])
      | succ kj8 =>
       have H:=HA.out;clear HA;simp only [num_formed.j2] at H
       by_cases c15:x30_8=true
       ·subst c15;rw [if_pos rfl] at H;obtain rfl:=Option.some.inj H;go_wp2
        go_ret
        exact ⟨zq7,zq16⟩
       replace c15:=Bool.eq_false_iff.mpr c15;subst c15;rw [if_neg Bool.false_ne_true] at H;have H':=sd H;clear H;go_wp2
       go_loopg [33] kj8 (fun kq v33 w'=>∃ (x33_4:Int),v33=.int .i64 x33_4∧Aside0 (num_formed.l0 kq x0_5 (x0_5.size:Int) x33_4=some r)∧Aside0 (kq≤kj8)∧Drawn0 w w')
       case atStart=>exact ⟨(0),zq7,H',⟨Nat.le_refl _⟩,zq16⟩
       case round =>
        clear H';try clear c1
        try clear p1
        try clear q1
        try clear hx1
        try clear qi1
        try clear p2
        try clear c3
        try clear c3b0
        try clear c3b1
        try clear c4
        try clear c4b0
        try clear c4b1
        try clear c5
        try clear p5
        try clear q5
        try clear hx5
        try clear qi5
        try clear c7
        try clear c8
        try clear c8b0
        try clear c8b1
        try clear c10
        try clear c10b0
        try clear c10b1
        try clear c11
        try clear c11b0
        try clear c11b1
        try clear p12
        try clear q12
        try clear hx12
        try clear qi12
        try clear c13
        try clear c13b0
        try clear c13b1
        try clear c14
        try clear c15
        try clear p1
        try clear p12
        try clear p2
        try clear p5
        try clear q1
        try clear q12
        try clear q5
        obtain ⟨x33_4,rfl,HA,HK4,⟨m4,rfl⟩⟩:=hrel
        cases gk with
        | zero=>exact absurd HA.out (by simp [num_formed.l0])
        | succ k4 =>
         have H:=HA.out;clear HA;simp only [num_formed.l0] at H
         replace H:=ifI H;rcases H with ⟨c16,H⟩ | ⟨c16,H⟩
         ·have c16b0:decide (x33_4 < (x0_5.size:Int))=true:=decide_eq_true c16;clear c16;replace H:=ifI H;rcases H with ⟨c17,H⟩ | ⟨c17,H⟩
          ·have c17b0:decide (0≤x33_4)=true:=decide_eq_true c17;clear c17;replace H:=ifI H;rcases H with ⟨c18,H⟩ | ⟨c18,H⟩
           ·have c18b0:decide (x33_4 < (x0_5.size:Int))=true:=decide_eq_true c18;clear c18;replace H:=ifI H;rcases H with ⟨c20,H⟩ | ⟨c20,H⟩
            ·have c20b0:decide ((bt x0_5 x33_4) < 48)=true:=decide_eq_true c20;clear c20;obtain rfl:=Option.some.inj H;have p19:0≤(x33_4:Int):=od;have q19:x33_4 < (x0_5.size:Int):=od;have hx19:=bt_at x0_5 x33_4;replace p19:=eq_true p19;replace q19:=eq_true q19;go_wp2
             go_ret
             exact ⟨zq7,zq16⟩
            have c20b0:decide ((bt x0_5 x33_4) < 48)=false:=decide_eq_false c20;clear c20;replace H:=ifI H;rcases H with ⟨c22,H⟩ | ⟨c22,H⟩
            ·have c22b0:decide (57 < (bt x0_5 x33_4))=true:=decide_eq_true c22;clear c22;obtain rfl:=Option.some.inj H;have p19:0≤(x33_4:Int):=od;have q19:x33_4 < (x0_5.size:Int):=od;have hx19:=bt_at x0_5 x33_4;replace p19:=eq_true p19;replace q19:=eq_true q19;have p21:0≤(x33_4:Int):=od;have q21:x33_4 < (x0_5.size:Int):=od;have hx21:=bt_at x0_5 x33_4;replace p21:=eq_true p21;replace q21:=eq_true q21;go_wp2
             go_ret
             exact ⟨zq7,zq16⟩
            have c22b0:decide (57 < (bt x0_5 x33_4))=false:=decide_eq_false c22;clear c22;have H':=sd H;clear H;have p19:0≤(x33_4:Int):=od;have q19:x33_4 < (x0_5.size:Int):=od;have hx19:=bt_at x0_5 x33_4;replace p19:=eq_true p19;replace q19:=eq_true q19;have p21:0≤(x33_4:Int):=od;have q21:x33_4 < (x0_5.size:Int):=od;have hx21:=bt_at x0_5 x33_4;replace p21:=eq_true p21;replace q21:=eq_true q21;go_wp2
            go_roundg k4
            case measure=>have:=HJ1.out;have:=HJ5.out;have:=HJ8.out;have:=HK4.out;omega
            case rel=>exact ⟨(wrap64 (x33_4+1)),zq7,H',⟨by have:=HJ1.out;have:=HJ5.out;have:=HJ8.out;have:=HK4.out;omega⟩,zq16⟩
           exact absurd H (by simp)
          exact absurd H (by simp)
         have c16b0:decide (x33_4 < (x0_5.size:Int))=false:=decide_eq_false c16;clear c16;obtain rfl:=Option.some.inj H;go_wp2
         go_ret
         exact ⟨zq7,zq16⟩
theorem formed_l0 (s:ByteArray) (hs:s.size≤140737488351232) (d:Nat):∀ i:Nat,i+d=s.size→Ev (fun k=>num_formed.l0 k s (s.size:Int) (i:Int)) ((s.data.toList.drop i).all isDig):=by
 induction d with
 | zero =>
  intro i hi;refine Ev.step (fun k=>by rw [num_formed.l0]) ?_;refine Ev.no (by omega) (Ev.is ?_);rw [List.drop_eq_nil_of_le (by rw [← size_eq'];omega)];rfl
 | succ d ih =>
  intro i hi;have hl:i < s.data.toList.length:=by rw [← size_eq'];omega
  have hd:s.data.toList.drop i=s.data.toList[i] :: s.data.toList.drop (i+1):=List.drop_eq_getElem_cons hl;have hb:bt s (i:Int)=(s.data.toList[i].toNat:Int):=by rw [bt_eq,Int.toNat_natCast,List.getD_eq_getElem?_getD,List.getElem?_eq_getElem hl];rfl
  have hc:=isDig_iff s.data.toList[i];rw [← hb] at hc;refine Ev.step (fun k=>by rw [num_formed.l0]) ?_;refine Ev.yes (by omega) (Ev.yes (by omega) (Ev.yes (by omega) (Ev.both (fun h=>Ev.is ?_) (fun h=>Ev.both (fun h2=>Ev.is ?_) (fun h2=>?_)))))
  ·rw [hd,List.all_cons];have:isDig s.data.toList[i]=false:=by rw [← Bool.not_eq_true,hc];omega
   rw [this];rfl
  ·rw [hd,List.all_cons];have:isDig s.data.toList[i]=false:=by rw [← Bool.not_eq_true,hc];omega
   rw [this];rfl
  ·rw [hd,List.all_cons,hc.mpr ⟨by omega,by omega⟩,Bool.true_and,show wrap64 ((i:Int)+1)=((i+1:Nat):Int) by unfold wrap64;omega];exact ih (i+1) (by omega)
theorem formed_j2 (s:ByteArray) (hs:s.size≤140737488351232) (b:Bool):Ev (fun k=>num_formed.j2 k s b) (!b && s.data.toList.all isDig):=by
 refine Ev.step (fun k=>by rw [num_formed.j2]) ?_;refine Ev.both (fun h=>Ev.is (by rw [h];rfl)) (fun h=>?_);have:=formed_l0 s hs s.size 0 (by omega);rw [Bool.not_eq_true] at h;rw [h];exact this
theorem formed_j1 (s:ByteArray) (hs:s.size≤140737488351232) (b:Bool):Ev (fun k=>num_formed.j1 k s b) (formedM s.data.toList b):=by
 refine Ev.step (fun k=>by rw [num_formed.j1]) ?_;have hsz:=size_eq' s;have hb:bt s 0=((s.data.toList.getD 0 0).toNat:Int):=bt_eq s 0;rw [ByteArray.toList_eq];generalize hl:s.data.toList=l at *
 cases l with
 | nil =>
  refine Ev.yes rfl ?_;have:=formed_j2 s hs true;rw [hl] at this;exact this
 | cons c r =>
  have e:formedM (c :: r) b=(!(c == 48 && (b || decide (1 < (c :: r).length))) && (c :: r).all isDig):=by simp [formedM]
  rw [e]
  have h48:bt s 0=48 ↔ (c == 48)=true:=by
   rw [hb,beq_iff_eq];exact byte_is c 48
  refine Ev.no (by simp) (Ev.yes (by simp only [List.length_cons] at hsz;omega) (Ev.both (fun h=>?_) (fun h=>?_)))
  ·rw [h48.mp h];refine Ev.both (fun hb=>?_) (fun hb=>?_)
   ·have:=formed_j2 s hs true;rw [hl] at this;rw [hb];exact this
   ·have:=formed_j2 s hs (decide ((s.size:Int) > 1));rw [hl] at this;rw [Bool.not_eq_true] at hb;rw [hb];rw [show decide ((s.size:Int) > 1)=decide (1 < (c :: r).length) by rw [hsz,decide_eq_decide,List.length_cons];omega] at this ⊢;exact this
  ·rw [h48] at h;rw [Bool.not_eq_true _ |>.mp h];have:=formed_j2 s hs false;rw [hl] at this;exact this
theorem formed_ev (s:ByteArray) (hs:s.size≤140737488351232):Ev (fun k=>num_formed.f k s) (formedL s.data.toList):=by
 unfold num_formed.f;have hsz:=size_eq' s;have hb:bt s 0=((s.data.toList.getD 0 0).toNat:Int):=bt_eq s 0;have hx:=Lib.extract_to_end s 1;have hxs:(s.extract 1 s.size).size≤140737488351232:=by rw [size_eq',hx,List.length_drop];omega
 have key:Ev (fun k=>num_formed.j0 k s (negOf s.data.toList)) (formedL s.data.toList):=by
  refine Ev.step (fun k=>by rw [num_formed.j0]) ?_;refine Ev.both (fun h=>?_) (fun h=>?_)
  ·have hp:1≤s.size:=by
    rw [hsz];cases hl:s.data.toList with
    | nil=>rw [hl] at h;simp [negOf] at h
    | cons c r=>simp
   refine Ev.yes (by omega) ?_;have:=formed_j1 (s.extract 1 s.size) hxs (negOf s.data.toList);rw [hx] at this;have e:formedL s.data.toList=formedM (s.data.toList.drop 1) (negOf s.data.toList):=by simp [formedL,formedM,magOf,h]
   rw [e];exact this
  ·have:=formed_j1 s hs (negOf s.data.toList);have e:formedL s.data.toList=formedM s.data.toList (negOf s.data.toList):=by simp [formedL,formedM,magOf,h]
   rw [e];exact this
 have hn:s.size > 0→(bt s 0 == 45)=negOf s.data.toList:=by
  intro h;rw [hb]
  cases hl:s.data.toList with
  | nil=>rw [hl,List.length_nil] at hsz;omega
  | cons c r =>
   simp only [negOf,List.getD_cons_zero,List.head?_cons]
   rw [Bool.eq_iff_iff,beq_iff_eq,beq_iff_eq,Option.some_inj];exact byte_is c 45
 refine Ev.both (fun h=>Ev.yes h ?_) (fun h=>?_)
 ·rw [hn (by omega)];exact key
 ·have e:negOf s.data.toList=false:=by
   cases hl:s.data.toList with
   | nil=>rfl
   | cons c r=>rw [hl] at hsz;simp at hsz;omega
  rw [e] at key;exact key
theorem formed_calls (s:ByteArray) (hs:s.size≤140737488351232) (w:World) :
  Calls Tryz.prog 116 #[.string s] w fun e w'=>e=.returned (.bool (formedL s.data.toList))∧Drawn0 w w':=by
 obtain ⟨k,hk⟩:=(formed_ev s hs).rounds;exact num_formed.calls k s _ w hk
end Go.Proofs.YtkbgkekegjfkfaaGreatDoor.A
namespace Go.Proofs.YtkbgkekegjfkfaaGreatDoor.A
open Go.RowKit B WW WL WM
theorem zq120 {P:Prop} (h:P:=by (with_reducible repeat (first | refine blk_drewN ?_ _ | refine blk_drew ?_ | refine blk_alloc ?_ _));exact BK117.out):P:=h
end Go.Proofs.YtkbgkekegjfkfaaGreatDoor.A
