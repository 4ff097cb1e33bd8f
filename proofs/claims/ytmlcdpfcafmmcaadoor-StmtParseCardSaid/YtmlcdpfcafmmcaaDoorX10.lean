-- By pack.py, a program of this session's.
import Derived.Test.YtmlcdpfcafmmcaaDoorX5
import Derived.Test.YtmlcdpfcafmmcaaDoorX6
import Derived.Test.YtmlcdpfcafmmcaaDoorX7
import Derived.Test.YtmlcdpfcafmmcaaDoorX8
set_option linter.unusedVariables false
set_option linter.unusedSimpArgs false
namespace Go.Proofs.YtmlcdpfcafmmcaaDoor.A
open Go.RowKit B WW WL WM
attribute [local go_sem] max2_int min2_int max_two min_two max_three min_three max_four min_four
set_option maxHeartbeats 8000000
set_option maxRecDepth 100000
def words_word.f (k:Nat) (s:ByteArray) (i:Int):Option (Int×ByteArray×Int×Int×Int×Int) :=
 if 0≤i∧i < (s.size:Int)∧s.size≤140737488351232 then
  (words_letter.f (bt s i)).bind fun l=>if l=true then (words_nameEnd.f k s i).bind fun e=>words_word.g s i 1 e 12 else
  (words_digit.f (bt s i)).bind fun d=>if d=true then (words_numberEnd.f k s i).bind fun e=>words_word.g s i 2 e 60 else
  if bt s i=45 then (words_digitAt.f s (i+1)).bind fun b=>if b=true then (words_numberEnd.f k s i).bind fun e=>words_word.g s i 2 e 60 else words_word.h k s i
  else words_word.h k s i
 else none
theorem words_word.calls (k:Nat) (a0:ByteArray) (a1 r1:Int) (r2:ByteArray) (r3 r4 r5 r6:Int) (w:World) (h:words_word.f k a0 a1=some (r1,r2,r3,r4,r5,r6)) :
  Calls Tryd.prog 66 #[.string a0,.int .i64 a1] w fun e w'=>e=.returned (.tuple #[.agg #[.int .i64 r1,.string r2,.int .i64 r3],.int .i64 r4,.agg #[.int .i64 r5,.int .i64 r6]])∧Below w.heap.size w w':=by
 have HPost:∀ W,Below w.heap.size w W→(fun (e:Ending) (w':World)=>e=.returned (.tuple #[.agg #[.int .i64 r1,.string r2,.int .i64 r3],.int .i64 r4,.agg #[.int .i64 r5,.int .i64 r6]])∧Below w.heap.size w w') (.returned (.tuple #[.agg #[.int .i64 r1,.string r2,.int .i64 r3],.int .i64 r4,.agg #[.int .i64 r5,.int .i64 r6]])) W:=fun W hW=>⟨rfl,hW⟩
 generalize (fun (e:Ending) (w':World)=>e=.returned (.tuple #[.agg #[.int .i64 r1,.string r2,.int .i64 r3],.int .i64 r4,.agg #[.int .i64 r5,.int .i64 r6]])∧Below w.heap.size w w')=Post at HPost ⊢;have HP:=sd HPost;clear HPost;unfold words_word.f at h;split at h
 case isFalse=>cases h
 rename_i hb
 obtain ⟨hb0,hb1,hs⟩:=hb;obtain ⟨i,rfl⟩:=Int.eq_ofNat_of_zero_le hb0;have hi:i < a0.size:=by omega
 clear hb0 hb1;rw [show bt a0 (i:Int)=(a0[i].toNat:Int) from (bt_at a0 i hi).symm] at h;obtain ⟨c,hc⟩:∃ c,a0[i]=c:=⟨_,rfl⟩
 rw [hc] at h;replace h:=Option.bind_eq_some_iff.mp h;obtain ⟨l,hl,h⟩:=h;have CL:=sd (fun W=>words_letter.calls (c.toNat:Int) l W hl);clear hl
 cases l
 ·rw [if_neg (by decide)] at h;replace h:=Option.bind_eq_some_iff.mp h;obtain ⟨d,hd,h⟩:=h;have CD:=sd (fun W=>words_digit.calls (c.toNat:Int) d W hd);clear hd
  cases d
  ·rw [if_neg (by decide)] at h;by_cases h45:(c.toNat:Int)=45
   ·rw [if_pos h45] at h;replace h:=Option.bind_eq_some_iff.mp h;obtain ⟨b,hb,h⟩:=h;have CA:=sd (fun W=>words_digitAt.calls a0 ((i:Int)+1) b W hb);have s45:((c.toNat:Int) == 45)=true:=beq_iff_eq.mpr h45;clear hb
    cases b
    ·rw [if_neg (by decide)] at h;unfold words_word.h at h;rw [show bt a0 (i:Int)=(c.toNat:Int) by rw [← hc];exact (bt_at a0 i hi).symm] at h;have h34:¬ (c.toNat:Int)=34:=by omega
     clear h45;rw [if_neg h34] at h;have s34:((c.toNat:Int) == 34)=false:=beq_eq_false_iff_ne.mpr h34;clear h34;replace h:=Option.bind_eq_some_iff.mp h;obtain ⟨e,he,h⟩:=h;have CN:=sd (fun W=>words_signEnd.calls k a0 (i:Int) e W he);clear he;by_cases hei:e=(i:Int)
     ·rw [if_pos hei] at h;subst hei;simp only [Option.some.injEq,Prod.mk.injEq] at h
      obtain ⟨rfl,rfl,rfl,rfl,rfl,rfl⟩:=h;go_enter Tryd.func66,Tryd.ntmps66
      go_wp2_with fail
      refine (CL.out _).mono ?_;rintro e w' ⟨rfl,nd0,rfl⟩;go_wp2_with fail
      refine (CD.out _).mono ?_;rintro e w' ⟨rfl,nd1,rfl⟩;go_wp2_with fail
      refine (CA.out _).mono ?_;rintro e w' ⟨rfl,nd2,rfl⟩;go_wp2_with fail
      refine (CN.out _).mono ?_;rintro e w' ⟨rfl,nd3,rfl⟩;go_wp2_with fail
      exact word_ret _ _ _ w.heap.size 4 ⟨#[]⟩ (i:Int) ((i:Int)) ((i:Int)) (5) rfl rfl rfl zq122 zq122 zq122 zq122 zq122 (HP.out _ zq123)
     rw [if_neg hei] at h;unfold words_word.g at h;split at h
     case isFalse=>cases h
     rename_i hb
     obtain ⟨q0,q1⟩:=hb;obtain ⟨n,rfl⟩:=Int.eq_ofNat_of_zero_le (show 0≤e by omega);simp only [Int.toNat_natCast,Option.some.injEq,Prod.mk.injEq] at h
     obtain ⟨rfl,rfl,rfl,rfl,rfl,rfl⟩:=h;have hne:((n:Int) == (i:Int))=false:=beq_eq_false_iff_ne.mpr hei;clear hei;have hsz:(a0.extract i n).size=n - i:=by rw [ByteArray.size_extract];omega
     by_cases hm:(60:Int) < (n:Int) - (i:Int)
     ·rw [if_pos hm,if_pos hm] at HP;have hm2:60 < n - i:=by omega
      clear hm;go_enter Tryd.func66,Tryd.ntmps66
      go_wp2_with fail
      refine (CL.out _).mono ?_;rintro e w' ⟨rfl,nd0,rfl⟩;go_wp2_with fail
      refine (CD.out _).mono ?_;rintro e w' ⟨rfl,nd1,rfl⟩;go_wp2_with fail
      refine (CA.out _).mono ?_;rintro e w' ⟨rfl,nd2,rfl⟩;go_wp2_with fail
      refine (CN.out _).mono ?_;rintro e w' ⟨rfl,nd3,rfl⟩;go_wp2_with fail
      go_region
      go_wp2_with fail
      exact word_ret _ _ _ w.heap.size 4 (a0.extract i n) (i:Int) ((n:Int)) ((i:Int)) (9) rfl rfl rfl zq122 zq122 zq122 zq122 zq122 (HP.out _ zq123)
     rw [if_neg hm,if_neg hm] at HP;have hm2:¬ 60 < n - i:=by omega
     clear hm;go_enter Tryd.func66,Tryd.ntmps66
     go_wp2_with fail
     refine (CL.out _).mono ?_;rintro e w' ⟨rfl,nd0,rfl⟩;go_wp2_with fail
     refine (CD.out _).mono ?_;rintro e w' ⟨rfl,nd1,rfl⟩;go_wp2_with fail
     refine (CA.out _).mono ?_;rintro e w' ⟨rfl,nd2,rfl⟩;go_wp2_with fail
     refine (CN.out _).mono ?_;rintro e w' ⟨rfl,nd3,rfl⟩;go_wp2_with fail
     go_region
     go_wp2_with fail
     exact word_ret _ _ _ w.heap.size 4 (a0.extract i n) (i:Int) ((n:Int)) (0) (0) rfl rfl rfl zq122 zq122 zq122 zq122 zq122 (HP.out _ zq123)
    ·rw [if_pos rfl] at h;clear h45;replace h:=Option.bind_eq_some_iff.mp h;obtain ⟨e,he,h⟩:=h;have CN:=sd (fun W=>words_numberEnd.calls k a0 (i:Int) e W he);clear he;unfold words_word.g at h;split at h
     case isFalse=>cases h
     rename_i hb
     obtain ⟨q0,q1⟩:=hb;obtain ⟨n,rfl⟩:=Int.eq_ofNat_of_zero_le (show 0≤e by omega);simp only [Int.toNat_natCast,Option.some.injEq,Prod.mk.injEq] at h
     obtain ⟨rfl,rfl,rfl,rfl,rfl,rfl⟩:=h;have hsz:(a0.extract i n).size=n - i:=by rw [ByteArray.size_extract];omega
     by_cases hm:(60:Int) < (n:Int) - (i:Int)
     ·rw [if_pos hm,if_pos hm] at HP;have hm2:60 < n - i:=by omega
      clear hm;go_enter Tryd.func66,Tryd.ntmps66
      go_wp2_with fail
      refine (CL.out _).mono ?_;rintro e w' ⟨rfl,nd0,rfl⟩;go_wp2_with fail
      refine (CD.out _).mono ?_;rintro e w' ⟨rfl,nd1,rfl⟩;go_wp2_with fail
      refine (CA.out _).mono ?_;rintro e w' ⟨rfl,nd2,rfl⟩;go_wp2_with fail
      refine (CN.out _).mono ?_;rintro e w' ⟨rfl,nd3,rfl⟩;go_wp2_with fail
      go_region
      go_wp2_with fail
      exact word_ret _ _ _ w.heap.size 2 (a0.extract i n) (i:Int) ((n:Int)) ((i:Int)) (9) rfl rfl rfl zq122 zq122 zq122 zq122 zq122 (HP.out _ zq123)
     rw [if_neg hm,if_neg hm] at HP;have hm2:¬ 60 < n - i:=by omega
     clear hm;go_enter Tryd.func66,Tryd.ntmps66
     go_wp2_with fail
     refine (CL.out _).mono ?_;rintro e w' ⟨rfl,nd0,rfl⟩;go_wp2_with fail
     refine (CD.out _).mono ?_;rintro e w' ⟨rfl,nd1,rfl⟩;go_wp2_with fail
     refine (CA.out _).mono ?_;rintro e w' ⟨rfl,nd2,rfl⟩;go_wp2_with fail
     refine (CN.out _).mono ?_;rintro e w' ⟨rfl,nd3,rfl⟩;go_wp2_with fail
     go_region
     go_wp2_with fail
     exact word_ret _ _ _ w.heap.size 2 (a0.extract i n) (i:Int) ((n:Int)) (0) (0) rfl rfl rfl zq122 zq122 zq122 zq122 zq122 (HP.out _ zq123)
   rw [if_neg h45] at h;have s45:((c.toNat:Int) == 45)=false:=beq_eq_false_iff_ne.mpr h45;clear h45;unfold words_word.h at h;rw [show bt a0 (i:Int)=(c.toNat:Int) by rw [← hc];exact (bt_at a0 i hi).symm] at h;by_cases h34:(c.toNat:Int)=34
   ·rw [if_pos h34] at h;have s34:((c.toNat:Int) == 34)=true:=beq_iff_eq.mpr h34;clear h34;replace h:=Option.bind_eq_some_iff.mp h;obtain ⟨⟨q,qe,qa,qp⟩,hq,h⟩:=h;have CQ:=sd (fun W=>words_quoted.calls k a0 (i:Int) q qe qa qp W hq);clear hq;dsimp only at h
    by_cases hp:qp=0
    ·subst hp;rw [if_neg (by decide)] at h;simp only [Option.some.injEq,Prod.mk.injEq] at h
     obtain ⟨rfl,rfl,rfl,rfl,rfl,rfl⟩:=h;by_cases hm:(60:Int) < (q.size:Int)
     ·rw [if_pos hm,if_pos hm] at HP;go_enter Tryd.func66,Tryd.ntmps66
      go_wp2_with fail
      refine (CL.out _).mono ?_;rintro e w' ⟨rfl,nd0,rfl⟩;go_wp2_with fail
      refine (CD.out _).mono ?_;rintro e w' ⟨rfl,nd1,rfl⟩;go_wp2_with fail
      refine (CQ.out _).mono ?_;rintro e W1 ⟨rfl,hb⟩;obtain ⟨hc',hf'⟩:=bcell hb;have hz1:w.heap.size+1 < W1.heap.size:=by have:=hb.size;simp at this;omega
      have k0:W1.cell? ⟨w.heap.size,0,none⟩=some (.int .i64 3):=(hc' _ _ (by simp <;> omega)).trans (by simp [go_sem]);have k1:W1.cell? ⟨w.heap.size,1,none⟩=some (.string ⟨#[]⟩):=(hc' _ _ (by simp <;> omega)).trans (by simp [go_sem]);have k2:W1.cell? ⟨w.heap.size,2,none⟩=some (.int .i64 (i:Int)):=(hc' _ _ (by simp <;> omega)).trans (by simp [go_sem]);have k3:W1.cell? ⟨w.heap.size+1,0,none⟩=some (.int .i64 0):=(hc' _ _ (by simp <;> omega)).trans (by simp [go_sem]);have k4:W1.cell? ⟨w.heap.size+1,1,none⟩=some (.int .i64 0):=(hc' _ _ (by simp <;> omega)).trans (by simp [go_sem]);have f0:W1.frozen? ⟨w.heap.size,0,none⟩=false:=(hf' _ _ (by simp <;> omega)).trans (by simp [go_sem]);have f1:W1.frozen? ⟨w.heap.size,1,none⟩=false:=(hf' _ _ (by simp <;> omega)).trans (by simp [go_sem]);have f2:W1.frozen? ⟨w.heap.size,2,none⟩=false:=(hf' _ _ (by simp <;> omega)).trans (by simp [go_sem]);have f3:W1.frozen? ⟨w.heap.size+1,0,none⟩=false:=(hf' _ _ (by simp <;> omega)).trans (by simp [go_sem]);have f4:W1.frozen? ⟨w.heap.size+1,1,none⟩=false:=(hf' _ _ (by simp <;> omega)).trans (by simp [go_sem]);have HB:=sd ((show Below w.heap.size w _ from zq123).trans (hb.mono (by simp <;> omega)));clear hb hc' hf';have HW:=sd (show WordW W1 w.heap.size 3 ⟨#[]⟩ (i:Int) 0 0 from ⟨k0,k1,k2,k3,k4,f0,f1,f2,f3,f4⟩);go_wp2_with fail
      have HW2:=sd (((((HW.out.s q).a qa).e (0)).a (i:Int)).e 9);have HB2:=sd (show Below w.heap.size w (((((W1.setCell ⟨w.heap.size,1,none⟩ (.string q)).setCell ⟨w.heap.size+1,0,none⟩ (.int .i64 qa)).setCell ⟨w.heap.size+1,1,none⟩ (.int .i64 0)).setCell ⟨w.heap.size+1,0,none⟩ (.int .i64 (i:Int))).setCell ⟨w.heap.size+1,1,none⟩ (.int .i64 9)) from below_setN (below_setN (below_setN (below_setN (below_setN (HB.out) (Nat.le_refl _) _) (Nat.le_succ _) _) (Nat.le_succ _) _) (Nat.le_succ _) _) (Nat.le_succ _) _);generalize ((((W1.setCell ⟨w.heap.size,1,none⟩ (.string q)).setCell ⟨w.heap.size+1,0,none⟩ (.int .i64 qa)).setCell ⟨w.heap.size+1,1,none⟩ (.int .i64 0)).setCell ⟨w.heap.size+1,0,none⟩ (.int .i64 (i:Int))).setCell ⟨w.heap.size+1,1,none⟩ (.int .i64 9)=W2 at HW2 HB2 ⊢;clear k0 k1 k2 k3 k4 f0 f1 f2 f3 f4 HB;have HB:=HB2;obtain ⟨k0,k1,k2,k3,k4,f0,f1,f2,f3,f4⟩:=HW2.out;go_region
      go_wp2_with fail
      exact word_ret _ _ _ w.heap.size 3 q (i:Int) qe ((i:Int)) (9) rfl rfl rfl zq122 zq122 zq122 zq122 zq122 (HP.out _ zq124)
     rw [if_neg hm,if_neg hm] at HP;go_enter Tryd.func66,Tryd.ntmps66
     go_wp2_with fail
     refine (CL.out _).mono ?_;rintro e w' ⟨rfl,nd0,rfl⟩;go_wp2_with fail
     refine (CD.out _).mono ?_;rintro e w' ⟨rfl,nd1,rfl⟩;go_wp2_with fail
     refine (CQ.out _).mono ?_;rintro e W1 ⟨rfl,hb⟩;obtain ⟨hc',hf'⟩:=bcell hb;have hz1:w.heap.size+1 < W1.heap.size:=by have:=hb.size;simp at this;omega
     have k0:W1.cell? ⟨w.heap.size,0,none⟩=some (.int .i64 3):=(hc' _ _ (by simp <;> omega)).trans (by simp [go_sem]);have k1:W1.cell? ⟨w.heap.size,1,none⟩=some (.string ⟨#[]⟩):=(hc' _ _ (by simp <;> omega)).trans (by simp [go_sem]);have k2:W1.cell? ⟨w.heap.size,2,none⟩=some (.int .i64 (i:Int)):=(hc' _ _ (by simp <;> omega)).trans (by simp [go_sem]);have k3:W1.cell? ⟨w.heap.size+1,0,none⟩=some (.int .i64 0):=(hc' _ _ (by simp <;> omega)).trans (by simp [go_sem]);have k4:W1.cell? ⟨w.heap.size+1,1,none⟩=some (.int .i64 0):=(hc' _ _ (by simp <;> omega)).trans (by simp [go_sem]);have f0:W1.frozen? ⟨w.heap.size,0,none⟩=false:=(hf' _ _ (by simp <;> omega)).trans (by simp [go_sem]);have f1:W1.frozen? ⟨w.heap.size,1,none⟩=false:=(hf' _ _ (by simp <;> omega)).trans (by simp [go_sem]);have f2:W1.frozen? ⟨w.heap.size,2,none⟩=false:=(hf' _ _ (by simp <;> omega)).trans (by simp [go_sem]);have f3:W1.frozen? ⟨w.heap.size+1,0,none⟩=false:=(hf' _ _ (by simp <;> omega)).trans (by simp [go_sem]);have f4:W1.frozen? ⟨w.heap.size+1,1,none⟩=false:=(hf' _ _ (by simp <;> omega)).trans (by simp [go_sem]);have HB:=sd ((show Below w.heap.size w _ from zq123).trans (hb.mono (by simp <;> omega)));clear hb hc' hf';have HW:=sd (show WordW W1 w.heap.size 3 ⟨#[]⟩ (i:Int) 0 0 from ⟨k0,k1,k2,k3,k4,f0,f1,f2,f3,f4⟩);go_wp2_with fail
     have HW2:=sd (((HW.out.s q).a qa).e (0));have HB2:=sd (show Below w.heap.size w (((W1.setCell ⟨w.heap.size,1,none⟩ (.string q)).setCell ⟨w.heap.size+1,0,none⟩ (.int .i64 qa)).setCell ⟨w.heap.size+1,1,none⟩ (.int .i64 0)) from below_setN (below_setN (below_setN (HB.out) (Nat.le_refl _) _) (Nat.le_succ _) _) (Nat.le_succ _) _);generalize ((W1.setCell ⟨w.heap.size,1,none⟩ (.string q)).setCell ⟨w.heap.size+1,0,none⟩ (.int .i64 qa)).setCell ⟨w.heap.size+1,1,none⟩ (.int .i64 0)=W2 at HW2 HB2 ⊢;clear k0 k1 k2 k3 k4 f0 f1 f2 f3 f4 HB;have HB:=HB2;obtain ⟨k0,k1,k2,k3,k4,f0,f1,f2,f3,f4⟩:=HW2.out;go_region
     go_wp2_with fail
     exact word_ret _ _ _ w.heap.size 3 q (i:Int) qe (qa) (0) rfl rfl rfl zq122 zq122 zq122 zq122 zq122 (HP.out _ zq124)
    rw [if_pos hp] at h;simp only [Option.some.injEq,Prod.mk.injEq] at h
    obtain ⟨rfl,rfl,rfl,rfl,rfl,rfl⟩:=h;have hpb:(qp == 0)=false:=beq_eq_false_iff_ne.mpr hp;clear hp;go_enter Tryd.func66,Tryd.ntmps66
    go_wp2_with fail
    refine (CL.out _).mono ?_;rintro e w' ⟨rfl,nd0,rfl⟩;go_wp2_with fail
    refine (CD.out _).mono ?_;rintro e w' ⟨rfl,nd1,rfl⟩;go_wp2_with fail
    refine (CQ.out _).mono ?_;rintro e W1 ⟨rfl,hb⟩;obtain ⟨hc',hf'⟩:=bcell hb;have hz1:w.heap.size+1 < W1.heap.size:=by have:=hb.size;simp at this;omega
    have k0:W1.cell? ⟨w.heap.size,0,none⟩=some (.int .i64 3):=(hc' _ _ (by simp <;> omega)).trans (by simp [go_sem]);have k1:W1.cell? ⟨w.heap.size,1,none⟩=some (.string ⟨#[]⟩):=(hc' _ _ (by simp <;> omega)).trans (by simp [go_sem]);have k2:W1.cell? ⟨w.heap.size,2,none⟩=some (.int .i64 (i:Int)):=(hc' _ _ (by simp <;> omega)).trans (by simp [go_sem]);have k3:W1.cell? ⟨w.heap.size+1,0,none⟩=some (.int .i64 0):=(hc' _ _ (by simp <;> omega)).trans (by simp [go_sem]);have k4:W1.cell? ⟨w.heap.size+1,1,none⟩=some (.int .i64 0):=(hc' _ _ (by simp <;> omega)).trans (by simp [go_sem]);have f0:W1.frozen? ⟨w.heap.size,0,none⟩=false:=(hf' _ _ (by simp <;> omega)).trans (by simp [go_sem]);have f1:W1.frozen? ⟨w.heap.size,1,none⟩=false:=(hf' _ _ (by simp <;> omega)).trans (by simp [go_sem]);have f2:W1.frozen? ⟨w.heap.size,2,none⟩=false:=(hf' _ _ (by simp <;> omega)).trans (by simp [go_sem]);have f3:W1.frozen? ⟨w.heap.size+1,0,none⟩=false:=(hf' _ _ (by simp <;> omega)).trans (by simp [go_sem]);have f4:W1.frozen? ⟨w.heap.size+1,1,none⟩=false:=(hf' _ _ (by simp <;> omega)).trans (by simp [go_sem]);have HB:=sd ((show Below w.heap.size w _ from zq123).trans (hb.mono (by simp <;> omega)));clear hb hc' hf';have HW:=sd (show WordW W1 w.heap.size 3 ⟨#[]⟩ (i:Int) 0 0 from ⟨k0,k1,k2,k3,k4,f0,f1,f2,f3,f4⟩);go_wp2_with fail
    have HW2:=sd (((HW.out.s q).a qa).e (qp));have HB2:=sd (show Below w.heap.size w (((W1.setCell ⟨w.heap.size,1,none⟩ (.string q)).setCell ⟨w.heap.size+1,0,none⟩ (.int .i64 qa)).setCell ⟨w.heap.size+1,1,none⟩ (.int .i64 qp)) from below_setN (below_setN (below_setN (HB.out) (Nat.le_refl _) _) (Nat.le_succ _) _) (Nat.le_succ _) _);generalize ((W1.setCell ⟨w.heap.size,1,none⟩ (.string q)).setCell ⟨w.heap.size+1,0,none⟩ (.int .i64 qa)).setCell ⟨w.heap.size+1,1,none⟩ (.int .i64 qp)=W2 at HW2 HB2 ⊢;clear k0 k1 k2 k3 k4 f0 f1 f2 f3 f4 HB;have HB:=HB2;obtain ⟨k0,k1,k2,k3,k4,f0,f1,f2,f3,f4⟩:=HW2.out;go_region
    go_wp2_with fail
    exact word_ret _ _ _ w.heap.size 3 q (i:Int) qe (qa) (qp) rfl rfl rfl zq122 zq122 zq122 zq122 zq122 (HP.out _ zq124)
   rw [if_neg h34] at h;have s34:((c.toNat:Int) == 34)=false:=beq_eq_false_iff_ne.mpr h34;clear h34;replace h:=Option.bind_eq_some_iff.mp h;obtain ⟨e,he,h⟩:=h;have CN:=sd (fun W=>words_signEnd.calls k a0 (i:Int) e W he);clear he;by_cases hei:e=(i:Int)
   ·rw [if_pos hei] at h;subst hei;simp only [Option.some.injEq,Prod.mk.injEq] at h
    obtain ⟨rfl,rfl,rfl,rfl,rfl,rfl⟩:=h;go_enter Tryd.func66,Tryd.ntmps66
    go_wp2_with fail
    refine (CL.out _).mono ?_;rintro e w' ⟨rfl,nd0,rfl⟩;go_wp2_with fail
    refine (CD.out _).mono ?_;rintro e w' ⟨rfl,nd1,rfl⟩;go_wp2_with fail
    refine (CN.out _).mono ?_;rintro e w' ⟨rfl,nd2,rfl⟩;go_wp2_with fail
    exact word_ret _ _ _ w.heap.size 4 ⟨#[]⟩ (i:Int) ((i:Int)) ((i:Int)) (5) rfl rfl rfl zq122 zq122 zq122 zq122 zq122 (HP.out _ zq123)
   rw [if_neg hei] at h;unfold words_word.g at h;split at h
   case isFalse=>cases h
   rename_i hb
   obtain ⟨q0,q1⟩:=hb;obtain ⟨n,rfl⟩:=Int.eq_ofNat_of_zero_le (show 0≤e by omega);simp only [Int.toNat_natCast,Option.some.injEq,Prod.mk.injEq] at h
   obtain ⟨rfl,rfl,rfl,rfl,rfl,rfl⟩:=h;have hne:((n:Int) == (i:Int))=false:=beq_eq_false_iff_ne.mpr hei;clear hei;have hsz:(a0.extract i n).size=n - i:=by rw [ByteArray.size_extract];omega
   by_cases hm:(60:Int) < (n:Int) - (i:Int)
   ·rw [if_pos hm,if_pos hm] at HP;have hm2:60 < n - i:=by omega
    clear hm;go_enter Tryd.func66,Tryd.ntmps66
    go_wp2_with fail
    refine (CL.out _).mono ?_;rintro e w' ⟨rfl,nd0,rfl⟩;go_wp2_with fail
    refine (CD.out _).mono ?_;rintro e w' ⟨rfl,nd1,rfl⟩;go_wp2_with fail
    refine (CN.out _).mono ?_;rintro e w' ⟨rfl,nd2,rfl⟩;go_wp2_with fail
    go_region
    go_wp2_with fail
    exact word_ret _ _ _ w.heap.size 4 (a0.extract i n) (i:Int) ((n:Int)) ((i:Int)) (9) rfl rfl rfl zq122 zq122 zq122 zq122 zq122 (HP.out _ zq123)
   rw [if_neg hm,if_neg hm] at HP;have hm2:¬ 60 < n - i:=by omega
   clear hm;go_enter Tryd.func66,Tryd.ntmps66
   go_wp2_with fail
   refine (CL.out _).mono ?_;rintro e w' ⟨rfl,nd0,rfl⟩;go_wp2_with fail
   refine (CD.out _).mono ?_;rintro e w' ⟨rfl,nd1,rfl⟩;go_wp2_with fail
   refine (CN.out _).mono ?_;rintro e w' ⟨rfl,nd2,rfl⟩;go_wp2_with fail
   go_region
   go_wp2_with fail
   exact word_ret _ _ _ w.heap.size 4 (a0.extract i n) (i:Int) ((n:Int)) (0) (0) rfl rfl rfl zq122 zq122 zq122 zq122 zq122 (HP.out _ zq123)
  ·rw [if_pos rfl] at h;replace h:=Option.bind_eq_some_iff.mp h;obtain ⟨e,he,h⟩:=h;have CN:=sd (fun W=>words_numberEnd.calls k a0 (i:Int) e W he);clear he;unfold words_word.g at h;split at h
   case isFalse=>cases h
   rename_i hb
   obtain ⟨q0,q1⟩:=hb;obtain ⟨n,rfl⟩:=Int.eq_ofNat_of_zero_le (show 0≤e by omega);simp only [Int.toNat_natCast,Option.some.injEq,Prod.mk.injEq] at h
   obtain ⟨rfl,rfl,rfl,rfl,rfl,rfl⟩:=h;have hsz:(a0.extract i n).size=n - i:=by rw [ByteArray.size_extract];omega
   by_cases hm:(60:Int) < (n:Int) - (i:Int)
   ·rw [if_pos hm,if_pos hm] at HP;have hm2:60 < n - i:=by omega
    clear hm;go_enter Tryd.func66,Tryd.ntmps66
    go_wp2_with fail
    refine (CL.out _).mono ?_;rintro e w' ⟨rfl,nd0,rfl⟩;go_wp2_with fail
    refine (CD.out _).mono ?_;rintro e w' ⟨rfl,nd1,rfl⟩;go_wp2_with fail
    refine (CN.out _).mono ?_;rintro e w' ⟨rfl,nd2,rfl⟩;go_wp2_with fail
    go_region
    go_wp2_with fail
    exact word_ret _ _ _ w.heap.size 2 (a0.extract i n) (i:Int) ((n:Int)) ((i:Int)) (9) rfl rfl rfl zq122 zq122 zq122 zq122 zq122 (HP.out _ zq123)
   rw [if_neg hm,if_neg hm] at HP;have hm2:¬ 60 < n - i:=by omega
   clear hm;go_enter Tryd.func66,Tryd.ntmps66
   go_wp2_with fail
   refine (CL.out _).mono ?_;rintro e w' ⟨rfl,nd0,rfl⟩;go_wp2_with fail
   refine (CD.out _).mono ?_;rintro e w' ⟨rfl,nd1,rfl⟩;go_wp2_with fail
   refine (CN.out _).mono ?_;rintro e w' ⟨rfl,nd2,rfl⟩;go_wp2_with fail
   go_region
   go_wp2_with fail
   exact word_ret _ _ _ w.heap.size 2 (a0.extract i n) (i:Int) ((n:Int)) (0) (0) rfl rfl rfl zq122 zq122 zq122 zq122 zq122 (HP.out _ zq123)
 ·rw [if_pos rfl] at h;replace h:=Option.bind_eq_some_iff.mp h;obtain ⟨e,he,h⟩:=h;have CN:=sd (fun W=>words_nameEnd.calls k a0 (i:Int) e W he);clear he;unfold words_word.g at h;split at h
  case isFalse=>cases h
  rename_i hb
  obtain ⟨q0,q1⟩:=hb;obtain ⟨n,rfl⟩:=Int.eq_ofNat_of_zero_le (show 0≤e by omega);simp only [Int.toNat_natCast,Option.some.injEq,Prod.mk.injEq] at h
  obtain ⟨rfl,rfl,rfl,rfl,rfl,rfl⟩:=h;have hsz:(a0.extract i n).size=n - i:=by rw [ByteArray.size_extract];omega
  by_cases hm:(12:Int) < (n:Int) - (i:Int)
  ·rw [if_pos hm,if_pos hm] at HP;have hm2:12 < n - i:=by omega
   clear hm;go_enter Tryd.func66,Tryd.ntmps66
   go_wp2_with fail
   refine (CL.out _).mono ?_;rintro e w' ⟨rfl,nd0,rfl⟩;go_wp2_with fail
   refine (CN.out _).mono ?_;rintro e w' ⟨rfl,nd1,rfl⟩;go_wp2_with fail
   go_region
   go_wp2_with fail
   exact word_ret _ _ _ w.heap.size 1 (a0.extract i n) (i:Int) ((n:Int)) ((i:Int)) (9) rfl rfl rfl zq122 zq122 zq122 zq122 zq122 (HP.out _ zq123)
  rw [if_neg hm,if_neg hm] at HP;have hm2:¬ 12 < n - i:=by omega
  clear hm;go_enter Tryd.func66,Tryd.ntmps66
  go_wp2_with fail
  refine (CL.out _).mono ?_;rintro e w' ⟨rfl,nd0,rfl⟩;go_wp2_with fail
  refine (CN.out _).mono ?_;rintro e w' ⟨rfl,nd1,rfl⟩;go_wp2_with fail
  go_region
  go_wp2_with fail
  exact word_ret _ _ _ w.heap.size 1 (a0.extract i n) (i:Int) ((n:Int)) (0) (0) rfl rfl rfl zq122 zq122 zq122 zq122 zq122 (HP.out _ zq123)
mutual
def words_Cut.l0:Nat→ByteArray→List (S93)→Int→Option ((List (S93))×Int×Int)
 | 0,_,_,_=>none
 | k+1,x0,x2,x3=>if x3 < (x0.size:Int) then (if 0≤x3 then (words_Cut.j1 k x0 x2 x3 ((bt x0 x3) != 35)) else (none)) else (words_Cut.j1 k x0 x2 x3 false)
def words_Cut.j1:Nat→ByteArray→List (S93)→Int→Bool→Option ((List (S93))×Int×Int)
 | 0,_,_,_,_=>none
 | k+1,x0,x2,x3,x20=>if x20=true then (if 0≤x3 then (if x3 < (x0.size:Int) then (if (bt x0 x3)=32 then (words_Cut.l0 k x0 x2 (wrap64 (x3+1))) else ((words_word.f k x0 x3).bind fun bt185=>(if bt185.2.2.2.2.2=0 then (if x2.length < 4398046511104 then (words_Cut.l0 k x0 (x2++[(⟨bt185.1,bt185.2.1,bt185.2.2.1⟩:S93)]) bt185.2.2.2.1) else (none)) else (some (([]:List (S93)),bt185.2.2.2.2.1,bt185.2.2.2.2.2))))) else (none)) else (none)) else (some (x2,(x0.size:Int),0))
end
def words_Cut.f (k:Nat) (a0:ByteArray):Option ((List (S93))×Int×Int):=if (a0.size:Int) > 400 then (some (([]:List (S93)),0,9)) else (words_Cut.l0 k a0 ([]:List (S93)) 0)
theorem formed_calls (s:ByteArray) (hs:s.size≤140737488351232) (w:World) :
  Calls Tryd.prog 101 #[.string s] w fun e w'=>e=.returned (.bool (formedL s.data.toList))∧Drawn0 w w':=by
 obtain ⟨k,hk⟩:=(formed_ev s hs).rounds;exact num_formed.calls k s _ w hk
end Go.Proofs.YtmlcdpfcafmmcaaDoor.A
