-- By pack.py, a program of this session's.
import Derived.Test.YtmlcdpfcafmmcaaDoorX30
set_option linter.unusedVariables false
set_option linter.unusedSimpArgs false
namespace Go.Proofs.YtmlcdpfcafmmcaaDoor.A
open Go.RowKit B WW WL WM
theorem zq36 {P:Prop} (h:P:=by repeat (first | (with_reducible first | exact HB.out | apply below_alloc | apply pw_below_drewN | apply below_drew1 | refine below_set ?_ GE308.out) | exact HB.out)):P:=h
theorem zq37 {P:Prop} (h:P:=by (with_reducible repeat (first | refine blk_drewN ?_ _ | refine blk_drew ?_ | refine blk_alloc ?_ _));refine blk_far ?_ NB308_319.out _;(with_reducible repeat (first | refine blk_drewN ?_ _ | refine blk_drew ?_ | refine blk_alloc ?_ _));refine blk_far ?_ NB308_319.out _;(with_reducible repeat (first | refine blk_drewN ?_ _ | refine blk_drew ?_ | refine blk_alloc ?_ _));refine blk_far ?_ NB308_319.out _;(with_reducible repeat (first | refine blk_drewN ?_ _ | refine blk_drew ?_ | refine blk_alloc ?_ _));refine blk_far ?_ NB308_319.out _;(with_reducible repeat (first | refine blk_drewN ?_ _ | refine blk_drew ?_ | refine blk_alloc ?_ _));exact BK308.out):P:=h
theorem zq38 {P:Prop} (h:P:=by (with_reducible repeat (first | refine blk_drewN ?_ _ | refine blk_drew ?_ | refine blk_alloc ?_ _));refine blk_put (cs:=#[.int .i64 ((rd_T44 l0_5 x12_1).f0),.int .i64 ((rd_T44 l0_5 x12_1).f1),.string ((rd_T44 l0_5 x12_1).f2),.string (⟨#[]⟩:ByteArray)]) ?_ 3 _ rfl;(with_reducible repeat (first | refine blk_drewN ?_ _ | refine blk_drew ?_ | refine blk_alloc ?_ _));refine blk_put (cs:=#[.int .i64 ((rd_T44 l0_5 x12_1).f0),.int .i64 ((rd_T44 l0_5 x12_1).f1),.string (⟨#[]⟩:ByteArray),.string (⟨#[]⟩:ByteArray)]) ?_ 2 _ rfl;(with_reducible repeat (first | refine blk_drewN ?_ _ | refine blk_drew ?_ | refine blk_alloc ?_ _));refine blk_put (cs:=#[.int .i64 ((rd_T44 l0_5 x12_1).f0),.int .i64 0,.string (⟨#[]⟩:ByteArray),.string (⟨#[]⟩:ByteArray)]) ?_ 1 _ rfl;(with_reducible repeat (first | refine blk_drewN ?_ _ | refine blk_drew ?_ | refine blk_alloc ?_ _));refine blk_put (cs:=#[.int .i64 0,.int .i64 0,.string (⟨#[]⟩:ByteArray),.string (⟨#[]⟩:ByteArray)]) ?_ 0 _ rfl;(with_reducible repeat (first | refine blk_drewN ?_ _ | refine blk_drew ?_ | refine blk_alloc ?_ _));exact BK319.out):P:=h
theorem zq111 {P:Prop} (h:P:=by repeat (first | (with_reducible first | exact HB.out | apply below_alloc | apply pw_below_drewN | apply below_drew1 | refine below_set ?_ GE328.out) | exact HB.out)):P:=h
theorem zq112 {P:Prop} (h:P:=by repeat (first | (with_reducible first | exact HB.out | exact Below.refl _ _ | apply below_alloc | apply pw_below_drewN | apply below_drew1 | refine below_set ?_ GE328.out) | exact HB.out)):P:=h
theorem digit_piece_fin:∀ d:Fin 10,((⟨#[48,49,50,51,52,53,54,55,56,57]⟩:ByteArray).extract d.val (d.val+1)).data.toList=[UInt8.ofNat (48+d.val)]:=by decide +kernel
theorem digit_piece (d:Nat) (h:d < 10):((⟨#[48,49,50,51,52,53,54,55,56,57]⟩:ByteArray).extract d (d+1)).data.toList=[UInt8.ofNat (48+d)]:=digit_piece_fin ⟨d,h⟩
theorem tdiv_natAbs (m:Int):(Int.tdiv m 10).natAbs=m.natAbs / 10:=by rw [Int.natAbs_tdiv];rfl
theorem tdiv_i64 {m:Int} (h:I64 m):I64 (Int.tdiv m 10):=by
  have:=tdiv_natAbs m;unfold I64 at *;omega
def tail01 (n:Int) (l:List UInt8):List UInt8:=if n < 0 then 45 :: l else l
theorem digs_zero:∀ d,digs d 0=List.replicate d 48
  | 0=>rfl
  | d+1=>by rw [digs,Nat.zero_div,digs_zero d,List.replicate_succ'];rfl
def padL (d:Nat) (l:List UInt8):List UInt8:=List.replicate (d+1 - l.length) 48++l
theorem pad_dec:∀ d u,padL d (Lib.decDigits u)=Lib.decDigits (u / 10 ^ d)++digs d u
  | 0,u=>by
    have:=dec_len_pos u;unfold padL;rw [show 0+1 - (Lib.decDigits u).length=0 by omega,Nat.pow_zero,Nat.div_one];simp [digs]
  | d+1,u=>by
    by_cases h:u < 10
    · have h0:u / 10 ^ (d+1)=0:=Nat.div_eq_of_lt (Nat.lt_of_lt_of_le h (by rw [Nat.pow_succ];have:=Nat.pow_pos (n:=d) (show 0 < 10 by decide);omega))
      rw [h0,decDigits_small h,decDigits_small (show 0 < 10 by decide),digs,Nat.mod_eq_of_lt h,Nat.div_eq_of_lt h,digs_zero];unfold padL;rw [List.length_singleton,show d+1+1 - 1=d+1 by omega,List.replicate_succ];rfl
    · have ih:=pad_dec d (u / 10)
      rw [decDigits_big h,digs,show u / 10 ^ (d+1)=u / 10 / 10 ^ d by rw [Nat.pow_succ,Nat.mul_comm,Nat.div_div_eq_div_mul],← List.append_assoc,← ih];unfold padL;rw [List.length_append,List.length_singleton,show d+1+1 - ((Lib.decDigits (u / 10)).length+1)=d+1 - (Lib.decDigits (u / 10)).length by omega,List.append_assoc]
end Go.Proofs.YtmlcdpfcafmmcaaDoor.A
namespace Go.Proofs.YtmlcdpfcafmmcaaDoor.A
open Go.RowKit B WW WL WM
theorem inS_i64 {n:Int} (h:inS n 1000000000000000=true):I64 n:=by
  unfold inS at h;rw [decide_eq_true_iff] at h;unfold I64;omega
end Go.Proofs.YtmlcdpfcafmmcaaDoor.A
namespace Go.Proofs.YtmlcdpfcafmmcaaDoor.A
open Go.RowKit B WW WL WM
attribute [local go_sem] max2_int min2_int max_two min_two max_three min_three max_four min_four
set_option maxHeartbeats 8000000
set_option maxRecDepth 100000
def rf07_large.f (a0:Int):Option (Bool):=if a0 > 1000000000000000 then (some true) else (some (decide (a0 < (-1000000000000000))))
theorem rf07_large.calls (a0:Int) (r:Bool) (w:World) (h:rf07_large.f a0=some r) :
  Calls Tryd.prog 63 #[.int .i64 a0] w fun e w'=>e=.returned (.bool r)∧Drawn0 w w':=by
 have H:=h;clear h;unfold rf07_large.f at H;replace H:=ifI H;rcases H with ⟨c2,H⟩ | ⟨c2,H⟩
 ·have c2b0:decide (1000000000000000 < a0)=true:=decide_eq_true c2;clear c2;obtain rfl:=Option.some.inj H;go_enter Tryd.func63,Tryd.ntmps63
  go_wp2
  go_ret
  exact ⟨zq1,zq2⟩
 have c2b0:decide (1000000000000000 < a0)=false:=decide_eq_false c2;clear c2;obtain rfl:=Option.some.inj H;go_enter Tryd.func63,Tryd.ntmps63
 go_wp2
 go_ret
 exact ⟨zq1,zq2⟩
end Go.Proofs.YtmlcdpfcafmmcaaDoor.A
namespace Go.Proofs.YtmlcdpfcafmmcaaDoor.A
open Go.RowKit B WW WL WM
theorem ref07_large (a:Int):rf07_large.f a=some (farB a):=by
  unfold rf07_large.f farB;by_cases h:1000000000000000 < a <;> simp [h]
end Go.Proofs.YtmlcdpfcafmmcaaDoor.A
