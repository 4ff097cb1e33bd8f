-- By pack.py, a program of this session's.
import Derived.Test.YtmlcdpfcafmmcaaDoorX31
set_option linter.unusedVariables false
set_option linter.unusedSimpArgs false
namespace Go.Proofs.YtmlcdpfcafmmcaaDoor.A
open Go.RowKit B WW WL WM
attribute [local go_sem] max2_int min2_int max_two min_two max_three min_three max_four min_four
set_option maxHeartbeats 8000000
set_option maxRecDepth 100000
mutual
def rf06_text.l0:Nat→ByteArray→Int→List Int→Int→Option (ByteArray×Int×Int×Int)
 | 0,_,_,_,_=>none
 | k+1,x0,x1,x8,x9=>if x9 < (x0.size:Int) then (if 0≤x9 then (if (bt x0 x9)=34 then (if (x8.length:Int) > 60 then (some ((⟨#[]⟩:ByteArray),0,x1,9)) else (some (strOfNums x8,wrap64 (x9+1),0,0))) else (if (bt x0 x9) < 32 then (rf06_text.j1 k x0 x1 x8 x9 (bt x0 x9) true) else (rf06_text.j1 k x0 x1 x8 x9 (bt x0 x9) (decide ((bt x0 x9) > 126))))) else (none)) else (some ((⟨#[]⟩:ByteArray),0,x1,6))
def rf06_text.j1:Nat→ByteArray→Int→List Int→Int→Int→Bool→Option (ByteArray×Int×Int×Int)
 | 0,_,_,_,_,_,_=>none
 | k+1,x0,x1,x8,x9,x10,x37=>if x37=true then (some ((⟨#[]⟩:ByteArray),0,x9,5)) else (if x10=92 then (if (wrap64 (x9+1)) ≥ (x0.size:Int) then (some ((⟨#[]⟩:ByteArray),0,x9,5)) else (if 0≤(wrap64 (x9+1)) then (if (wrap64 (x9+1)) < (x0.size:Int) then (if (bt x0 (wrap64 (x9+1)))=34 then (if x8.length < 140737488355328 then (rf06_text.l0 k x0 x1 (x8++[bt x0 (wrap64 (x9+1))]) (wrap64 ((wrap64 (x9+1))+1))) else (none)) else (if (bt x0 (wrap64 (x9+1)))=92 then (if x8.length < 140737488355328 then (rf06_text.l0 k x0 x1 (x8++[bt x0 (wrap64 (x9+1))]) (wrap64 ((wrap64 (x9+1))+1))) else (none)) else (some ((⟨#[]⟩:ByteArray),0,x9,5)))) else (none)) else (none))) else (if x8.length < 140737488355328 then (rf06_text.l0 k x0 x1 (x8++[x10]) (wrap64 (x9+1))) else (none)))
end
def rf06_text.f (k:Nat) (a0:ByteArray) (a1:Int):Option (ByteArray×Int×Int×Int):=rf06_text.l0 k a0 a1 ([]:List Int) (wrap64 (a1+1))
def rf06_in.l0:Nat→List ByteArray→ByteArray→Int→Option (Bool)
 | 0,_,_,_=>none
 | k+1,x0,x1,x5=>if x5 < (x0.length:Int) then (if 0≤x5 then (if (rdOf ByteArray.empty x0 x5).toList=x1.toList then (some true) else (rf06_in.l0 k x0 x1 (wrap64 (x5+1)))) else (none)) else (some false)
def rf06_in.f (k:Nat) (l0:List ByteArray) (a1:ByteArray):Option (Bool):=rf06_in.l0 k l0 a1 0
theorem rf06_in.calls (k:Nat) (A0:Option Addr) (c0:Nat) (l0:List ByteArray) (a1:ByteArray) (r:Bool) (w:World) (hr0:Kd.C Kd.string w A0 l0.length l0) (hc0:l0.length≤c0) (h:rf06_in.f k l0 a1=some r) :
  Calls Tryd.prog 108 #[.slice A0 l0.length c0,.string a1] w fun e w'=>e=.returned (.bool r)∧Drawn0 w w':=by
 have HR0:=sd hr0;have HC0:=sd hc0;clear hr0 hc0;have H:=h;clear h;unfold rf06_in.f at H;have H':=sd H;clear H;go_enter Tryd.func108,Tryd.ntmps108
 go_wp2
 go_loopg [5] k (fun kq v5 w'=>∃ (x5_1:Int),v5=.int .i64 x5_1∧Aside0 (rf06_in.l0 kq l0 a1 x5_1=some r)∧Aside0 (kq≤k)∧Drawn0 w w')
 case atStart=>exact ⟨(0),zq1,H',⟨Nat.le_refl _⟩,zq2⟩
 case round =>
  clear H';try clear c1
  try clear p2
  obtain ⟨x5_1,rfl,HA,HK1,⟨m1,rfl⟩⟩:=hrel
  cases gk with
  | zero=>exact absurd HA.out (by simp [rf06_in.l0])
  | succ k1 =>
   have H:=HA.out;clear HA;simp only [rf06_in.l0] at H
   replace H:=ifI H;rcases H with ⟨c3,H⟩ | ⟨c3,H⟩
   ·have c3b0:decide (x5_1 < (l0.length:Int))=true:=decide_eq_true c3;clear c3;replace H:=ifI H;rcases H with ⟨c4,H⟩ | ⟨c4,H⟩
    ·have c4b0:decide (0≤x5_1)=true:=decide_eq_true c4;clear c4;replace H:=ifI H;rcases H with ⟨c5,H⟩ | ⟨c5,H⟩
     ·obtain ⟨c5b0,c5b1⟩:=eqI c5;clear c5;obtain rfl:=Option.some.inj H;have p359:0≤(x5_1:Int):=od;have q359:x5_1 < (l0.length:Int):=od;obtain ⟨ad359,e359,hx359_0⟩:=Kd.at_string HR0.out x5_1 p359 q359
      cases e359
      replace p359:=eq_true p359;replace q359:=eq_true q359;go_wp2
      go_ret
      exact ⟨zq1,zq2⟩
     obtain ⟨c5b0,c5b1⟩:=neI c5;have H':=sd H;clear H;have p359:0≤(x5_1:Int):=od;have q359:x5_1 < (l0.length:Int):=od;obtain ⟨ad359,e359,hx359_0⟩:=Kd.at_string HR0.out x5_1 p359 q359
     cases e359
     replace p359:=eq_true p359;replace q359:=eq_true q359;go_wp2
     go_roundg k1
     case measure=>have:=HK1.out;omega
     case rel=>exact ⟨(wrap64 (x5_1+1)),zq1,H',⟨by have:=HK1.out;omega⟩,zq2⟩
    exact absurd H (by simp)
   have c3b0:decide (x5_1 < (l0.length:Int))=false:=decide_eq_false c3;clear c3;obtain rfl:=Option.some.inj H;go_wp2
   go_ret
   exact ⟨zq1,zq2⟩
def rf06_sign.j0:Nat→ByteArray→Int→Bool→Option (Int)
 | 0,_,_,_=>none
 | k+1,x0,x1,x18=>if x18=true then (some 2) else (if 0≤x1 then (if x1≤(wrap64 (x1+1)) then (if (wrap64 (x1+1))≤(x0.size:Int) then ((rf06_in.f k (([(⟨#[40]⟩:ByteArray),(⟨#[41]⟩:ByteArray),(⟨#[123]⟩:ByteArray),(⟨#[125]⟩:ByteArray),(⟨#[91]⟩:ByteArray),(⟨#[93]⟩:ByteArray),(⟨#[44]⟩:ByteArray),(⟨#[59]⟩:ByteArray),(⟨#[58]⟩:ByteArray),(⟨#[61]⟩:ByteArray),(⟨#[43]⟩:ByteArray),(⟨#[45]⟩:ByteArray),(⟨#[42]⟩:ByteArray),(⟨#[47]⟩:ByteArray),(⟨#[60]⟩:ByteArray),(⟨#[62]⟩:ByteArray),(⟨#[124]⟩:ByteArray),(⟨#[38]⟩:ByteArray),(⟨#[33]⟩:ByteArray),(⟨#[64]⟩:ByteArray),(⟨#[37]⟩:ByteArray)]:List ByteArray)) (x0.extract (x1:Int).toNat ((wrap64 (x1+1)):Int).toNat)).bind fun t367=>(if t367=true then (some 1) else (some 0))) else (none)) else (none)) else (none))
def rf06_sign.f (k:Nat) (a0:ByteArray) (a1:Int):Option (Int):=if (wrap64 (a1+1)) < (a0.size:Int) then (if 0≤a1 then (if a1≤(wrap64 (a1+2)) then (if (wrap64 (a1+2))≤(a0.size:Int) then ((rf06_in.f k (([(⟨#[60,61]⟩:ByteArray),(⟨#[62,61]⟩:ByteArray),(⟨#[33,61]⟩:ByteArray),(⟨#[46,46]⟩:ByteArray)]:List ByteArray)) (a0.extract (a1:Int).toNat ((wrap64 (a1+2)):Int).toNat)).bind fun t363=>(rf06_sign.j0 k a0 a1 t363)) else (none)) else (none)) else (none)) else (rf06_sign.j0 k a0 a1 false)
theorem rf06_sign.calls (k:Nat) (a0:ByteArray) (a1 r:Int) (w:World) (h:rf06_sign.f k a0 a1=some r) :
  Calls Tryd.prog 95 #[.string a0,.int .i64 a1] w fun e w'=>e=.returned (.int .i64 r)∧Below w.heap.size w w':=by
 have HB:=sd (Below.refl w.heap.size w);have H:=h;clear h;unfold rf06_sign.f at H;have HC3:=sd H;clear H;go_enter Tryd.func95,Tryd.ntmps95
 go_upto_region 1 with (fail)
 go_cut [18] (fun v18 wc=>∃ (kq:Nat) (x18_2:Bool),v18=.bool x18_2∧Aside0 (rf06_sign.j0 kq a0 a1 x18_2=some r)∧Aside0 (kq≤k)∧Aside0 (Below w.heap.size w wc))
 case first =>
  have H:=HC3.out;clear HC3;replace H:=ifI H;rcases H with ⟨c4,H⟩ | ⟨c4,H⟩
  ·have c4b0:decide ((wrap64 (a1+1)) < (a0.size:Int))=true:=decide_eq_true c4;clear c4;(first | rw [c4b0] | (simp only [i64_w,i32_w];rw [c4b0]) | skip)
   obtain ⟨y360,hy360⟩:∃ y_:List ByteArray,y_=(([(⟨#[60,61]⟩:ByteArray),(⟨#[62,61]⟩:ByteArray),(⟨#[33,61]⟩:ByteArray),(⟨#[46,46]⟩:ByteArray)]:List ByteArray)):=⟨_,rfl⟩
   replace H:(if 0≤a1 then (if a1≤(wrap64 (a1+2)) then (if (wrap64 (a1+2))≤(a0.size:Int) then ((rf06_in.f k y360 (a0.extract (a1:Int).toNat ((wrap64 (a1+2)):Int).toNat)).bind fun t363=>(rf06_sign.j0 k a0 a1 t363)) else (none)) else (none)) else (none))=some r:=by first | (rw [hy360];with_reducible exact H) | (have H2_:=(Option.bind_some _ _).symm.trans H;rw [hy360];with_reducible exact H2_) | (have H2_:=(Option.bind_some _ _).symm.trans H;with_reducible exact H2_) | with_reducible exact H | (rw [hy360];exact H) | exact H
   have Ny360:=sd hy360;clear hy360;replace H:=ifI H;rcases H with ⟨c5,H⟩ | ⟨c5,H⟩
   ·have c5b0:=eq_true c5;have c5b1:decide (0≤a1)=true:=decide_eq_true c5;clear c5;replace H:=ifI H;rcases H with ⟨c6,H⟩ | ⟨c6,H⟩
    ·have c6b0:=eq_true c6;have c6b1:decide (a1≤(wrap64 (a1+2)))=true:=decide_eq_true c6;replace H:=ifI H;rcases H with ⟨c7,H⟩ | ⟨c7,H⟩
     ·have c7b0:=eq_true c7;have c7b1:decide ((wrap64 (a1+2))≤(a0.size:Int))=true:=decide_eq_true c7;replace H:=bdI H;obtain ⟨t363,A8,H⟩:=H;(try dsimp only at H)
      have H':=sd H;clear H;go_wp2_with (first | ((with_reducible refine gate_dst (N:=11) rfl ?_);(try (refine gate_guard (by rfl) ?_;dsimp only));refine Kd.R_lit Kd.string _ 9 ?hg (N:=11) ?hd (xs:=([(⟨#[60,61]⟩:ByteArray),(⟨#[62,61]⟩:ByteArray),(⟨#[33,61]⟩:ByteArray),(⟨#[46,46]⟩:ByteArray)]:List ByteArray)) (inner:=[.string (⟨#[60,61]⟩:ByteArray),.string (⟨#[62,61]⟩:ByteArray),.string (⟨#[33,61]⟩:ByteArray),.string (⟨#[46,46]⟩:ByteArray)]) (ok:=fun _=>True) (okp:=fun _=>True) ?hr ?hp (fun _ hk=>hk) trivial (Below.refl _ _) (Nat.le_refl _) (by simp) ?_;(case hd=>rfl);(case hg=>rfl);(case hr=>first | (go_simp;done) | (go_simp;rfl));(case hp=>exact (Reps.one (show Kd.M Kd.string _ _ _ (⟨#[60,61]⟩:ByteArray) [.string (⟨#[60,61]⟩:ByteArray)] from rfl) (Reps.one (show Kd.M Kd.string _ _ _ (⟨#[62,61]⟩:ByteArray) [.string (⟨#[62,61]⟩:ByteArray)] from rfl) (Reps.one (show Kd.M Kd.string _ _ _ (⟨#[33,61]⟩:ByteArray) [.string (⟨#[33,61]⟩:ByteArray)] from rfl) (Reps.one (show Kd.M Kd.string _ _ _ (⟨#[46,46]⟩:ByteArray) [.string (⟨#[46,46]⟩:ByteArray)] from rfl) (Reps.none _ _))))));intro v361 w9 ho10 hb hg_ hnew_;clear hg_ hnew_;(first | rw [← Ny360.out] at ho10 | (simp only [Int.reduceToNat] at ho10;rw [← Ny360.out] at ho10));have HO362:=sd (Kd.R_lower ho10 (below_size zq7));replace HB:=hbm HB hb;clear hb ho10;obtain ⟨Ao11,co11,eo11⟩:=Kd.R_slice HO362.out;subst eo11) | (go_at_call 108;(with_reducible refine (rf06_in.calls k _ _ y360 (a0.extract (a1:Int).toNat ((wrap64 (a1+2)):Int).toNat) t363 _ ?side1 ?side2 A8.out).mono ?_);(case side1=>exact (by repeat (first | exact (Kd.R_reads' HO362.out).2.2 | (with_reducible refine Kd.C_alloc ?_ _) | (with_reducible refine Kd.C_drewN ?_ _) | (with_reducible refine Kd.C_drew ?_))));(case side2=>exact (Kd.R_reads' HO362.out).2.1);rintro e w' ⟨rfl,⟨nd,rfl⟩⟩))
      go_meet
      case rel=>exact ⟨_,(t363),zq1,H',⟨by first | omega | exact Nat.le_refl _⟩,⟨zq7⟩⟩
     exact absurd H (by simp)
    exact absurd H (by simp)
   exact absurd H (by simp)
  have c4b0:decide ((wrap64 (a1+1)) < (a0.size:Int))=false:=decide_eq_false c4;clear c4;(first | rw [c4b0] | (simp only [i64_w,i32_w];rw [c4b0]) | skip)
  have H':=sd H;clear H;go_wp2
  go_meet
  case rel=>exact ⟨_,(false),zq1,H',⟨by first | omega | exact Nat.le_refl _⟩,⟨zq7⟩⟩
 case rest =>
  clear HC3;try clear p2
  try clear c4
  try clear c4b0
  try clear c5
  try clear c5b0
  try clear c5b1
  try clear c6
  try clear c6b0
  try clear c6b1
  try clear p6
  try clear c7
  try clear c7b0
  try clear c7b1
  try clear c9
  obtain ⟨kq,x18_2,rfl,HA,HJ2,HB⟩:=hcut
  cases kq with
  | zero=>exact absurd HA.out (by simp [rf06_sign.j0])
  | succ kj2 =>
   have H:=HA.out;clear HA;simp only [rf06_sign.j0] at H
   by_cases c12:x18_2=true
   ·subst c12;rw [if_pos rfl] at H;obtain rfl:=Option.some.inj H;go_wp2
    go_ret
    exact ⟨zq10,zq7⟩
   replace c12:=Bool.eq_false_iff.mpr c12;subst c12;rw [if_neg Bool.false_ne_true] at H;obtain ⟨y364,hy364⟩:∃ y_:List ByteArray,y_=(([(⟨#[40]⟩:ByteArray),(⟨#[41]⟩:ByteArray),(⟨#[123]⟩:ByteArray),(⟨#[125]⟩:ByteArray),(⟨#[91]⟩:ByteArray),(⟨#[93]⟩:ByteArray),(⟨#[44]⟩:ByteArray),(⟨#[59]⟩:ByteArray),(⟨#[58]⟩:ByteArray),(⟨#[61]⟩:ByteArray),(⟨#[43]⟩:ByteArray),(⟨#[45]⟩:ByteArray),(⟨#[42]⟩:ByteArray),(⟨#[47]⟩:ByteArray),(⟨#[60]⟩:ByteArray),(⟨#[62]⟩:ByteArray),(⟨#[124]⟩:ByteArray),(⟨#[38]⟩:ByteArray),(⟨#[33]⟩:ByteArray),(⟨#[64]⟩:ByteArray),(⟨#[37]⟩:ByteArray)]:List ByteArray)):=⟨_,rfl⟩
   replace H:(if 0≤a1 then (if a1≤(wrap64 (a1+1)) then (if (wrap64 (a1+1))≤(a0.size:Int) then ((rf06_in.f kj2 y364 (a0.extract (a1:Int).toNat ((wrap64 (a1+1)):Int).toNat)).bind fun t367=>(if t367=true then (some 1) else (some 0))) else (none)) else (none)) else (none))=some r:=by first | (rw [hy364];with_reducible exact H) | (have H2_:=(Option.bind_some _ _).symm.trans H;rw [hy364];with_reducible exact H2_) | (have H2_:=(Option.bind_some _ _).symm.trans H;with_reducible exact H2_) | with_reducible exact H | (rw [hy364];exact H) | exact H
   have Ny364:=sd hy364;clear hy364;replace H:=ifI H;rcases H with ⟨c13,H⟩ | ⟨c13,H⟩
   ·have c13b0:=eq_true c13;have c13b1:decide (0≤a1)=true:=decide_eq_true c13;clear c13;replace H:=ifI H;rcases H with ⟨c14,H⟩ | ⟨c14,H⟩
    ·have c14b0:=eq_true c14;have c14b1:decide (a1≤(wrap64 (a1+1)))=true:=decide_eq_true c14;replace H:=ifI H;rcases H with ⟨c15,H⟩ | ⟨c15,H⟩
     ·have c15b0:=eq_true c15;have c15b1:decide ((wrap64 (a1+1))≤(a0.size:Int))=true:=decide_eq_true c15;replace H:=bdI H;obtain ⟨t367,A16,H⟩:=H;(try dsimp only at H)
      by_cases c17:t367=true
      ·subst c17;rw [if_pos rfl] at H;obtain rfl:=Option.some.inj H;go_wp2_with (first | ((with_reducible refine gate_dst (N:=19) rfl ?_);(try (refine gate_guard (by rfl) ?_;dsimp only));refine Kd.R_lit Kd.string _ 9 ?hg (N:=19) ?hd (xs:=([(⟨#[40]⟩:ByteArray),(⟨#[41]⟩:ByteArray),(⟨#[123]⟩:ByteArray),(⟨#[125]⟩:ByteArray),(⟨#[91]⟩:ByteArray),(⟨#[93]⟩:ByteArray),(⟨#[44]⟩:ByteArray),(⟨#[59]⟩:ByteArray),(⟨#[58]⟩:ByteArray),(⟨#[61]⟩:ByteArray),(⟨#[43]⟩:ByteArray),(⟨#[45]⟩:ByteArray),(⟨#[42]⟩:ByteArray),(⟨#[47]⟩:ByteArray),(⟨#[60]⟩:ByteArray),(⟨#[62]⟩:ByteArray),(⟨#[124]⟩:ByteArray),(⟨#[38]⟩:ByteArray),(⟨#[33]⟩:ByteArray),(⟨#[64]⟩:ByteArray),(⟨#[37]⟩:ByteArray)]:List ByteArray)) (inner:=[.string (⟨#[40]⟩:ByteArray),.string (⟨#[41]⟩:ByteArray),.string (⟨#[123]⟩:ByteArray),.string (⟨#[125]⟩:ByteArray),.string (⟨#[91]⟩:ByteArray),.string (⟨#[93]⟩:ByteArray),.string (⟨#[44]⟩:ByteArray),.string (⟨#[59]⟩:ByteArray),.string (⟨#[58]⟩:ByteArray),.string (⟨#[61]⟩:ByteArray),.string (⟨#[43]⟩:ByteArray),.string (⟨#[45]⟩:ByteArray),.string (⟨#[42]⟩:ByteArray),.string (⟨#[47]⟩:ByteArray),.string (⟨#[60]⟩:ByteArray),.string (⟨#[62]⟩:ByteArray),.string (⟨#[124]⟩:ByteArray),.string (⟨#[38]⟩:ByteArray),.string (⟨#[33]⟩:ByteArray),.string (⟨#[64]⟩:ByteArray),.string (⟨#[37]⟩:ByteArray)]) (ok:=fun _=>True) (okp:=fun _=>True) ?hr ?hp (fun _ hk=>hk) trivial (Below.refl _ _) (Nat.le_refl _) (by simp) ?_;(case hd=>rfl);(case hg=>rfl);(case hr=>first | (go_simp;done) | (go_simp;rfl));(case hp=>exact (Reps.one (show Kd.M Kd.string _ _ _ (⟨#[40]⟩:ByteArray) [.string (⟨#[40]⟩:ByteArray)] from rfl) (Reps.one (show Kd.M Kd.string _ _ _ (⟨#[41]⟩:ByteArray) [.string (⟨#[41]⟩:ByteArray)] from rfl) (Reps.one (show Kd.M Kd.string _ _ _ (⟨#[123]⟩:ByteArray) [.string (⟨#[123]⟩:ByteArray)] from rfl) (Reps.one (show Kd.M Kd.string _ _ _ (⟨#[125]⟩:ByteArray) [.string (⟨#[125]⟩:ByteArray)] from rfl) (Reps.one (show Kd.M Kd.string _ _ _ (⟨#[91]⟩:ByteArray) [.string (⟨#[91]⟩:ByteArray)] from rfl) (Reps.one (show Kd.M Kd.string _ _ _ (⟨#[93]⟩:ByteArray) [.string (⟨#[93]⟩:ByteArray)] from rfl) (Reps.one (show Kd.M Kd.string _ _ _ (⟨#[44]⟩:ByteArray) [.string (⟨#[44]⟩:ByteArray)] from rfl) (Reps.one (show Kd.M Kd.string _ _ _ (⟨#[59]⟩:ByteArray) [.string (⟨#[59]⟩:ByteArray)] from rfl) (Reps.one (show Kd.M Kd.string _ _ _ (⟨#[58]⟩:ByteArray) [.string (⟨#[58]⟩:ByteArray)] from rfl) (Reps.one (show Kd.M Kd.string _ _ _ (⟨#[61]⟩:ByteArray) [.string (⟨#[61]⟩:ByteArray)] from rfl) (Reps.one (show Kd.M Kd.string _ _ _ (⟨#[43]⟩:ByteArray) [.string (⟨#[43]⟩:ByteArray)] from rfl) (Reps.one (show Kd.M Kd.string _ _ _ (⟨#[45]⟩:ByteArray) [.string (⟨#[45]⟩:ByteArray)] from rfl) (Reps.one (show Kd.M Kd.string _ _ _ (⟨#[42]⟩:ByteArray) [.string (⟨#[42]⟩:ByteArray)] from rfl) (Reps.one (show Kd.M Kd.string _ _ _ (⟨#[47]⟩:ByteArray) [.string (⟨#[47]⟩:ByteArray)] from rfl) (Reps.one (show Kd.M Kd.string _ _ _ (⟨#[60]⟩:ByteArray) [.string (⟨#[60]⟩:ByteArray)] from rfl) (Reps.one (show Kd.M Kd.string _ _ _ (⟨#[62]⟩:ByteArray) [.string (⟨#[62]⟩:ByteArray)] from rfl) (Reps.one (show Kd.M Kd.string _ _ _ (⟨#[124]⟩:ByteArray) [.string (⟨#[124]⟩:ByteArray)] from rfl) (Reps.one (show Kd.M Kd.string _ _ _ (⟨#[38]⟩:ByteArray) [.string (⟨#[38]⟩:ByteArray)] from rfl) (Reps.one (show Kd.M Kd.string _ _ _ (⟨#[33]⟩:ByteArray) [.string (⟨#[33]⟩:ByteArray)] from rfl) (Reps.one (show Kd.M Kd.string _ _ _ (⟨#[64]⟩:ByteArray) [.string (⟨#[64]⟩:ByteArray)] from rfl) (Reps.one (show Kd.M Kd.string _ _ _ (⟨#[37]⟩:ByteArray) [.string (⟨#[37]⟩:ByteArray)] from rfl) (Reps.none _ _)))))))))))))))))))))));intro v365 w18 ho19 hb hg_ hnew_;clear hg_ hnew_;(first | rw [← Ny364.out] at ho19 | (simp only [Int.reduceToNat] at ho19;rw [← Ny364.out] at ho19));have HO366:=sd (Kd.R_lower ho19 (below_size zq7));replace HB:=hbm HB hb;clear hb ho19;obtain ⟨Ao20,co20,eo20⟩:=Kd.R_slice HO366.out;subst eo20) | ((with_reducible refine gate_callee (f:=108) rfl ?_);refine gL 25 Tryd.func108 #[.slice Ao20 y364.length co20,.string (a0.extract (a1:Int).toNat ((wrap64 (a1+1)):Int).toNat)] ?_;(with_reducible refine (rf06_in.calls kj2 _ _ y364 (a0.extract (a1:Int).toNat ((wrap64 (a1+1)):Int).toNat) true _ ?side1 ?side2 A16.out).mono ?_);(case side1=>exact (by repeat (first | exact (Kd.R_reads' HO366.out).2.2 | (with_reducible refine Kd.C_alloc ?_ _) | (with_reducible refine Kd.C_drewN ?_ _) | (with_reducible refine Kd.C_drew ?_))));(case side2=>exact (Kd.R_reads' HO366.out).2.1);rintro e w' ⟨rfl,⟨nd,rfl⟩⟩;refine ⟨_,rfl,?_⟩))
       go_ret
       exact ⟨zq10,zq7⟩
      replace c17:=Bool.eq_false_iff.mpr c17;subst c17;rw [if_neg Bool.false_ne_true] at H;obtain rfl:=Option.some.inj H;go_wp2_with (first | ((with_reducible refine gate_dst (N:=19) rfl ?_);(try (refine gate_guard (by rfl) ?_;dsimp only));refine Kd.R_lit Kd.string _ 9 ?hg (N:=19) ?hd (xs:=([(⟨#[40]⟩:ByteArray),(⟨#[41]⟩:ByteArray),(⟨#[123]⟩:ByteArray),(⟨#[125]⟩:ByteArray),(⟨#[91]⟩:ByteArray),(⟨#[93]⟩:ByteArray),(⟨#[44]⟩:ByteArray),(⟨#[59]⟩:ByteArray),(⟨#[58]⟩:ByteArray),(⟨#[61]⟩:ByteArray),(⟨#[43]⟩:ByteArray),(⟨#[45]⟩:ByteArray),(⟨#[42]⟩:ByteArray),(⟨#[47]⟩:ByteArray),(⟨#[60]⟩:ByteArray),(⟨#[62]⟩:ByteArray),(⟨#[124]⟩:ByteArray),(⟨#[38]⟩:ByteArray),(⟨#[33]⟩:ByteArray),(⟨#[64]⟩:ByteArray),(⟨#[37]⟩:ByteArray)]:List ByteArray)) (inner:=[.string (⟨#[40]⟩:ByteArray),.string (⟨#[41]⟩:ByteArray),.string (⟨#[123]⟩:ByteArray),.string (⟨#[125]⟩:ByteArray),.string (⟨#[91]⟩:ByteArray),.string (⟨#[93]⟩:ByteArray),.string (⟨#[44]⟩:ByteArray),.string (⟨#[59]⟩:ByteArray),.string (⟨#[58]⟩:ByteArray),.string (⟨#[61]⟩:ByteArray),.string (⟨#[43]⟩:ByteArray),.string (⟨#[45]⟩:ByteArray),.string (⟨#[42]⟩:ByteArray),.string (⟨#[47]⟩:ByteArray),.string (⟨#[60]⟩:ByteArray),.string (⟨#[62]⟩:ByteArray),.string (⟨#[124]⟩:ByteArray),.string (⟨#[38]⟩:ByteArray),.string (⟨#[33]⟩:ByteArray),.string (⟨#[64]⟩:ByteArray),.string (⟨#[37]⟩:ByteArray)]) (ok:=fun _=>True) (okp:=fun _=>True) ?hr ?hp (fun _ hk=>hk) trivial (Below.refl _ _) (Nat.le_refl _) (by simp) ?_;(case hd=>rfl);(case hg=>rfl);(case hr=>first | (go_simp;done) | (go_simp;rfl));(case hp=>exact (Reps.one (show Kd.M Kd.string _ _ _ (⟨#[40]⟩:ByteArray) [.string (⟨#[40]⟩:ByteArray)] from rfl) (Reps.one (show Kd.M Kd.string _ _ _ (⟨#[41]⟩:ByteArray) [.string (⟨#[41]⟩:ByteArray)] from rfl) (Reps.one (show Kd.M Kd.string _ _ _ (⟨#[123]⟩:ByteArray) [.string (⟨#[123]⟩:ByteArray)] from rfl) (Reps.one (show Kd.M Kd.string _ _ _ (⟨#[125]⟩:ByteArray) [.string (⟨#[125]⟩:ByteArray)] from rfl) (Reps.one (show Kd.M Kd.string _ _ _ (⟨#[91]⟩:ByteArray) [.string (⟨#[91]⟩:ByteArray)] from rfl) (Reps.one (show Kd.M Kd.string _ _ _ (⟨#[93]⟩:ByteArray) [.string (⟨#[93]⟩:ByteArray)] from rfl) (Reps.one (show Kd.M Kd.string _ _ _ (⟨#[44]⟩:ByteArray) [.string (⟨#[44]⟩:ByteArray)] from rfl) (Reps.one (show Kd.M Kd.string _ _ _ (⟨#[59]⟩:ByteArray) [.string (⟨#[59]⟩:ByteArray)] from rfl) (Reps.one (show Kd.M Kd.string _ _ _ (⟨#[58]⟩:ByteArray) [.string (⟨#[58]⟩:ByteArray)] from rfl) (Reps.one (show Kd.M Kd.string _ _ _ (⟨#[61]⟩:ByteArray) [.string (⟨#[61]⟩:ByteArray)] from rfl) (Reps.one (show Kd.M Kd.string _ _ _ (⟨#[43]⟩:ByteArray) [.string (⟨#[43]⟩:ByteArray)] from rfl) (Reps.one (show Kd.M Kd.string _ _ _ (⟨#[45]⟩:ByteArray) [.string (⟨#[45]⟩:ByteArray)] from rfl) (Reps.one (show Kd.M Kd.string _ _ _ (⟨#[42]⟩:ByteArray) [.string (⟨#[42]⟩:ByteArray)] from rfl) (Reps.one (show Kd.M Kd.string _ _ _ (⟨#[47]⟩:ByteArray) [.string (⟨#[47]⟩:ByteArray)] from rfl) (Reps.one (show Kd.M Kd.string _ _ _ (⟨#[60]⟩:ByteArray) [.string (⟨#[60]⟩:ByteArray)] from rfl) (Reps.one (show Kd.M Kd.string _ _ _ (⟨#[62]⟩:ByteArray) [.string (⟨#[62]⟩:ByteArray)] from rfl) (Reps.one (show Kd.M Kd.string _ _ _ (⟨#[124]⟩:ByteArray) [.string (⟨#[124]⟩:ByteArray)] from rfl) (Reps.one (show Kd.M Kd.string _ _ _ (⟨#[38]⟩:ByteArray) [.string (⟨#[38]⟩:ByteArray)] from rfl) (Reps.one (show Kd.M Kd.string _ _ _ (⟨#[33]⟩:ByteArray) [.string (⟨#[33]⟩:ByteArray)] from rfl) (Reps.one (show Kd.M Kd.string _ _ _ (⟨#[64]⟩:ByteArray) [.string (⟨#[64]⟩:ByteArray)] from rfl) (Reps.one (show Kd.M Kd.string _ _ _ (⟨#[37]⟩:ByteArray) [.string (⟨#[37]⟩:ByteArray)] from rfl) (Reps.none _ _)))))))))))))))))))))));intro v365 w21 ho22 hb hg_ hnew_;clear hg_ hnew_;(first | rw [← Ny364.out] at ho22 | (simp only [Int.reduceToNat] at ho22;rw [← Ny364.out] at ho22));have HO366:=sd (Kd.R_lower ho22 (below_size zq7));replace HB:=hbm HB hb;clear hb ho22;obtain ⟨Ao23,co23,eo23⟩:=Kd.R_slice HO366.out;subst eo23) | ((with_reducible refine gate_callee (f:=108) rfl ?_);refine gL 25 Tryd.func108 #[.slice Ao23 y364.length co23,.string (a0.extract (a1:Int).toNat ((wrap64 (a1+1)):Int).toNat)] ?_;(with_reducible refine (rf06_in.calls kj2 _ _ y364 (a0.extract (a1:Int).toNat ((wrap64 (a1+1)):Int).toNat) false _ ?side1 ?side2 A16.out).mono ?_);(case side1=>exact (by repeat (first | exact (Kd.R_reads' HO366.out).2.2 | (with_reducible refine Kd.C_alloc ?_ _) | (with_reducible refine Kd.C_drewN ?_ _) | (with_reducible refine Kd.C_drew ?_))));(case side2=>exact (Kd.R_reads' HO366.out).2.1);rintro e w' ⟨rfl,⟨nd,rfl⟩⟩;refine ⟨_,rfl,?_⟩))
      go_ret
      exact ⟨zq10,zq7⟩
     exact absurd H (by simp)
    exact absurd H (by simp)
   exact absurd H (by simp)
def rf04_first.l0:Nat→Int→Int→Int→Option (Int)
 | 0,_,_,_=>none
 | k+1,x0,x3,x4=>if x4 < x0 then ((rf04_Length.f k (wrap64 (1900+(wrap64 (Int.tdiv x4 12)))) (wrap64 ((Int.tmod x4 12)+1))).bind fun t407=>(rf04_first.l0 k x0 (wrap64 (x3+t407)) (wrap64 (x4+1)))) else (some x3)
def rf04_first.f (k:Nat) (a0:Int):Option (Int):=rf04_first.l0 k a0 0 0
theorem rf04_first.calls (k:Nat) (a0 r:Int) (w:World) (h:rf04_first.f k a0=some r) :
  Calls Tryd.prog 115 #[.int .i64 a0] w fun e w'=>e=.returned (.int .i64 r)∧Below w.heap.size w w':=by
 have HB:=sd (Below.refl w.heap.size w);have H:=h;clear h;unfold rf04_first.f at H;have H':=sd H;clear H;go_enter Tryd.func115,Tryd.ntmps115
 go_wp2
 go_loopg [3,4] k (fun kq v3 v4 w'=>∃ (x3_1:Int) (x4_1:Int),v3=.int .i64 x3_1∧v4=.int .i64 x4_1∧Aside0 (rf04_first.l0 kq a0 x3_1 x4_1=some r)∧Aside0 (kq≤k)∧Aside0 (Below w.heap.size w w'))
 case atStart=>exact ⟨(0),(0),zq1,zq1,H',⟨Nat.le_refl _⟩,⟨zq7⟩⟩
 case round =>
  clear H';try clear c1
  obtain ⟨x3_1,x4_1,rfl,rfl,HA,HK1,HB⟩:=hrel
  cases gk with
  | zero=>exact absurd HA.out (by simp [rf04_first.l0])
  | succ k1 =>
   have H:=HA.out;clear HA;simp only [rf04_first.l0] at H
   replace H:=ifI H;rcases H with ⟨c2,H⟩ | ⟨c2,H⟩
   ·have c2b0:decide (x4_1 < a0)=true:=decide_eq_true c2;clear c2;replace H:=bdI H;obtain ⟨t407,A3,H⟩:=H;(try dsimp only at H)
    have H':=sd H;clear H;go_wp2_with (first | ((with_reducible refine gate_callee (f:=81) rfl ?_);refine gL 17 Tryd.func81 #[.int .i64 (wrap64 (1900+(wrap64 (Int.tdiv x4_1 12)))),.int .i64 (wrap64 ((Int.tmod x4_1 12)+1))] ?_;(with_reducible refine (rf04_Length.calls k1 (wrap64 (1900+(wrap64 (Int.tdiv x4_1 12)))) (wrap64 ((Int.tmod x4_1 12)+1)) t407 _ A3.out).mono ?_);rintro e w4 ⟨rfl,hb⟩;refine ⟨_,rfl,?_⟩;replace HB:=hbm HB hb;clear hb))
    go_roundg k1
    case measure=>have:=HK1.out;omega
    case rel=>exact ⟨(wrap64 (x3_1+t407)),(wrap64 (x4_1+1)),zq1,zq1,H',⟨by have:=HK1.out;omega⟩,⟨zq7⟩⟩
   have c2b0:decide (x4_1 < a0)=false:=decide_eq_false c2;clear c2;obtain rfl:=Option.some.inj H;go_wp2
   go_ret
   exact ⟨zq10,zq7⟩
def rf04_Of.f (k:Nat) (a0_0:Int) (a0_1:Int) (a0_2:Int):Option (Int×Int):=if a0_0 < 1900 then (some (0,11)) else (if a0_0 > 2199 then (some (0,11)) else (if a0_2 < 1 then (some (0,11)) else ((rf04_Length.f k a0_0 a0_1).bind fun t409=>(if a0_2 > t409 then (some (0,11)) else ((rf04_first.f k (wrap64 ((wrap64 ((wrap64 ((wrap64 (a0_0 - 1900)) * 12))+a0_1)) - 1))).bind fun t410=>(some (wrap64 ((wrap64 (t410+a0_2)) - 1),0)))))))
def rf04_Of.T1:Bool×List (List Nat×List Nat):=(true,[([],[]),([0],[0]),([1],[1]),([2],[2]),([3],[3]),([4,3],[3,4]),([5,3],[3,5]),([3,6],[3,6]),([7,3],[7]),([8],[8]),([9,8],[8,9]),([10,8],[8,10]),([8,11],[8,11]),([12,8],[12]),([13],[13]),([14,13],[13,14]),([13],[13]),([16,13],[13,16]),([13],[13]),([18,13],[13,18]),([17,19,13,13],[13,17,19]),([15,20,13],[13,15,20]),([13,21],[13,21])])
def rf04_Of.B1:List Nat:=[0,1,3,7,15,31,63,127,255,511,1023,2047,4095,8191,16383,32767,16383,81919,16383,278527,999423,2097151,4194303]
theorem rf04_Of.tab1:rtab .any (opsOf Tryd.f111 1)=rf04_Of.T1:=by kernel_rfl
theorem rf04_Of.bits1:waitsOk rf04_Of.T1.2 rf04_Of.B1=true:=by kernel_rfl
def rf04_Of.T3:Bool×List (List Nat×List Nat):=(true,[([],[]),([0],[0]),([1],[1]),([2],[2]),([],[]),([4],[4]),([3,5],[3,5]),([6],[6]),([7],[7]),([],[]),([9],[9]),([8,10],[8,10]),([11],[11]),([12,8,0,1,2,3,4,5,6,7,8,9,10,11,12],[12]),([13,0,1,2,3,4,5,6,7,8,9,10,11,12,13],[])])
def rf04_Of.B3:List Nat:=[0,1,3,7,0,16,63,127,255,0,512,2047,4095,8191,16383]
theorem rf04_Of.tab3:rtab .any (opsOf Tryd.f111 3)=rf04_Of.T3:=by kernel_rfl
theorem rf04_Of.bits3:waitsOk rf04_Of.T3.2 rf04_Of.B3=true:=by kernel_rfl
end Go.Proofs.YtmlcdpfcafmmcaaDoor.A
namespace Go.Proofs.YtmlcdpfcafmmcaaDoor.A
open Go.RowKit B WW WL WM
theorem zq44 {P:Prop} (h:P:=by (with_reducible repeat (first | apply Kd.R_alloc | apply Kd.R_drewN | apply Kd.R_drew));exact HO_8.out):P:=h
theorem zq45 {P:Prop} (h:P:=by have:=HK1.out;have:=HJ10.out;omega):P:=h
theorem zq58 {P:Prop} (h:P:=by repeat (first | (with_reducible first | exact HB.out | apply below_alloc | apply pw_below_drewN | apply below_drew1 | refine below_set ?_ GE408.out) | exact HB.out)):P:=h
end Go.Proofs.YtmlcdpfcafmmcaaDoor.A
namespace Go.Proofs.YtmlcdpfcafmmcaaDoor.A
open Go.RowKit B WW WL WM
attribute [local go_sem] max2_int min2_int max_two min_two max_three min_three max_four min_four
set_option maxHeartbeats 8000000
set_option maxRecDepth 100000
theorem rf06_text.calls (k:Nat) (a0:ByteArray) (a1:Int) (r1:ByteArray) (r2 r3 r4:Int) (w:World) (h:rf06_text.f k a0 a1=some (r1,r2,r3,r4)) :
  Calls Tryd.prog 91 #[.string a0,.int .i64 a1] w fun e w'=>e=.returned (.tuple #[.string r1,.int .i64 r2,.int .i64 r3,.int .i64 r4])∧Below w.heap.size w w':=by
 have HB:=sd (Below.refl w.heap.size w);have H:=h;clear h;unfold rf06_text.f at H;have H':=sd H;clear H;go_enter Tryd.func91,Tryd.ntmps91
 go_wp2
 go_loopg [8,9] k (fun kq v8 v9 w'=>∃ (x8_1:List Int) (x9_1:Int),v9=.int .i64 x9_1∧Aside0 (rf06_text.l0 kq a0 a1 x8_1 x9_1=some (r1,r2,r3,r4))∧Aside0 (kq≤k)∧Aside0 (Kd.R (Kd.int .u8) 5 w' w.heap.size (fun _=>True) v8 x8_1)∧Aside0 (Below w.heap.size w w'))
 case atStart=>exact ⟨(([]:List Int)),(wrap64 (a1+1)),zq1,H',⟨Nat.le_refl _⟩,⟨zq39⟩,⟨zq7⟩⟩
 case round =>
  clear H';try clear p2
  obtain ⟨x8_1,x9_1,rfl,HA,HK1,HO_8,HB⟩:=hrel
  cases gk with
  | zero=>exact absurd HA.out (by simp [rf06_text.l0])
  | succ k1 =>
   have H:=HA.out;clear HA;simp only [rf06_text.l0] at H
   replace H:=ifI H;rcases H with ⟨c3,H⟩ | ⟨c3,H⟩
   ·have c3b0:decide (x9_1 < (a0.size:Int))=true:=decide_eq_true c3;clear c3;replace H:=ifI H;rcases H with ⟨c4,H⟩ | ⟨c4,H⟩
    ·have c4b0:decide (0≤x9_1)=true:=decide_eq_true c4;clear c4;replace H:=ifI H;rcases H with ⟨c6,H⟩ | ⟨c6,H⟩
     ·obtain ⟨c6b0,c6b1⟩:=eqI c6;clear c6;replace H:=ifI H;rcases H with ⟨c7,H⟩ | ⟨c7,H⟩
      ·have c7b0:decide (60 < (x8_1.length:Int))=true:=decide_eq_true c7;have c7b1:decide (60 < x8_1.length)=true:=decide_eq_true (by omega);clear c7;simp only [Option.some.injEq,Prod.mk.injEq] at H
       obtain ⟨rfl,rfl,rfl,rfl⟩:=H;have p5:0≤(x9_1:Int):=od;have q5:x9_1 < (a0.size:Int):=od;have hx5:=bt_at a0 x9_1;replace p5:=eq_true p5;replace q5:=eq_true q5;obtain ⟨Ao8,co8,eo8⟩:=Kd.R_slice HO_8.out;subst eo8;go_wp2
       refine bodyPost_ret (results_list (rs:=[.tmp 4,.tmp 5,.tmp 6,.tmp 7]) rfl (by simp) (.tmp (.tmp (.tmp (.tmp .nil))))) rfl ?_;exact ⟨zq10,zq7⟩
      have c7b0:decide (60 < (x8_1.length:Int))=false:=decide_eq_false c7;have c7b1:decide (60 < x8_1.length)=false:=decide_eq_false (by omega);clear c7;simp only [Option.some.injEq,Prod.mk.injEq] at H
      obtain ⟨rfl,rfl,rfl,rfl⟩:=H;have p5:0≤(x9_1:Int):=od;have q5:x9_1 < (a0.size:Int):=od;have hx5:=bt_at a0 x9_1;replace p5:=eq_true p5;replace q5:=eq_true q5;obtain ⟨Ao9,co9,eo9⟩:=Kd.R_slice HO_8.out;subst eo9;have hcv10:=own_string (P:=Tryd.prog) Tryd.underlying86 Tryd.underlying5 Tryd.underlying9 (Kd.own_of_R HO_8.out);go_wp2
      refine bodyPost_ret (results_list (rs:=[.tmp 4,.tmp 5,.tmp 6,.tmp 7]) rfl (by simp) (.tmp (.tmp (.tmp (.tmp .nil))))) rfl ?_;exact ⟨zq10,zq7⟩
     obtain ⟨c6b0,c6b1⟩:=neI c6;have HC11:=sd H;clear H;have p5:0≤(x9_1:Int):=od;have q5:x9_1 < (a0.size:Int):=od;have hx5:=bt_at a0 x9_1;replace p5:=eq_true p5;replace q5:=eq_true q5;go_upto_region 10 with (fail)
     go_cut [37] (fun v37 wc=>∃ (kq:Nat) (x37_10:Bool),v37=.bool x37_10∧Aside0 (rf06_text.j1 kq a0 a1 x8_1 x9_1 (bt a0 x9_1) x37_10=some (r1,r2,r3,r4))∧Aside0 (kq≤k1)∧Aside0 (Kd.R (Kd.int .u8) 5 wc w.heap.size (fun _=>True) u8 x8_1)∧Aside0 (Below w.heap.size w wc))
     case first =>
      have H:=HC11.out;clear HC11;replace H:=ifI H;rcases H with ⟨c12,H⟩ | ⟨c12,H⟩
      ·have c12b0:decide ((bt a0 x9_1) < 32)=true:=decide_eq_true c12;clear c12;(first | rw [c12b0] | (simp only [i64_w,i32_w];rw [c12b0]) | skip)
       have H':=sd H;clear H;go_wp2
       go_meet
       case rel=>exact ⟨_,(true),zq1,H',⟨zq43⟩,⟨zq44⟩,⟨zq7⟩⟩
      have c12b0:decide ((bt a0 x9_1) < 32)=false:=decide_eq_false c12;clear c12;(first | rw [c12b0] | (simp only [i64_w,i32_w];rw [c12b0]) | skip)
      have H':=sd H;clear H;go_wp2
      go_meet
      case rel=>exact ⟨_,(decide ((bt a0 x9_1) > 126)),zq1,H',⟨zq43⟩,⟨zq44⟩,⟨zq7⟩⟩
     case rest =>
      clear HC11;try clear c1
      try clear hcv1
      try clear p2
      try clear c3
      try clear c3b0
      try clear c4
      try clear c4b0
      try clear p5
      try clear q5
      try clear hx5
      try clear c6
      try clear c6b0
      try clear c6b1
      try clear p6
      try clear c7
      try clear c7b0
      try clear c7b1
      try clear c9
      try clear hcv10
      try clear c12
      try clear c12b0
      try clear p2
      try clear p5
      try clear q5
      obtain ⟨kq,x37_10,rfl,HA,HJ10,HO_8,HB⟩:=hcut
      cases kq with
      | zero=>exact absurd HA.out (by simp [rf06_text.j1])
      | succ kj10 =>
       have H:=HA.out;clear HA;simp only [rf06_text.j1] at H
       by_cases c13:x37_10=true
       ·subst c13;rw [if_pos rfl] at H;simp only [Option.some.injEq,Prod.mk.injEq] at H
        obtain ⟨rfl,rfl,rfl,rfl⟩:=H;go_wp2
        refine bodyPost_ret (results_list (rs:=[.tmp 4,.tmp 5,.tmp 6,.tmp 7]) rfl (by simp) (.tmp (.tmp (.tmp (.tmp .nil))))) rfl ?_;exact ⟨zq10,zq7⟩
       replace c13:=Bool.eq_false_iff.mpr c13;subst c13;rw [if_neg Bool.false_ne_true] at H;replace H:=ifI H;rcases H with ⟨c14,H⟩ | ⟨c14,H⟩
       ·obtain ⟨c14b0,c14b1⟩:=eqI c14;clear c14;replace H:=ifI H;rcases H with ⟨c15,H⟩ | ⟨c15,H⟩
        ·have c15b0:decide ((a0.size:Int)≤(wrap64 (x9_1+1)))=true:=decide_eq_true c15;clear c15;simp only [Option.some.injEq,Prod.mk.injEq] at H
         obtain ⟨rfl,rfl,rfl,rfl⟩:=H;go_wp2
         refine bodyPost_ret (results_list (rs:=[.tmp 4,.tmp 5,.tmp 6,.tmp 7]) rfl (by simp) (.tmp (.tmp (.tmp (.tmp .nil))))) rfl ?_;exact ⟨zq10,zq7⟩
        have c15b0:decide ((a0.size:Int)≤(wrap64 (x9_1+1)))=false:=decide_eq_false c15;clear c15;obtain ⟨ji16,hji16⟩:∃ j_:Int,(wrap64 (x9_1+1))=j_:=⟨_,rfl⟩
        replace H:(if 0≤(ji16) then (if (ji16) < (a0.size:Int) then (if (bt a0 (ji16))=34 then (if x8_1.length < 140737488355328 then (rf06_text.l0 kj10 a0 a1 (x8_1++[bt a0 (ji16)]) (wrap64 ((ji16)+1))) else (none)) else (if (bt a0 (ji16))=92 then (if x8_1.length < 140737488355328 then (rf06_text.l0 kj10 a0 a1 (x8_1++[bt a0 (ji16)]) (wrap64 ((ji16)+1))) else (none)) else (some ((⟨#[]⟩:ByteArray),0,x9_1,5)))) else (none)) else (none))=some (r1,r2,r3,r4):=by first | (rw [hji16] at H;exact H) | (simp only [hji16] at H ⊢;exact H)
        (try rw [hji16] at c15b0)
        have hji16w:(IntKind.i64.wrap (x9_1+1))=ji16:=(i64_w _).trans hji16;replace H:=ifI H;rcases H with ⟨c17,H⟩ | ⟨c17,H⟩
        ·have c17b0:decide (0≤(ji16))=true:=decide_eq_true c17;clear c17;replace H:=ifI H;rcases H with ⟨c18,H⟩ | ⟨c18,H⟩
         ·have c18b0:decide ((ji16) < (a0.size:Int))=true:=decide_eq_true c18;clear c18;replace H:=ifI H;rcases H with ⟨c20,H⟩ | ⟨c20,H⟩
          ·obtain ⟨c20b0,c20b1⟩:=eqI c20;clear c20;replace H:=ifI H;rcases H with ⟨c22,H⟩ | ⟨c22,H⟩
           ·have LMc22:=sd c22;clear c22;obtain ⟨y342,hy342⟩:∃ y_:List Int,y_=(x8_1++[bt a0 (ji16)]):=⟨_,rfl⟩
            replace H:(rf06_text.l0 kj10 a0 a1 y342 (wrap64 ((ji16)+1)))=some (r1,r2,r3,r4):=by first | (rw [hy342];with_reducible exact H) | (have H2_:=(Option.bind_some _ _).symm.trans H;rw [hy342];with_reducible exact H2_) | (have H2_:=(Option.bind_some _ _).symm.trans H;with_reducible exact H2_) | with_reducible exact H | (rw [hy342];exact H) | exact H
            have Ny342:=sd hy342;clear hy342;have H':=sd H;clear H;have p19:0≤((ji16):Int):=od;have q19:(ji16) < (a0.size:Int):=od;have hx19:=bt_at a0 (ji16);replace p19:=eq_true p19;replace q19:=eq_true q19;have p21:0≤((ji16):Int):=od;have q21:(ji16) < (a0.size:Int):=od;have hx21:=bt_at a0 (ji16);replace p21:=eq_true p21;replace q21:=eq_true q21;go_wp2_with (first | ((with_reducible refine gate_builtin (b:=.append) (xs:=#[.tmp 66,.tmp 68]) rfl ?_);at_builtin;refine Kd.R_append (Kd.int .u8) (w0:=w) w.heap.size rfl (.tmp 66) (.tmp 68) 86 5 (.int .u8 0) 1 rfl Tryd.underlying86 info5 rfl (by decide) (by omega) u8 x8_1 (bt a0 (ji16)) [.int .u8 (bt a0 (ji16))] (fun _=>True) (fun _=>False) rfl rfl ?aP (fun _ hk=>hk.elim) ?aF ?aO ?aB ?aS ?aL ?_;(case aP=>exact rfl);(case aB=>exact zq7);(case aF=>exact (fun _ _=>trivial));(case aO=>exact zq44);(case aS=>exact (below_size zq7));(case aL=>have:=LMc22.out;omega);intro v343 w23 ho hb hg hat;rw [← Ny342.out] at ho;have HO344:=sd (ho);replace HB:=sd (hb);clear HO_8;clear ho hb hg hat))
            go_roundg kj10
            case measure=>have:=HK1.out;have:=HJ10.out;omega
            case rel=>exact ⟨(y342),(wrap64 ((ji16)+1)),zq31,H',⟨zq45⟩,⟨by (with_reducible repeat (first | apply Kd.R_alloc | apply Kd.R_drewN | apply Kd.R_drew));exact HO344.out⟩,⟨zq7⟩⟩
           exact absurd H (by simp)
          obtain ⟨c20b0,c20b1⟩:=neI c20;replace H:=ifI H;rcases H with ⟨c25,H⟩ | ⟨c25,H⟩
          ·obtain ⟨c25b0,c25b1⟩:=eqI c25;clear c25;replace H:=ifI H;rcases H with ⟨c27,H⟩ | ⟨c27,H⟩
           ·have LMc27:=sd c27;clear c27;obtain ⟨y345,hy345⟩:∃ y_:List Int,y_=(x8_1++[bt a0 (ji16)]):=⟨_,rfl⟩
            replace H:(rf06_text.l0 kj10 a0 a1 y345 (wrap64 ((ji16)+1)))=some (r1,r2,r3,r4):=by first | (rw [hy345];with_reducible exact H) | (have H2_:=(Option.bind_some _ _).symm.trans H;rw [hy345];with_reducible exact H2_) | (have H2_:=(Option.bind_some _ _).symm.trans H;with_reducible exact H2_) | with_reducible exact H | (rw [hy345];exact H) | exact H
            have Ny345:=sd hy345;clear hy345;have H':=sd H;clear H;have p19:0≤((ji16):Int):=od;have q19:(ji16) < (a0.size:Int):=od;have hx19:=bt_at a0 (ji16);replace p19:=eq_true p19;replace q19:=eq_true q19;have p24:0≤((ji16):Int):=od;have q24:(ji16) < (a0.size:Int):=od;have hx24:=bt_at a0 (ji16);replace p24:=eq_true p24;replace q24:=eq_true q24;have p26:0≤((ji16):Int):=od;have q26:(ji16) < (a0.size:Int):=od;have hx26:=bt_at a0 (ji16);replace p26:=eq_true p26;replace q26:=eq_true q26;go_wp2_with (first | ((with_reducible refine gate_builtin (b:=.append) (xs:=#[.tmp 66,.tmp 68]) rfl ?_);at_builtin;refine Kd.R_append (Kd.int .u8) (w0:=w) w.heap.size rfl (.tmp 66) (.tmp 68) 86 5 (.int .u8 0) 1 rfl Tryd.underlying86 info5 rfl (by decide) (by omega) u8 x8_1 (bt a0 (ji16)) [.int .u8 (bt a0 (ji16))] (fun _=>True) (fun _=>False) rfl rfl ?aP (fun _ hk=>hk.elim) ?aF ?aO ?aB ?aS ?aL ?_;(case aP=>exact rfl);(case aB=>exact zq7);(case aF=>exact (fun _ _=>trivial));(case aO=>exact zq44);(case aS=>exact (below_size zq7));(case aL=>have:=LMc27.out;omega);intro v346 w28 ho hb hg hat;rw [← Ny345.out] at ho;have HO347:=sd (ho);replace HB:=sd (hb);clear HO_8;clear ho hb hg hat))
            go_roundg kj10
            case measure=>have:=HK1.out;have:=HJ10.out;omega
            case rel=>exact ⟨(y345),(wrap64 ((ji16)+1)),zq31,H',⟨zq45⟩,⟨by (with_reducible repeat (first | apply Kd.R_alloc | apply Kd.R_drewN | apply Kd.R_drew));exact HO347.out⟩,⟨zq7⟩⟩
           exact absurd H (by simp)
          obtain ⟨c25b0,c25b1⟩:=neI c25;simp only [Option.some.injEq,Prod.mk.injEq] at H
          obtain ⟨rfl,rfl,rfl,rfl⟩:=H;have p19:0≤((ji16):Int):=od;have q19:(ji16) < (a0.size:Int):=od;have hx19:=bt_at a0 (ji16);replace p19:=eq_true p19;replace q19:=eq_true q19;have p24:0≤((ji16):Int):=od;have q24:(ji16) < (a0.size:Int):=od;have hx24:=bt_at a0 (ji16);replace p24:=eq_true p24;replace q24:=eq_true q24;go_wp2
          refine bodyPost_ret (results_list (rs:=[.tmp 4,.tmp 5,.tmp 6,.tmp 7]) rfl (by simp) (.tmp (.tmp (.tmp (.tmp .nil))))) rfl ?_;exact ⟨by first | rfl | (simp [errW_none,errW_some] <;> rfl) | (simp only [← hji16];first | rfl | (simp [errW_none,errW_some] <;> rfl)) | (simp [*,errW_none,errW_some] <;> rfl),zq7⟩
         exact absurd H (by simp)
        exact absurd H (by simp)
       obtain ⟨c14b0,c14b1⟩:=neI c14;replace H:=ifI H;rcases H with ⟨c29,H⟩ | ⟨c29,H⟩
       ·have LMc29:=sd c29;clear c29;obtain ⟨y348,hy348⟩:∃ y_:List Int,y_=(x8_1++[(bt a0 x9_1)]):=⟨_,rfl⟩
        replace H:(rf06_text.l0 kj10 a0 a1 y348 (wrap64 (x9_1+1)))=some (r1,r2,r3,r4):=by first | (rw [hy348];with_reducible exact H) | (have H2_:=(Option.bind_some _ _).symm.trans H;rw [hy348];with_reducible exact H2_) | (have H2_:=(Option.bind_some _ _).symm.trans H;with_reducible exact H2_) | with_reducible exact H | (rw [hy348];exact H) | exact H
        have Ny348:=sd hy348;clear hy348;have H':=sd H;clear H;go_wp2_with (first | ((with_reducible refine gate_builtin (b:=.append) (xs:=#[.tmp 66,.tmp 68]) rfl ?_);at_builtin;refine Kd.R_append (Kd.int .u8) (w0:=w) w.heap.size rfl (.tmp 66) (.tmp 68) 86 5 (.int .u8 0) 1 rfl Tryd.underlying86 info5 rfl (by decide) (by omega) u8 x8_1 (bt a0 x9_1) [.int .u8 (bt a0 x9_1)] (fun _=>True) (fun _=>False) rfl rfl ?aP (fun _ hk=>hk.elim) ?aF ?aO ?aB ?aS ?aL ?_;(case aP=>exact rfl);(case aB=>exact zq7);(case aF=>exact (fun _ _=>trivial));(case aO=>exact zq44);(case aS=>exact (below_size zq7));(case aL=>have:=LMc29.out;omega);intro v349 w30 ho hb hg hat;rw [← Ny348.out] at ho;have HO350:=sd (ho);replace HB:=sd (hb);clear HO_8;clear ho hb hg hat))
        go_roundg kj10
        case measure=>have:=HK1.out;have:=HJ10.out;omega
        case rel=>exact ⟨(y348),(wrap64 (x9_1+1)),zq1,H',⟨zq45⟩,⟨by (with_reducible repeat (first | apply Kd.R_alloc | apply Kd.R_drewN | apply Kd.R_drew));exact HO350.out⟩,⟨zq7⟩⟩
       exact absurd H (by simp)
    exact absurd H (by simp)
   have c3b0:decide (x9_1 < (a0.size:Int))=false:=decide_eq_false c3;clear c3;simp only [Option.some.injEq,Prod.mk.injEq] at H
   obtain ⟨rfl,rfl,rfl,rfl⟩:=H;go_wp2
   refine bodyPost_ret (results_list (rs:=[.tmp 4,.tmp 5,.tmp 6,.tmp 7]) rfl (by simp) (.tmp (.tmp (.tmp (.tmp .nil))))) rfl ?_;exact ⟨zq10,zq7⟩
theorem rf04_Of.calls (k:Nat) (a0_0 a0_1 a0_2 r1 r2:Int) (w:World) (h:rf04_Of.f k a0_0 a0_1 a0_2=some (r1,r2)) :
  Calls Tryd.prog 111 #[.agg #[.int .i64 a0_0,.int .i64 a0_1,.int .i64 a0_2]] w fun e w'=>e=.returned (.tuple #[.int .i64 r1,.int .i64 r2])∧Below w.heap.size w w':=by
 have hu81:=Tryd.underlying81;have HB:=sd (Below.refl w.heap.size w);have H:=h;clear h;unfold rf04_Of.f at H;replace H:=ifI H;rcases H with ⟨c2,H⟩ | ⟨c2,H⟩
 ·have c2b0:decide (a0_0 < 1900)=true:=decide_eq_true c2;clear c2;simp only [Option.some.injEq,Prod.mk.injEq] at H
  obtain ⟨rfl,rfl⟩:=H;go_enter Tryd.func111,Tryd.ntmps111
  try go_wp2_with (first | ((with_reducible refine gate_dst (N:=1) rfl ?_);refine bxA 1 #[.int .i64 a0_0,.int .i64 a0_1,.int .i64 a0_2] 81 ?_;intro gb408 hg w3 hbox hb;have BK408:=sd (hbox);have GW408:=gem hg HB;have GE408:=GW408;replace HB:=hbm HB hb;clear hb hbox hg))
  replace BK408:=sd (blk_drew BK408.out);replace HB:=sd (below_drew1 HB.out);refine start_ (n:=23) (S:=fun w'=>w'.cell? ⟨gb408,0,none⟩=some (.int .i64 a0_0)∧w'.cell? ⟨gb408,1,none⟩=some (.int .i64 a0_1)∧w'.cell? ⟨gb408,2,none⟩=some (.int .i64 a0_2)) (ds:=[]) #[false,false,false,false,false,false,false,false,false,false,false,false,false,false,false,false,false,false,false,false,false,false,false] (by kernel_rfl) rfl rfl ⟨(blk_cell BK408.out 0).trans rfl,(blk_cell BK408.out 1).trans rfl,(blk_cell BK408.out 2).trans rfl⟩ (fun hHeld=>?_);refine with_tabW rf04_Of.tab1 rf04_Of.bits1 (fun HT_ HW_=>?_);generalize w3.drew=w4 at BK408 HB hHeld ⊢;refine pA 0 4 HT_.out ?_;refine tA 1 5 HT_.out HW_.out hHeld ?_;refine pA 2 6 HT_.out ?_;refine pA 3 7 HT_.out ?_;refine oA 4 8 HT_.out ?_;refine oA 5 9 HT_.out ?_;refine oA 6 10 HT_.out ?_;refine pA 7 11 HT_.out ?_;refine pA 8 12 HT_.out ?_;refine oA 9 13 HT_.out ?_;refine oA 10 14 HT_.out ?_;refine oA 11 15 HT_.out ?_;refine pA 12 16 HT_.out ?_;refine pA 13 17 HT_.out ?_;refine oA 14 18 HT_.out ?_;refine oA 15 19 HT_.out ?_;refine oA 16 20 HT_.out ?_;refine oA 17 21 HT_.out ?_;refine oA 18 22 HT_.out ?_;refine oA 19 23 HT_.out ?_;refine oA 20 24 HT_.out ?_;refine oA 21 25 HT_.out ?_;refine pA 22 26 HT_.out ?_;refine done_ (done_of HT_.out (by kernel_rfl)) ?_;try go_wp2
  go_ret2
  exact ⟨zq10,zq58⟩
 have c2b0:decide (a0_0 < 1900)=false:=decide_eq_false c2;clear c2;replace H:=ifI H;rcases H with ⟨c5,H⟩ | ⟨c5,H⟩
 ·have c5b0:decide (2199 < a0_0)=true:=decide_eq_true c5;clear c5;simp only [Option.some.injEq,Prod.mk.injEq] at H
  obtain ⟨rfl,rfl⟩:=H;go_enter Tryd.func111,Tryd.ntmps111
  try go_wp2_with (first | ((with_reducible refine gate_dst (N:=1) rfl ?_);refine bxA 1 #[.int .i64 a0_0,.int .i64 a0_1,.int .i64 a0_2] 81 ?_;intro gb408 hg w6 hbox hb;have BK408:=sd (hbox);have GW408:=gem hg HB;have GE408:=GW408;replace HB:=hbm HB hb;clear hb hbox hg))
  replace BK408:=sd (blk_drew BK408.out);replace HB:=sd (below_drew1 HB.out);refine start_ (n:=23) (S:=fun w'=>w'.cell? ⟨gb408,0,none⟩=some (.int .i64 a0_0)∧w'.cell? ⟨gb408,1,none⟩=some (.int .i64 a0_1)∧w'.cell? ⟨gb408,2,none⟩=some (.int .i64 a0_2)) (ds:=[]) #[false,false,false,false,false,false,false,false,false,false,false,false,false,false,false,false,false,false,false,false,false,false,false] (by kernel_rfl) rfl rfl ⟨(blk_cell BK408.out 0).trans rfl,(blk_cell BK408.out 1).trans rfl,(blk_cell BK408.out 2).trans rfl⟩ (fun hHeld=>?_);refine with_tabW rf04_Of.tab1 rf04_Of.bits1 (fun HT_ HW_=>?_);generalize w6.drew=w7 at BK408 HB hHeld ⊢;refine pA 0 4 HT_.out ?_;refine tA 1 5 HT_.out HW_.out hHeld ?_;refine pA 2 6 HT_.out ?_;refine pA 3 7 HT_.out ?_;refine pA 4 8 HT_.out ?_;refine tA 5 9 HT_.out HW_.out hHeld ?_;refine pA 6 10 HT_.out ?_;refine pA 7 11 HT_.out ?_;refine pA 8 12 HT_.out ?_;refine oA 9 13 HT_.out ?_;refine oA 10 14 HT_.out ?_;refine oA 11 15 HT_.out ?_;refine pA 12 16 HT_.out ?_;refine pA 13 17 HT_.out ?_;refine oA 14 18 HT_.out ?_;refine oA 15 19 HT_.out ?_;refine oA 16 20 HT_.out ?_;refine oA 17 21 HT_.out ?_;refine oA 18 22 HT_.out ?_;refine oA 19 23 HT_.out ?_;refine oA 20 24 HT_.out ?_;refine oA 21 25 HT_.out ?_;refine pA 22 26 HT_.out ?_;refine done_ (done_of HT_.out (by kernel_rfl)) ?_;try go_wp2
  go_ret2
  exact ⟨zq10,zq58⟩
 have c5b0:decide (2199 < a0_0)=false:=decide_eq_false c5;clear c5;replace H:=ifI H;rcases H with ⟨c8,H⟩ | ⟨c8,H⟩
 ·have c8b0:decide (a0_2 < 1)=true:=decide_eq_true c8;clear c8;simp only [Option.some.injEq,Prod.mk.injEq] at H
  obtain ⟨rfl,rfl⟩:=H;go_enter Tryd.func111,Tryd.ntmps111
  try go_wp2_with (first | ((with_reducible refine gate_dst (N:=1) rfl ?_);refine bxA 1 #[.int .i64 a0_0,.int .i64 a0_1,.int .i64 a0_2] 81 ?_;intro gb408 hg w9 hbox hb;have BK408:=sd (hbox);have GW408:=gem hg HB;have GE408:=GW408;replace HB:=hbm HB hb;clear hb hbox hg))
  replace BK408:=sd (blk_drew BK408.out);replace HB:=sd (below_drew1 HB.out);refine start_ (n:=23) (S:=fun w'=>w'.cell? ⟨gb408,0,none⟩=some (.int .i64 a0_0)∧w'.cell? ⟨gb408,1,none⟩=some (.int .i64 a0_1)∧w'.cell? ⟨gb408,2,none⟩=some (.int .i64 a0_2)) (ds:=[]) #[false,false,false,false,false,false,false,false,false,false,false,false,false,false,false,false,false,false,false,false,false,false,false] (by kernel_rfl) rfl rfl ⟨(blk_cell BK408.out 0).trans rfl,(blk_cell BK408.out 1).trans rfl,(blk_cell BK408.out 2).trans rfl⟩ (fun hHeld=>?_);refine with_tabW rf04_Of.tab1 rf04_Of.bits1 (fun HT_ HW_=>?_);generalize w9.drew=w10 at BK408 HB hHeld ⊢;refine pA 0 4 HT_.out ?_;refine tA 1 5 HT_.out HW_.out hHeld ?_;refine pA 2 6 HT_.out ?_;refine pA 3 7 HT_.out ?_;refine pA 4 8 HT_.out ?_;refine tA 5 9 HT_.out HW_.out hHeld ?_;refine pA 6 10 HT_.out ?_;refine pA 7 11 HT_.out ?_;refine pA 8 12 HT_.out ?_;refine pA 9 13 HT_.out ?_;refine tA 10 14 HT_.out HW_.out hHeld ?_;refine pA 11 15 HT_.out ?_;refine pA 12 16 HT_.out ?_;refine pA 13 17 HT_.out ?_;refine oA 14 18 HT_.out ?_;refine oA 15 19 HT_.out ?_;refine oA 16 20 HT_.out ?_;refine oA 17 21 HT_.out ?_;refine oA 18 22 HT_.out ?_;refine oA 19 23 HT_.out ?_;refine oA 20 24 HT_.out ?_;refine oA 21 25 HT_.out ?_;refine pA 22 26 HT_.out ?_;refine done_ (done_of HT_.out (by kernel_rfl)) ?_;try go_wp2
  go_ret2
  exact ⟨zq10,zq58⟩
 have c8b0:decide (a0_2 < 1)=false:=decide_eq_false c8;clear c8;replace H:=bdI H;obtain ⟨t409,A11,H⟩:=H;(try dsimp only at H)
 replace H:=ifI H;rcases H with ⟨c12,H⟩ | ⟨c12,H⟩
 ·have c12b0:decide (t409 < a0_2)=true:=decide_eq_true c12;clear c12;simp only [Option.some.injEq,Prod.mk.injEq] at H
  obtain ⟨rfl,rfl⟩:=H;go_enter Tryd.func111,Tryd.ntmps111
  try go_wp2_with (first | ((with_reducible refine gate_dst (N:=1) rfl ?_);refine bxA 1 #[.int .i64 a0_0,.int .i64 a0_1,.int .i64 a0_2] 81 ?_;intro gb408 hg w13 hbox hb;have BK408:=sd (hbox);have GW408:=gem hg HB;have GE408:=GW408;replace HB:=hbm HB hb;clear hb hbox hg))
  replace BK408:=sd (blk_drew BK408.out);replace HB:=sd (below_drew1 HB.out);refine start_ (n:=23) (S:=fun w'=>w'.cell? ⟨gb408,0,none⟩=some (.int .i64 a0_0)∧w'.cell? ⟨gb408,1,none⟩=some (.int .i64 a0_1)∧w'.cell? ⟨gb408,2,none⟩=some (.int .i64 a0_2)) (ds:=[]) #[false,false,false,false,false,false,false,false,false,false,false,false,false,false,false,false,false,false,false,false,false,false,false] (by kernel_rfl) rfl rfl ⟨(blk_cell BK408.out 0).trans rfl,(blk_cell BK408.out 1).trans rfl,(blk_cell BK408.out 2).trans rfl⟩ (fun hHeld=>?_);refine with_tabW rf04_Of.tab1 rf04_Of.bits1 (fun HT_ HW_=>?_);generalize w13.drew=w14 at BK408 HB hHeld ⊢;refine pA 0 4 HT_.out ?_;refine tA 1 5 HT_.out HW_.out hHeld ?_;refine pA 2 6 HT_.out ?_;refine pA 3 7 HT_.out ?_;refine pA 4 8 HT_.out ?_;refine tA 5 9 HT_.out HW_.out hHeld ?_;refine pA 6 10 HT_.out ?_;refine pA 7 11 HT_.out ?_;refine pA 8 12 HT_.out ?_;refine pA 9 13 HT_.out ?_;refine tA 10 14 HT_.out HW_.out hHeld ?_;refine pA 11 15 HT_.out ?_;refine pA 12 16 HT_.out ?_;refine pA 13 17 HT_.out ?_;refine pA 14 18 HT_.out ?_;refine pA 16 20 HT_.out ?_;refine pA 18 22 HT_.out ?_;refine tA 15 19 HT_.out HW_.out hHeld ?_;refine tA 17 21 HT_.out HW_.out hHeld ?_;refine tA 19 23 HT_.out HW_.out hHeld ?_;refine one_ (i:=20) (N:=some 24) #[true,true,true,true,true,true,true,true,true,true,true,true,true,true,true,true,true,true,true,true,true,false,false] rfl rfl (one_of HT_.out (by kernel_rfl)) (by decide) (fun K hK=>?_);refine goes_ Tryd.func81 (by kernel_rfl) rfl #[.int .i64 a0_0,.int .i64 a0_1] (by rfl) rfl rfl zq28 ?_;with_reducible refine (rf04_Length.calls k a0_0 a0_1 t409 _ A11.out).mono ?_
  rintro e w15 ⟨rfl,hb⟩;refine ⟨_,rfl,?_⟩;replace BK408:=bkm BK408 hb;replace HB:=hbm HB hb;clear hb;refine hK.out _ _ ⟨(blk_cell BK408.out 0).trans rfl,(blk_cell BK408.out 1).trans rfl,(blk_cell BK408.out 2).trans rfl⟩ (fun hHeld=>?_);clear hK K;refine nA 24 ?_;refine pA 21 25 HT_.out ?_;refine pA 22 26 HT_.out ?_;refine done_ (done_of HT_.out (by kernel_rfl)) ?_;try go_wp2
  go_ret2
  exact ⟨zq10,zq58⟩
 have c12b0:decide (t409 < a0_2)=false:=decide_eq_false c12;clear c12;replace H:=bdI H;obtain ⟨t410,A16,H⟩:=H;(try dsimp only at H)
 simp only [Option.some.injEq,Prod.mk.injEq] at H
 obtain ⟨rfl,rfl⟩:=H;go_enter Tryd.func111,Tryd.ntmps111
 try go_wp2_with (first | ((with_reducible refine gate_dst (N:=1) rfl ?_);refine bxA 1 #[.int .i64 a0_0,.int .i64 a0_1,.int .i64 a0_2] 81 ?_;intro gb408 hg w17 hbox hb;have BK408:=sd (hbox);have GW408:=gem hg HB;have GE408:=GW408;replace HB:=hbm HB hb;clear hb hbox hg))
 replace BK408:=sd (blk_drew BK408.out);replace HB:=sd (below_drew1 HB.out);refine start_ (n:=23) (S:=fun w'=>w'.cell? ⟨gb408,0,none⟩=some (.int .i64 a0_0)∧w'.cell? ⟨gb408,1,none⟩=some (.int .i64 a0_1)∧w'.cell? ⟨gb408,2,none⟩=some (.int .i64 a0_2)) (ds:=[]) #[false,false,false,false,false,false,false,false,false,false,false,false,false,false,false,false,false,false,false,false,false,false,false] (by kernel_rfl) rfl rfl ⟨(blk_cell BK408.out 0).trans rfl,(blk_cell BK408.out 1).trans rfl,(blk_cell BK408.out 2).trans rfl⟩ (fun hHeld=>?_);refine with_tabW rf04_Of.tab1 rf04_Of.bits1 (fun HT_ HW_=>?_);generalize w17.drew=w18 at BK408 HB hHeld ⊢;refine pA 0 4 HT_.out ?_;refine tA 1 5 HT_.out HW_.out hHeld ?_;refine pA 2 6 HT_.out ?_;refine pA 3 7 HT_.out ?_;refine pA 4 8 HT_.out ?_;refine tA 5 9 HT_.out HW_.out hHeld ?_;refine pA 6 10 HT_.out ?_;refine pA 7 11 HT_.out ?_;refine pA 8 12 HT_.out ?_;refine pA 9 13 HT_.out ?_;refine tA 10 14 HT_.out HW_.out hHeld ?_;refine pA 11 15 HT_.out ?_;refine pA 12 16 HT_.out ?_;refine pA 13 17 HT_.out ?_;refine pA 14 18 HT_.out ?_;refine pA 16 20 HT_.out ?_;refine pA 18 22 HT_.out ?_;refine tA 15 19 HT_.out HW_.out hHeld ?_;refine tA 17 21 HT_.out HW_.out hHeld ?_;refine tA 19 23 HT_.out HW_.out hHeld ?_;refine one_ (i:=20) (N:=some 24) #[true,true,true,true,true,true,true,true,true,true,true,true,true,true,true,true,true,true,true,true,true,false,false] rfl rfl (one_of HT_.out (by kernel_rfl)) (by decide) (fun K hK=>?_);refine goes_ Tryd.func81 (by kernel_rfl) rfl #[.int .i64 a0_0,.int .i64 a0_1] (by rfl) rfl rfl zq28 ?_;with_reducible refine (rf04_Length.calls k a0_0 a0_1 t409 _ A11.out).mono ?_
 rintro e w19 ⟨rfl,hb⟩;refine ⟨_,rfl,?_⟩;replace BK408:=bkm BK408 hb;replace HB:=hbm HB hb;clear hb;refine hK.out _ _ ⟨(blk_cell BK408.out 0).trans rfl,(blk_cell BK408.out 1).trans rfl,(blk_cell BK408.out 2).trans rfl⟩ (fun hHeld=>?_);clear hK K;refine nA 24 ?_;refine pA 21 25 HT_.out ?_;refine pA 22 26 HT_.out ?_;refine done_ (done_of HT_.out (by kernel_rfl)) ?_;try go_wp2
 replace BK408:=sd (blk_drew BK408.out);replace HB:=sd (below_drew1 HB.out);refine start_ (n:=15) (S:=fun w'=>w'.cell? ⟨gb408,0,none⟩=some (.int .i64 a0_0)∧w'.cell? ⟨gb408,1,none⟩=some (.int .i64 a0_1)∧w'.cell? ⟨gb408,2,none⟩=some (.int .i64 a0_2)) (ds:=[]) #[false,false,false,false,false,false,false,false,false,false,false,false,false,false,false] (by kernel_rfl) rfl rfl ⟨(blk_cell BK408.out 0).trans rfl,(blk_cell BK408.out 1).trans rfl,(blk_cell BK408.out 2).trans rfl⟩ (fun hHeld=>?_);refine with_tabW rf04_Of.tab3 rf04_Of.bits3 (fun HT_ HW_=>?_);generalize w19.drew=w20 at BK408 HB hHeld ⊢;refine pA 0 27 HT_.out ?_;refine pA 4 31 HT_.out ?_;refine pA 9 36 HT_.out ?_;refine tA 1 28 HT_.out HW_.out hHeld ?_;refine pA 2 29 HT_.out ?_;refine pA 3 30 HT_.out ?_;refine tA 5 32 HT_.out HW_.out hHeld ?_;refine pA 6 33 HT_.out ?_;refine pA 7 34 HT_.out ?_;refine tA 10 37 HT_.out HW_.out hHeld ?_;refine one_ (i:=8) (N:=some 35) #[true,true,true,true,true,true,true,true,true,true,true,false,false,false,false] rfl rfl (one_of HT_.out (by kernel_rfl)) (by decide) (fun K hK=>?_);refine goes_ Tryd.func115 (by kernel_rfl) rfl #[.int .i64 (wrap64 ((wrap64 ((wrap64 ((wrap64 (a0_0 - 1900)) * 12))+a0_1)) - 1))] (by rfl) rfl rfl zq28 ?_;with_reducible refine (rf04_first.calls k (wrap64 ((wrap64 ((wrap64 ((wrap64 (a0_0 - 1900)) * 12))+a0_1)) - 1)) t410 _ A16.out).mono ?_
 rintro e w21 ⟨rfl,hb⟩;refine ⟨_,rfl,?_⟩;replace BK408:=bkm BK408 hb;replace HB:=hbm HB hb;clear hb;refine hK.out _ _ ⟨(blk_cell BK408.out 0).trans rfl,(blk_cell BK408.out 1).trans rfl,(blk_cell BK408.out 2).trans rfl⟩ (fun hHeld=>?_);clear hK K;refine nA 35 ?_;refine pA 11 38 HT_.out ?_;refine pA 12 39 HT_.out ?_;refine pA 13 2 HT_.out ?_;refine pA 14 3 HT_.out ?_;refine done_ (done_of HT_.out (by kernel_rfl)) ?_;try go_wp2
 go_ret2
 exact ⟨zq10,zq58⟩
end Go.Proofs.YtmlcdpfcafmmcaaDoor.A
