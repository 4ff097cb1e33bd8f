-- By pack.py, a program of this session's.
import Derived.Test.YtmlcdpfcafmmcaaDoorX31
set_option linter.unusedVariables false
set_option linter.unusedSimpArgs false
namespace Go.Proofs.YtmlcdpfcafmmcaaDoor.A
open Go.RowKit B WW WL WM
attribute [local go_sem] max2_int min2_int max_two min_two max_three min_three max_four min_four
set_option maxHeartbeats 8000000
set_option maxRecDepth 100000
mutual
def rf01_Text.l0:Nat→Int→ByteArray→Int→Option (ByteArray)
 | 0,_,_,_=>none
 | k+1,x0,x3,x4=>if x4=0 then (rf01_Text.j1 k x0 x3 x4 (x3.toList == ([]:List UInt8))) else (rf01_Text.j1 k x0 x3 x4 true)
def rf01_Text.j1:Nat→Int→ByteArray→Int→Bool→Option (ByteArray)
 | 0,_,_,_,_=>none
 | k+1,x0,x3,x4,x12=>if x12=true then (if (Int.tmod x4 10) < 0 then (if 0≤(wrap64 (-(Int.tmod x4 10))) then (if (wrap64 (-(Int.tmod x4 10)))≤(wrap64 ((wrap64 (-(Int.tmod x4 10)))+1)) then (if (wrap64 ((wrap64 (-(Int.tmod x4 10)))+1))≤10 then (if ((⟨#[48,49,50,51,52,53,54,55,56,57]⟩:ByteArray).extract ((wrap64 (-(Int.tmod x4 10))):Int).toNat ((wrap64 ((wrap64 (-(Int.tmod x4 10)))+1)):Int).toNat).size+x3.size≤9223372036854775807 then (rf01_Text.l0 k x0 (((⟨#[48,49,50,51,52,53,54,55,56,57]⟩:ByteArray).extract ((wrap64 (-(Int.tmod x4 10))):Int).toNat ((wrap64 ((wrap64 (-(Int.tmod x4 10)))+1)):Int).toNat)++x3) (wrap64 (Int.tdiv x4 10))) else (none)) else (none)) else (none)) else (none)) else (if 0≤(Int.tmod x4 10) then (if (Int.tmod x4 10)≤(wrap64 ((Int.tmod x4 10)+1)) then (if (wrap64 ((Int.tmod x4 10)+1))≤10 then (if ((⟨#[48,49,50,51,52,53,54,55,56,57]⟩:ByteArray).extract ((Int.tmod x4 10):Int).toNat ((wrap64 ((Int.tmod x4 10)+1)):Int).toNat).size+x3.size≤9223372036854775807 then (rf01_Text.l0 k x0 (((⟨#[48,49,50,51,52,53,54,55,56,57]⟩:ByteArray).extract ((Int.tmod x4 10):Int).toNat ((wrap64 ((Int.tmod x4 10)+1)):Int).toNat)++x3) (wrap64 (Int.tdiv x4 10))) else (none)) else (none)) else (none)) else (none))) else (if x0 < 0 then (if 1+x3.size≤9223372036854775807 then (some ((⟨#[45]⟩:ByteArray)++x3)) else (none)) else (some x3))
end
def rf01_Text.f (k:Nat) (a0:Int):Option (ByteArray):=rf01_Text.l0 k a0 (⟨#[]⟩:ByteArray) a0
theorem rf01_Text.calls (k:Nat) (a0:Int) (r:ByteArray) (w:World) (h:rf01_Text.f k a0=some r) :
  Calls Tryd.prog 41 #[.int .i64 a0] w fun e w'=>e=.returned (.string r)∧Drawn0 w w':=by
 have H:=h;clear h;unfold rf01_Text.f at H;have H':=sd H;clear H;go_enter Tryd.func41,Tryd.ntmps41
 go_wp2
 go_loopg [3,4] k (fun kq v3 v4 w'=>∃ (x3_1:ByteArray) (x4_1:Int),v3=.string x3_1∧v4=.int .i64 x4_1∧Aside0 (rf01_Text.l0 kq a0 x3_1 x4_1=some r)∧Aside0 (kq≤k)∧Drawn0 w w')
 case atStart=>exact ⟨((⟨#[]⟩:ByteArray)),(a0),zq1,zq1,H',⟨Nat.le_refl _⟩,zq2⟩
 case round =>
  clear H';obtain ⟨x3_1,x4_1,rfl,rfl,HA,HK1,⟨m1,rfl⟩⟩:=hrel
  cases gk with
  | zero=>exact absurd HA.out (by simp [rf01_Text.l0])
  | succ k1 =>
   have H:=HA.out;clear HA;simp only [rf01_Text.l0] at H
   have HC2:=sd H;clear H;go_upto_region 3 with (fail)
   go_cut [12] (fun v12 wc=>∃ (kq:Nat) (x12_1:Bool),v12=.bool x12_1∧Aside0 (rf01_Text.j1 kq a0 x3_1 x4_1 x12_1=some r)∧Aside0 (kq≤k1)∧Drawn0 w wc)
   case first =>
    have H:=HC2.out;clear HC2;replace H:=ifI H;rcases H with ⟨c3,H⟩ | ⟨c3,H⟩
    ·obtain ⟨c3b0,c3b1⟩:=eqI c3;clear c3;(first | rw [c3b0] | (simp only [i64_w,i32_w];rw [c3b0]) | skip)
     have H':=sd H;clear H;go_wp2
     go_meet
     case rel=>exact ⟨_,((x3_1.toList == ([]:List UInt8))),zq1,H',⟨zq43⟩,zq2⟩
    obtain ⟨c3b0,c3b1⟩:=neI c3;(first | rw [c3b0] | (simp only [i64_w,i32_w];rw [c3b0]) | skip)
    have H':=sd H;clear H;go_wp2
    go_meet
    case rel=>exact ⟨_,(true),zq1,H',⟨zq43⟩,zq2⟩
   case rest =>
    clear HC2;try clear p2
    try clear c3
    try clear c3b0
    try clear c3b1
    obtain ⟨kq,x12_1,rfl,HA,HJ1,⟨mc1,rfl⟩⟩:=hcut
    cases kq with
    | zero=>exact absurd HA.out (by simp [rf01_Text.j1])
    | succ kj1 =>
     have H:=HA.out;clear HA;simp only [rf01_Text.j1] at H
     by_cases c4:x12_1=true
     ·subst c4;rw [if_pos rfl] at H;replace H:=ifI H;rcases H with ⟨c5,H⟩ | ⟨c5,H⟩
      ·have c5b0:decide ((Int.tmod x4_1 10) < 0)=true:=decide_eq_true c5;clear c5;obtain ⟨ji6,hji6⟩:∃ j_:Int,(wrap64 (-(Int.tmod x4_1 10)))=j_:=⟨_,rfl⟩
       replace H:(if 0≤(ji6) then (if (ji6)≤(wrap64 ((ji6)+1)) then (if (wrap64 ((ji6)+1))≤10 then (if ((⟨#[48,49,50,51,52,53,54,55,56,57]⟩:ByteArray).extract ((ji6):Int).toNat ((wrap64 ((ji6)+1)):Int).toNat).size+x3_1.size≤9223372036854775807 then (rf01_Text.l0 kj1 a0 (((⟨#[48,49,50,51,52,53,54,55,56,57]⟩:ByteArray).extract ((ji6):Int).toNat ((wrap64 ((ji6)+1)):Int).toNat)++x3_1) (wrap64 (Int.tdiv x4_1 10))) else (none)) else (none)) else (none)) else (none))=some r:=by first | (rw [hji6] at H;exact H) | (simp only [hji6] at H ⊢;exact H)
       have hji6w:(IntKind.i64.wrap (-(Int.tmod x4_1 10)))=ji6:=(i64_w _).trans hji6;replace H:=ifI H;rcases H with ⟨c7,H⟩ | ⟨c7,H⟩
       ·have c7b0:=eq_true c7;have c7b1:decide (0≤(ji6))=true:=decide_eq_true c7;clear c7;replace H:=ifI H;rcases H with ⟨c8,H⟩ | ⟨c8,H⟩
        ·have c8b0:=eq_true c8;have c8b1:decide ((ji6)≤(wrap64 ((ji6)+1)))=true:=decide_eq_true c8;replace H:=ifI H;rcases H with ⟨c9,H⟩ | ⟨c9,H⟩
         ·have c9b0:=eq_true c9;have c9b1:decide ((wrap64 ((ji6)+1))≤10)=true:=decide_eq_true c9;replace H:=ifI H;rcases H with ⟨c10,H⟩ | ⟨c10,H⟩
          ·have c10b0:=eq_true c10;have c10b1:decide (((⟨#[48,49,50,51,52,53,54,55,56,57]⟩:ByteArray).extract ((ji6):Int).toNat ((wrap64 ((ji6)+1)):Int).toNat).size+x3_1.size≤9223372036854775807)=true:=decide_eq_true c10;try have c10b2:(9223372036854775807 < ((⟨#[48,49,50,51,52,53,54,55,56,57]⟩:ByteArray).extract ((ji6):Int).toNat ((wrap64 ((ji6)+1)):Int).toNat).size+x3_1.size)=False:=eq_false (Nat.not_lt.2 c10)
           try (have c10z:=c10;simp [*] at c10z;have c10z1:=eq_false (Nat.not_lt.2 c10z))
           have H':=sd H;clear H;go_wp2
           go_roundg kj1
           case measure=>have:=HK1.out;have:=HJ1.out;omega
           case rel=>exact ⟨(((⟨#[48,49,50,51,52,53,54,55,56,57]⟩:ByteArray).extract ((ji6):Int).toNat ((wrap64 ((ji6)+1)):Int).toNat)++x3_1),(wrap64 (Int.tdiv x4_1 10)),(by first | rfl | (simp;done) | (simp only [← hji6] <;> (first | rfl | simp)) | (simp [*];done)),zq1,H',⟨by have:=HK1.out;have:=HJ1.out;omega⟩,zq2⟩
          exact absurd H (by simp)
         exact absurd H (by simp)
        exact absurd H (by simp)
       exact absurd H (by simp)
      have c5b0:decide ((Int.tmod x4_1 10) < 0)=false:=decide_eq_false c5;clear c5;obtain ⟨ji11,hji11⟩:∃ j_:Int,(Int.tmod x4_1 10)=j_:=⟨_,rfl⟩
      replace H:(if 0≤(ji11) then (if (ji11)≤(wrap64 ((ji11)+1)) then (if (wrap64 ((ji11)+1))≤10 then (if ((⟨#[48,49,50,51,52,53,54,55,56,57]⟩:ByteArray).extract ((ji11):Int).toNat ((wrap64 ((ji11)+1)):Int).toNat).size+x3_1.size≤9223372036854775807 then (rf01_Text.l0 kj1 a0 (((⟨#[48,49,50,51,52,53,54,55,56,57]⟩:ByteArray).extract ((ji11):Int).toNat ((wrap64 ((ji11)+1)):Int).toNat)++x3_1) (wrap64 (Int.tdiv x4_1 10))) else (none)) else (none)) else (none)) else (none))=some r:=by first | (rw [hji11] at H;exact H) | (simp only [hji11] at H ⊢;exact H)
      (try rw [hji11] at c5b0)
      replace H:=ifI H;rcases H with ⟨c12,H⟩ | ⟨c12,H⟩
      ·have c12b0:=eq_true c12;have c12b1:decide (0≤(ji11))=true:=decide_eq_true c12;clear c12;replace H:=ifI H;rcases H with ⟨c13,H⟩ | ⟨c13,H⟩
       ·have c13b0:=eq_true c13;have c13b1:decide ((ji11)≤(wrap64 ((ji11)+1)))=true:=decide_eq_true c13;replace H:=ifI H;rcases H with ⟨c14,H⟩ | ⟨c14,H⟩
        ·have c14b0:=eq_true c14;have c14b1:decide ((wrap64 ((ji11)+1))≤10)=true:=decide_eq_true c14;replace H:=ifI H;rcases H with ⟨c15,H⟩ | ⟨c15,H⟩
         ·have c15b0:=eq_true c15;have c15b1:decide (((⟨#[48,49,50,51,52,53,54,55,56,57]⟩:ByteArray).extract ((ji11):Int).toNat ((wrap64 ((ji11)+1)):Int).toNat).size+x3_1.size≤9223372036854775807)=true:=decide_eq_true c15;try have c15b2:(9223372036854775807 < ((⟨#[48,49,50,51,52,53,54,55,56,57]⟩:ByteArray).extract ((ji11):Int).toNat ((wrap64 ((ji11)+1)):Int).toNat).size+x3_1.size)=False:=eq_false (Nat.not_lt.2 c15)
          try (have c15z:=c15;simp [*] at c15z;have c15z1:=eq_false (Nat.not_lt.2 c15z))
          have H':=sd H;clear H;go_wp2
          go_roundg kj1
          case measure=>have:=HK1.out;have:=HJ1.out;omega
          case rel=>exact ⟨(((⟨#[48,49,50,51,52,53,54,55,56,57]⟩:ByteArray).extract ((ji11):Int).toNat ((wrap64 ((ji11)+1)):Int).toNat)++x3_1),(wrap64 (Int.tdiv x4_1 10)),(by first | rfl | (simp;done) | (simp only [← hji11] <;> (first | rfl | simp)) | (simp [*];done)),zq1,H',⟨by have:=HK1.out;have:=HJ1.out;omega⟩,zq2⟩
         exact absurd H (by simp)
        exact absurd H (by simp)
       exact absurd H (by simp)
      exact absurd H (by simp)
     replace c4:=Bool.eq_false_iff.mpr c4;subst c4;rw [if_neg Bool.false_ne_true] at H;replace H:=ifI H;rcases H with ⟨c16,H⟩ | ⟨c16,H⟩
     ·have c16b0:decide (a0 < 0)=true:=decide_eq_true c16;clear c16;replace H:=ifI H;rcases H with ⟨c17,H⟩ | ⟨c17,H⟩
      ·have c17b0:=eq_true c17;have c17b1:decide (1+x3_1.size≤9223372036854775807)=true:=decide_eq_true c17;try have c17b2:(9223372036854775807 < 1+x3_1.size)=False:=eq_false (Nat.not_lt.2 c17)
       obtain rfl:=Option.some.inj H;go_wp2
       go_ret
       exact ⟨zq1,zq2⟩
      exact absurd H (by simp)
     have c16b0:decide (a0 < 0)=false:=decide_eq_false c16;clear c16;obtain rfl:=Option.some.inj H;go_wp2
     go_ret
     exact ⟨zq1,zq2⟩
theorem rf04_Is.calls (a0:Int) (r:Bool) (w:World) (h:rf04_Is.f a0=some r) :
  Calls Tryd.prog 80 #[.int .i64 a0] w fun e w'=>e=.returned (.bool r)∧Drawn0 w w':=by
 have H:=h;clear h;unfold rf04_Is.f at H;replace H:=ifI H;rcases H with ⟨c2,H⟩ | ⟨c2,H⟩
 ·have c2b0:decide (0≤a0)=true:=decide_eq_true c2;clear c2;obtain rfl:=Option.some.inj H;go_enter Tryd.func80,Tryd.ntmps80
  go_wp2
  go_ret
  exact ⟨zq1,zq2⟩
 have c2b0:decide (0≤a0)=false:=decide_eq_false c2;clear c2;obtain rfl:=Option.some.inj H;go_enter Tryd.func80,Tryd.ntmps80
 go_wp2
 go_ret
 exact ⟨zq1,zq2⟩
def rf04_Date.l0:Nat→Int→Int→Option (Int×Int×Int×Int)
 | 0,_,_=>none
 | k+1,x4,x5=>(rf04_Length.f k (wrap64 (1900+(wrap64 (Int.tdiv x4 12)))) (wrap64 ((Int.tmod x4 12)+1))).bind fun t274=>(if x5 ≥ t274 then ((rf04_Length.f k (wrap64 (1900+(wrap64 (Int.tdiv x4 12)))) (wrap64 ((Int.tmod x4 12)+1))).bind fun t275=>(rf04_Date.l0 k (wrap64 (x4+1)) (wrap64 (x5 - t275)))) else (some (wrap64 (1900+(wrap64 (Int.tdiv x4 12))),wrap64 ((Int.tmod x4 12)+1),wrap64 (x5+1),0)))
def rf04_Date.f (k:Nat) (a0:Int):Option (Int×Int×Int×Int):=(rf04_Is.f a0).bind fun t273=>(if t273=true then (rf04_Date.l0 k 0 a0) else (some (0,0,0,11)))
def rf04_two.f (k:Nat) (a0:Int):Option (ByteArray):=(rf01_Text.f k (wrap64 (Int.tdiv a0 10))).bind fun t276=>((rf01_Text.f k (Int.tmod a0 10)).bind fun t277=>(if t276.size+t277.size≤9223372036854775807 then (some (t276++t277)) else (none)))
theorem rf04_two.calls (k:Nat) (a0:Int) (r:ByteArray) (w:World) (h:rf04_two.f k a0=some r) :
  Calls Tryd.prog 65 #[.int .i64 a0] w fun e w'=>e=.returned (.string r)∧Drawn0 w w':=by
 have H:=h;clear h;unfold rf04_two.f at H;replace H:=bdI H;obtain ⟨t276,A2,H⟩:=H;(try dsimp only at H)
 replace H:=bdI H;obtain ⟨t277,A3,H⟩:=H;(try dsimp only at H)
 replace H:=ifI H;rcases H with ⟨c4,H⟩ | ⟨c4,H⟩
 ·have c4b0:=eq_true c4;have c4b1:decide (t276.size+t277.size≤9223372036854775807)=true:=decide_eq_true c4;try have c4b2:(9223372036854775807 < t276.size+t277.size)=False:=eq_false (Nat.not_lt.2 c4)
  obtain rfl:=Option.some.inj H;go_enter Tryd.func65,Tryd.ntmps65
  go_wp2_with (first | ((with_reducible refine gate_callee (f:=41) rfl ?_);refine gL 5 Tryd.func41 #[.int .i64 (wrap64 (Int.tdiv a0 10))] ?_;(with_reducible refine (rf01_Text.calls k (wrap64 (Int.tdiv a0 10)) t276 _ A2.out).mono ?_);rintro e w' ⟨rfl,⟨nd,rfl⟩⟩;refine ⟨_,rfl,?_⟩) | ((with_reducible refine gate_callee (f:=41) rfl ?_);refine gL 8 Tryd.func41 #[.int .i64 (Int.tmod a0 10)] ?_;(with_reducible refine (rf01_Text.calls k (Int.tmod a0 10) t277 _ A3.out).mono ?_);rintro e w' ⟨rfl,⟨nd,rfl⟩⟩;refine ⟨_,rfl,?_⟩))
  go_ret
  exact ⟨zq1,zq2⟩
 exact absurd H (by simp)
def rf04_Text.f (k:Nat) (a0:Int):Option (ByteArray×Int):=(rf04_Date.f k a0).bind fun bt278=>(if bt278.2.2.2=0 then ((rf01_Text.f k bt278.1).bind fun t283=>(if t283.size+1≤9223372036854775807 then ((rf04_two.f k bt278.2.1).bind fun t284=>(if (t283++(⟨#[45]⟩:ByteArray)).size+t284.size≤9223372036854775807 then (if ((t283++(⟨#[45]⟩:ByteArray))++t284).size+1≤9223372036854775807 then ((rf04_two.f k bt278.2.2.1).bind fun t285=>(if (((t283++(⟨#[45]⟩:ByteArray))++t284)++(⟨#[45]⟩:ByteArray)).size+t285.size≤9223372036854775807 then (some ((((t283++(⟨#[45]⟩:ByteArray))++t284)++(⟨#[45]⟩:ByteArray))++t285,0)) else (none))) else (none)) else (none))) else (none))) else (some ((⟨#[]⟩:ByteArray),bt278.2.2.2)))
def rf06_Quote.l0:Nat→ByteArray→List Int→Int→Option (ByteArray×Int)
 | 0,_,_,_=>none
 | k+1,x0,x4,x5=>if x5 < (x0.size:Int) then (if 0≤x5 then (if (bt x0 x5)=34 then (if x4.length < 140737488355328 then ((some (x4++[92]:List Int)).bind fun y290=>(if y290.length < 140737488355328 then (rf06_Quote.l0 k x0 (y290++[bt x0 x5]) (wrap64 (x5+1))) else (none))) else (none)) else (if (bt x0 x5)=92 then (if x4.length < 140737488355328 then ((some (x4++[92]:List Int)).bind fun y296=>(if y296.length < 140737488355328 then (rf06_Quote.l0 k x0 (y296++[bt x0 x5]) (wrap64 (x5+1))) else (none))) else (none)) else (if x4.length < 140737488355328 then (rf06_Quote.l0 k x0 (x4++[bt x0 x5]) (wrap64 (x5+1))) else (none)))) else (none)) else (if x4.length < 140737488355328 then (some (strOfNums (x4++[34]),0)) else (none))
def rf06_Quote.f (k:Nat) (a0:ByteArray):Option (ByteArray×Int):=(rf06_Plain.f k a0).bind fun t286=>(if t286=true then (rf06_Quote.l0 k a0 (([34]:List Int)) 0) else (some ((⟨#[]⟩:ByteArray),5)))
theorem rf06_Quote.calls (k:Nat) (a0 r1:ByteArray) (r2:Int) (w:World) (h:rf06_Quote.f k a0=some (r1,r2)) :
  Calls Tryd.prog 43 #[.string a0] w fun e w'=>e=.returned (.tuple #[.string r1,.int .i64 r2])∧Below w.heap.size w w':=by
 have HB:=sd (Below.refl w.heap.size w);have H:=h;clear h;unfold rf06_Quote.f at H;replace H:=bdI H;obtain ⟨t286,A2,H⟩:=H;(try dsimp only at H)
 by_cases c3:t286=true
 ·subst c3;rw [if_pos rfl] at H;obtain ⟨y287,hy287⟩:∃ y_:List Int,y_=(([34]:List Int)):=⟨_,rfl⟩
  replace H:(rf06_Quote.l0 k a0 y287 0)=some (r1,r2):=by first | (rw [hy287];with_reducible exact H) | (have H2_:=(Option.bind_some _ _).symm.trans H;rw [hy287];with_reducible exact H2_) | (have H2_:=(Option.bind_some _ _).symm.trans H;with_reducible exact H2_) | with_reducible exact H | (rw [hy287];exact H) | exact H
  have Ny287:=sd hy287;clear hy287;have H':=sd H;clear H;go_enter Tryd.func43,Tryd.ntmps43
  go_wp2_with (first | ((with_reducible refine gate_callee (f:=58) rfl ?_);refine gL 7 Tryd.func58 #[.string a0] ?_;(with_reducible refine (rf06_Plain.calls k a0 true _ A2.out).mono ?_);rintro e w' ⟨rfl,⟨nd,rfl⟩⟩;refine ⟨_,rfl,?_⟩) | ((with_reducible refine gate_dst (N:=9) rfl ?_);refine Kd.R_lit (Kd.int .u8) _ 5 ?hg (N:=9) ?hd (xs:=([34]:List Int)) (inner:=[.int .u8 34]) (ok:=fun _=>True) (okp:=fun _=>True) ?hr ?hp (fun _ hk=>hk) trivial (Below.refl _ _) (Nat.le_refl _) (by simp) ?_;(case hd=>rfl);(case hg=>rfl);(case hr=>first | (go_simp;done) | (go_simp;rfl));(case hp=>exact (Reps.one (show Kd.M (Kd.int .u8) _ _ _ 34 [.int .u8 34] from rfl) (Reps.none _ _)));intro v288 w4 ho5 hb hg_ hnew_;clear hg_ hnew_;(first | rw [← Ny287.out] at ho5 | (simp only [Int.reduceToNat] at ho5;rw [← Ny287.out] at ho5));have HO289:=sd (Kd.R_lower ho5 (below_size zq7));replace HB:=hbm HB hb;clear hb ho5))
  go_loopg [4,5] k (fun kq v4 v5 w'=>∃ (x4_1:List Int) (x5_1:Int),v5=.int .i64 x5_1∧Aside0 (rf06_Quote.l0 kq a0 x4_1 x5_1=some (r1,r2))∧Aside0 (kq≤k)∧Aside0 (Kd.R (Kd.int .u8) 5 w' w.heap.size (fun _=>True) v4 x4_1)∧Aside0 (Below w.heap.size w w'))
  case atStart=>exact ⟨(y287),(0),zq1,H',⟨Nat.le_refl _⟩,⟨by (with_reducible repeat (first | apply Kd.R_alloc | apply Kd.R_drewN | apply Kd.R_drew));exact HO289.out⟩,⟨zq7⟩⟩
  case round =>
   clear H';try clear p2
   try clear c3
   try clear c4
   try clear c5
   obtain ⟨x4_1,x5_1,rfl,HA,HK1,HO_4,HB⟩:=hrel
   cases gk with
   | zero=>exact absurd HA.out (by simp [rf06_Quote.l0])
   | succ k1 =>
    have H:=HA.out;clear HA;simp only [rf06_Quote.l0] at H
    replace H:=ifI H;rcases H with ⟨c6,H⟩ | ⟨c6,H⟩
    ·have c6b0:decide (x5_1 < (a0.size:Int))=true:=decide_eq_true c6;clear c6;replace H:=ifI H;rcases H with ⟨c7,H⟩ | ⟨c7,H⟩
     ·have c7b0:decide (0≤x5_1)=true:=decide_eq_true c7;clear c7;replace H:=ifI H;rcases H with ⟨c9,H⟩ | ⟨c9,H⟩
      ·obtain ⟨c9b0,c9b1⟩:=eqI c9;clear c9;replace H:=ifI H;rcases H with ⟨c10,H⟩ | ⟨c10,H⟩
       ·have LMc10:=sd c10;clear c10;obtain ⟨y290,hy290⟩:∃ y_:List Int,y_=(x4_1++[92]):=⟨_,rfl⟩
        replace H:(if y290.length < 140737488355328 then (rf06_Quote.l0 k1 a0 (y290++[bt a0 x5_1]) (wrap64 (x5_1+1))) else (none))=some (r1,r2):=by first | (rw [hy290];with_reducible exact H) | (have H2_:=(Option.bind_some _ _).symm.trans H;rw [hy290];with_reducible exact H2_) | (have H2_:=(Option.bind_some _ _).symm.trans H;with_reducible exact H2_) | with_reducible exact H | (rw [hy290];exact H) | exact H
        have Ny290:=sd hy290;clear hy290;replace H:=ifI H;rcases H with ⟨c12,H⟩ | ⟨c12,H⟩
        ·have LMc12:=sd c12;clear c12;obtain ⟨y293,hy293⟩:∃ y_:List Int,y_=(y290++[bt a0 x5_1]):=⟨_,rfl⟩
         replace H:(rf06_Quote.l0 k1 a0 y293 (wrap64 (x5_1+1)))=some (r1,r2):=by first | (rw [hy293];with_reducible exact H) | (have H2_:=(Option.bind_some _ _).symm.trans H;rw [hy293];with_reducible exact H2_) | (have H2_:=(Option.bind_some _ _).symm.trans H;with_reducible exact H2_) | with_reducible exact H | (rw [hy293];exact H) | exact H
         have Ny293:=sd hy293;clear hy293;have H':=sd H;clear H;have p8:0≤(x5_1:Int):=od;have q8:x5_1 < (a0.size:Int):=od;have hx8:=bt_at a0 x5_1;replace p8:=eq_true p8;replace q8:=eq_true q8;go_wp2_with (first | ((with_reducible refine gate_builtin (b:=.append) (xs:=#[.tmp 26,.tmp 27]) rfl ?_);at_builtin;refine Kd.R_append (Kd.int .u8) (w0:=w) w.heap.size rfl (.tmp 26) (.tmp 27) 86 5 (.int .u8 0) 1 rfl Tryd.underlying86 info5 rfl (by decide) (by omega) u4 x4_1 92 [.int .u8 92] (fun _=>True) (fun _=>False) rfl rfl ?aP (fun _ hk=>hk.elim) ?aF ?aO ?aB ?aS ?aL ?_;(case aP=>exact rfl);(case aB=>exact zq7);(case aF=>exact (fun _ _=>trivial));(case aO=>exact zq34);(case aS=>exact (below_size zq7));(case aL=>have:=LMc10.out;omega);intro v291 w13 ho hb hg hat;rw [← Ny290.out] at ho;have HO292:=sd (ho);replace HB:=sd (hb);clear HO_4;clear ho hb hg hat;have p11:0≤(x5_1:Int):=od;have q11:x5_1 < (a0.size:Int):=od;have hx11:=bt_at a0 x5_1;replace p11:=eq_true p11;replace q11:=eq_true q11) | ((with_reducible refine gate_builtin (b:=.append) (xs:=#[.tmp 29,.tmp 33]) rfl ?_);at_builtin;refine Kd.R_append (Kd.int .u8) (w0:=w) w.heap.size rfl (.tmp 29) (.tmp 33) 86 5 (.int .u8 0) 1 rfl Tryd.underlying86 info5 rfl (by decide) (by omega) v291 y290 (bt a0 x5_1) [.int .u8 (bt a0 x5_1)] (fun _=>True) (fun _=>False) rfl rfl ?aP (fun _ hk=>hk.elim) ?aF ?aO ?aB ?aS ?aL ?_;(case aP=>exact rfl);(case aB=>exact zq7);(case aF=>exact (fun _ _=>trivial));(case aO=>exact (by (with_reducible repeat (first | apply Kd.R_alloc | apply Kd.R_drewN | apply Kd.R_drew));exact HO292.out));(case aS=>exact (below_size zq7));(case aL=>have:=LMc12.out;omega);intro v294 w14 ho hb hg hat;rw [← Ny293.out] at ho;have HO295:=sd (ho);replace HB:=sd (hb);clear HO292;clear ho hb hg hat))
         go_roundg k1
         case measure=>have:=HK1.out;omega
         case rel=>exact ⟨(y293),(wrap64 (x5_1+1)),zq1,H',⟨by have:=HK1.out;omega⟩,⟨by (with_reducible repeat (first | apply Kd.R_alloc | apply Kd.R_drewN | apply Kd.R_drew));exact HO295.out⟩,⟨zq7⟩⟩
        exact absurd H (by simp)
       exact absurd H (by simp)
      obtain ⟨c9b0,c9b1⟩:=neI c9;replace H:=ifI H;rcases H with ⟨c16,H⟩ | ⟨c16,H⟩
      ·obtain ⟨c16b0,c16b1⟩:=eqI c16;clear c16;replace H:=ifI H;rcases H with ⟨c17,H⟩ | ⟨c17,H⟩
       ·have LMc17:=sd c17;clear c17;obtain ⟨y296,hy296⟩:∃ y_:List Int,y_=(x4_1++[92]):=⟨_,rfl⟩
        replace H:(if y296.length < 140737488355328 then (rf06_Quote.l0 k1 a0 (y296++[bt a0 x5_1]) (wrap64 (x5_1+1))) else (none))=some (r1,r2):=by first | (rw [hy296];with_reducible exact H) | (have H2_:=(Option.bind_some _ _).symm.trans H;rw [hy296];with_reducible exact H2_) | (have H2_:=(Option.bind_some _ _).symm.trans H;with_reducible exact H2_) | with_reducible exact H | (rw [hy296];exact H) | exact H
        have Ny296:=sd hy296;clear hy296;replace H:=ifI H;rcases H with ⟨c19,H⟩ | ⟨c19,H⟩
        ·have LMc19:=sd c19;clear c19;obtain ⟨y299,hy299⟩:∃ y_:List Int,y_=(y296++[bt a0 x5_1]):=⟨_,rfl⟩
         replace H:(rf06_Quote.l0 k1 a0 y299 (wrap64 (x5_1+1)))=some (r1,r2):=by first | (rw [hy299];with_reducible exact H) | (have H2_:=(Option.bind_some _ _).symm.trans H;rw [hy299];with_reducible exact H2_) | (have H2_:=(Option.bind_some _ _).symm.trans H;with_reducible exact H2_) | with_reducible exact H | (rw [hy299];exact H) | exact H
         have Ny299:=sd hy299;clear hy299;have H':=sd H;clear H;have p8:0≤(x5_1:Int):=od;have q8:x5_1 < (a0.size:Int):=od;have hx8:=bt_at a0 x5_1;replace p8:=eq_true p8;replace q8:=eq_true q8;have p15:0≤(x5_1:Int):=od;have q15:x5_1 < (a0.size:Int):=od;have hx15:=bt_at a0 x5_1;replace p15:=eq_true p15;replace q15:=eq_true q15;go_wp2_with (first | ((with_reducible refine gate_builtin (b:=.append) (xs:=#[.tmp 26,.tmp 27]) rfl ?_);at_builtin;refine Kd.R_append (Kd.int .u8) (w0:=w) w.heap.size rfl (.tmp 26) (.tmp 27) 86 5 (.int .u8 0) 1 rfl Tryd.underlying86 info5 rfl (by decide) (by omega) u4 x4_1 92 [.int .u8 92] (fun _=>True) (fun _=>False) rfl rfl ?aP (fun _ hk=>hk.elim) ?aF ?aO ?aB ?aS ?aL ?_;(case aP=>exact rfl);(case aB=>exact zq7);(case aF=>exact (fun _ _=>trivial));(case aO=>exact zq34);(case aS=>exact (below_size zq7));(case aL=>have:=LMc17.out;omega);intro v297 w20 ho hb hg hat;rw [← Ny296.out] at ho;have HO298:=sd (ho);replace HB:=sd (hb);clear HO_4;clear ho hb hg hat;have p18:0≤(x5_1:Int):=od;have q18:x5_1 < (a0.size:Int):=od;have hx18:=bt_at a0 x5_1;replace p18:=eq_true p18;replace q18:=eq_true q18) | ((with_reducible refine gate_builtin (b:=.append) (xs:=#[.tmp 29,.tmp 33]) rfl ?_);at_builtin;refine Kd.R_append (Kd.int .u8) (w0:=w) w.heap.size rfl (.tmp 29) (.tmp 33) 86 5 (.int .u8 0) 1 rfl Tryd.underlying86 info5 rfl (by decide) (by omega) v297 y296 (bt a0 x5_1) [.int .u8 (bt a0 x5_1)] (fun _=>True) (fun _=>False) rfl rfl ?aP (fun _ hk=>hk.elim) ?aF ?aO ?aB ?aS ?aL ?_;(case aP=>exact rfl);(case aB=>exact zq7);(case aF=>exact (fun _ _=>trivial));(case aO=>exact (by (with_reducible repeat (first | apply Kd.R_alloc | apply Kd.R_drewN | apply Kd.R_drew));exact HO298.out));(case aS=>exact (below_size zq7));(case aL=>have:=LMc19.out;omega);intro v300 w21 ho hb hg hat;rw [← Ny299.out] at ho;have HO301:=sd (ho);replace HB:=sd (hb);clear HO298;clear ho hb hg hat))
         go_roundg k1
         case measure=>have:=HK1.out;omega
         case rel=>exact ⟨(y299),(wrap64 (x5_1+1)),zq1,H',⟨by have:=HK1.out;omega⟩,⟨by (with_reducible repeat (first | apply Kd.R_alloc | apply Kd.R_drewN | apply Kd.R_drew));exact HO301.out⟩,⟨zq7⟩⟩
        exact absurd H (by simp)
       exact absurd H (by simp)
      obtain ⟨c16b0,c16b1⟩:=neI c16;replace H:=ifI H;rcases H with ⟨c23,H⟩ | ⟨c23,H⟩
      ·have LMc23:=sd c23;clear c23;obtain ⟨y302,hy302⟩:∃ y_:List Int,y_=(x4_1++[bt a0 x5_1]):=⟨_,rfl⟩
       replace H:(rf06_Quote.l0 k1 a0 y302 (wrap64 (x5_1+1)))=some (r1,r2):=by first | (rw [hy302];with_reducible exact H) | (have H2_:=(Option.bind_some _ _).symm.trans H;rw [hy302];with_reducible exact H2_) | (have H2_:=(Option.bind_some _ _).symm.trans H;with_reducible exact H2_) | with_reducible exact H | (rw [hy302];exact H) | exact H
       have Ny302:=sd hy302;clear hy302;have H':=sd H;clear H;have p8:0≤(x5_1:Int):=od;have q8:x5_1 < (a0.size:Int):=od;have hx8:=bt_at a0 x5_1;replace p8:=eq_true p8;replace q8:=eq_true q8;have p15:0≤(x5_1:Int):=od;have q15:x5_1 < (a0.size:Int):=od;have hx15:=bt_at a0 x5_1;replace p15:=eq_true p15;replace q15:=eq_true q15;have p22:0≤(x5_1:Int):=od;have q22:x5_1 < (a0.size:Int):=od;have hx22:=bt_at a0 x5_1;replace p22:=eq_true p22;replace q22:=eq_true q22;go_wp2_with (first | ((with_reducible refine gate_builtin (b:=.append) (xs:=#[.tmp 29,.tmp 33]) rfl ?_);at_builtin;refine Kd.R_append (Kd.int .u8) (w0:=w) w.heap.size rfl (.tmp 29) (.tmp 33) 86 5 (.int .u8 0) 1 rfl Tryd.underlying86 info5 rfl (by decide) (by omega) u4 x4_1 (bt a0 x5_1) [.int .u8 (bt a0 x5_1)] (fun _=>True) (fun _=>False) rfl rfl ?aP (fun _ hk=>hk.elim) ?aF ?aO ?aB ?aS ?aL ?_;(case aP=>exact rfl);(case aB=>exact zq7);(case aF=>exact (fun _ _=>trivial));(case aO=>exact zq34);(case aS=>exact (below_size zq7));(case aL=>have:=LMc23.out;omega);intro v303 w24 ho hb hg hat;rw [← Ny302.out] at ho;have HO304:=sd (ho);replace HB:=sd (hb);clear HO_4;clear ho hb hg hat))
       go_roundg k1
       case measure=>have:=HK1.out;omega
       case rel=>exact ⟨(y302),(wrap64 (x5_1+1)),zq1,H',⟨by have:=HK1.out;omega⟩,⟨by (with_reducible repeat (first | apply Kd.R_alloc | apply Kd.R_drewN | apply Kd.R_drew));exact HO304.out⟩,⟨zq7⟩⟩
      exact absurd H (by simp)
     exact absurd H (by simp)
    have c6b0:decide (x5_1 < (a0.size:Int))=false:=decide_eq_false c6;clear c6;replace H:=ifI H;rcases H with ⟨c25,H⟩ | ⟨c25,H⟩
    ·have LMc25:=sd c25;clear c25;obtain ⟨y305,hy305⟩:∃ y_:List Int,y_=(x4_1++[34]):=⟨_,rfl⟩
     replace H:(some (strOfNums y305,0))=some (r1,r2):=by first | (rw [hy305];with_reducible exact H) | (have H2_:=(Option.bind_some _ _).symm.trans H;rw [hy305];with_reducible exact H2_) | (have H2_:=(Option.bind_some _ _).symm.trans H;with_reducible exact H2_) | with_reducible exact H | (rw [hy305];exact H) | exact H
     have Ny305:=sd hy305;clear hy305;simp only [Option.some.injEq,Prod.mk.injEq] at H
     obtain ⟨rfl,rfl⟩:=H;go_wp2_with (first | ((with_reducible refine gate_builtin (b:=.append) (xs:=#[.tmp 35,.tmp 36]) rfl ?_);at_builtin;refine Kd.R_append (Kd.int .u8) (w0:=w) w.heap.size rfl (.tmp 35) (.tmp 36) 86 5 (.int .u8 0) 1 rfl Tryd.underlying86 info5 rfl (by decide) (by omega) u4 x4_1 34 [.int .u8 34] (fun _=>True) (fun _=>False) rfl rfl ?aP (fun _ hk=>hk.elim) ?aF ?aO ?aB ?aS ?aL ?_;(case aP=>exact rfl);(case aB=>exact zq7);(case aF=>exact (fun _ _=>trivial));(case aO=>exact zq34);(case aS=>exact (below_size zq7));(case aL=>have:=LMc25.out;omega);intro v306 w26 ho hb hg hat;rw [← Ny305.out] at ho;have HO307:=sd (ho);replace HB:=sd (hb);clear HO_4;clear ho hb hg hat;have hcv27:=own_string (P:=Tryd.prog) Tryd.underlying86 Tryd.underlying5 Tryd.underlying9 (Kd.own_of_R HO307.out)))
     go_ret2
     exact ⟨zq10,zq7⟩
    exact absurd H (by simp)
 replace c3:=Bool.eq_false_iff.mpr c3;subst c3;rw [if_neg Bool.false_ne_true] at H;simp only [Option.some.injEq,Prod.mk.injEq] at H
 obtain ⟨rfl,rfl⟩:=H;go_enter Tryd.func43,Tryd.ntmps43
 go_wp2_with (first | ((with_reducible refine gate_callee (f:=58) rfl ?_);refine gL 7 Tryd.func58 #[.string a0] ?_;(with_reducible refine (rf06_Plain.calls k a0 false _ A2.out).mono ?_);rintro e w' ⟨rfl,⟨nd,rfl⟩⟩;refine ⟨_,rfl,?_⟩))
 go_ret2
 exact ⟨zq10,zq7⟩
end Go.Proofs.YtmlcdpfcafmmcaaDoor.A
namespace Go.Proofs.YtmlcdpfcafmmcaaDoor.A
open Go.RowKit B WW WL WM
theorem zq32 {P:Prop} (h:P:=by (with_reducible repeat (first | refine blk_drewN ?_ _ | refine blk_drew ?_ | refine blk_alloc ?_ _));exact BK272.out):P:=h
theorem zq33 {P:Prop} (h:P:=by repeat (first | (with_reducible first | exact HB.out | apply below_alloc | apply pw_below_drewN | apply below_drew1 | refine below_set ?_ GE272.out) | exact HB.out)):P:=h
end Go.Proofs.YtmlcdpfcafmmcaaDoor.A
namespace Go.Proofs.YtmlcdpfcafmmcaaDoor.A
open Go.RowKit B WW WL WM
attribute [local go_sem] max2_int min2_int max_two min_two max_three min_three max_four min_four
set_option maxHeartbeats 8000000
set_option maxRecDepth 100000
theorem rf04_Date.calls (k:Nat) (a0 r1 r2 r3 r4:Int) (w:World) (h:rf04_Date.f k a0=some (r1,r2,r3,r4)) :
  Calls Tryd.prog 64 #[.int .i64 a0] w fun e w'=>e=.returned (.tuple #[.agg #[.int .i64 r1,.int .i64 r2,.int .i64 r3],.int .i64 r4])∧Below w.heap.size w w':=by
 have hu81:=Tryd.underlying81;have HB:=sd (Below.refl w.heap.size w);have H:=h;clear h;unfold rf04_Date.f at H;replace H:=bdI H;obtain ⟨t273,A2,H⟩:=H;(try dsimp only at H)
 by_cases c3:t273=true
 ·subst c3;rw [if_pos rfl] at H;have H':=sd H;clear H;go_enter Tryd.func64,Tryd.ntmps64
  go_wp2_with (first | ((with_reducible refine gate_dst (N:=2) rfl ?_);refine bxA 2 #[.int .i64 0,.int .i64 0,.int .i64 0] 81 ?_;intro gb272 hg w4 hbox hb;have BK272:=sd (hbox);have GW272:=gem hg HB;have GE272:=GW272;replace HB:=hbm HB hb;clear hb hbox hg) | ((with_reducible refine gate_callee (f:=80) rfl ?_);refine gL 7 Tryd.func80 #[.int .i64 a0] ?_;(with_reducible refine (rf04_Is.calls a0 true _ A2.out).mono ?_);rintro e w' ⟨rfl,⟨nd,rfl⟩⟩;refine ⟨_,rfl,?_⟩))
  go_loopg [4,5] k (fun kq v4 v5 w'=>∃ (x4_1:Int) (x5_1:Int),v4=.int .i64 x4_1∧v5=.int .i64 x5_1∧Aside0 (rf04_Date.l0 kq x4_1 x5_1=some (r1,r2,r3,r4))∧Aside0 (kq≤k)∧Aside0 (w'.heap[gb272]?=some (.cells #[.int .i64 0,.int .i64 0,.int .i64 0] 81 (0,0)))∧Aside0 (Below w.heap.size w w'))
  case atStart=>exact ⟨(0),(a0),zq1,zq1,H',⟨Nat.le_refl _⟩,⟨zq32⟩,⟨zq33⟩⟩
  case round =>
   clear H';try clear p2
   try clear c3
   obtain ⟨x4_1,x5_1,rfl,rfl,HA,HK1,BK272,HB⟩:=hrel
   cases gk with
   | zero=>exact absurd HA.out (by simp [rf04_Date.l0])
   | succ k1 =>
    have H:=HA.out;clear HA;simp only [rf04_Date.l0] at H
    replace H:=bdI H;obtain ⟨t274,A5,H⟩:=H;(try dsimp only at H)
    replace H:=ifI H;rcases H with ⟨c6,H⟩ | ⟨c6,H⟩
    ·have c6b0:decide (t274≤x5_1)=true:=decide_eq_true c6;clear c6;replace H:=bdI H;obtain ⟨t275,A7,H⟩:=H;(try dsimp only at H)
     have H':=sd H;clear H;go_wp2_with (first | ((with_reducible refine gate_callee (f:=81) rfl ?_);refine gL 18 Tryd.func81 #[.int .i64 (wrap64 (1900+(wrap64 (Int.tdiv x4_1 12)))),.int .i64 (wrap64 ((Int.tmod x4_1 12)+1))] ?_;(with_reducible refine (rf04_Length.calls k1 (wrap64 (1900+(wrap64 (Int.tdiv x4_1 12)))) (wrap64 ((Int.tmod x4_1 12)+1)) t274 _ A5.out).mono ?_);rintro e w8 ⟨rfl,hb⟩;refine ⟨_,rfl,?_⟩;replace BK272:=bkm BK272 hb;replace HB:=hbm HB hb;clear hb) | ((with_reducible refine gate_callee (f:=81) rfl ?_);refine gL 27 Tryd.func81 #[.int .i64 (wrap64 (1900+(wrap64 (Int.tdiv x4_1 12)))),.int .i64 (wrap64 ((Int.tmod x4_1 12)+1))] ?_;(with_reducible refine (rf04_Length.calls k1 (wrap64 (1900+(wrap64 (Int.tdiv x4_1 12)))) (wrap64 ((Int.tmod x4_1 12)+1)) t275 _ A7.out).mono ?_);rintro e w9 ⟨rfl,hb⟩;refine ⟨_,rfl,?_⟩;replace BK272:=bkm BK272 hb;replace HB:=hbm HB hb;clear hb))
     go_roundg k1
     case measure=>have:=HK1.out;omega
     case rel=>exact ⟨(wrap64 (x4_1+1)),(wrap64 (x5_1 - t275)),zq1,zq1,H',⟨by have:=HK1.out;omega⟩,⟨zq32⟩,⟨zq33⟩⟩
    have c6b0:decide (t274≤x5_1)=false:=decide_eq_false c6;clear c6;simp only [Option.some.injEq,Prod.mk.injEq] at H
    obtain ⟨rfl,rfl,rfl,rfl⟩:=H;go_wp2_with (first | ((with_reducible refine gate_callee (f:=81) rfl ?_);refine gL 18 Tryd.func81 #[.int .i64 (wrap64 (1900+(wrap64 (Int.tdiv x4_1 12)))),.int .i64 (wrap64 ((Int.tmod x4_1 12)+1))] ?_;(with_reducible refine (rf04_Length.calls k1 (wrap64 (1900+(wrap64 (Int.tdiv x4_1 12)))) (wrap64 ((Int.tmod x4_1 12)+1)) t274 _ A5.out).mono ?_);rintro e w10 ⟨rfl,hb⟩;refine ⟨_,rfl,?_⟩;replace BK272:=bkm BK272 hb;replace HB:=hbm HB hb;clear hb;obtain ⟨_,_,_,_,_,_⟩:=bk3 BK272))
    refine bodyPost_ret (results_ct rfl _ _ gb272 81 #[.int .i64 (wrap64 (1900+(wrap64 (Int.tdiv x4_1 12)))),.int .i64 (wrap64 ((Int.tmod x4_1 12)+1)),.int .i64 (wrap64 (x5_1+1))] (0,0) _ rfl (by (with_reducible repeat (first | refine blk_drewN ?_ _ | refine blk_drew ?_ | refine blk_alloc ?_ _));refine blk_put (cs:=#[.int .i64 (wrap64 (1900+(wrap64 (Int.tdiv x4_1 12)))),.int .i64 (wrap64 ((Int.tmod x4_1 12)+1)),.int .i64 0]) ?_ 2 _ rfl;(with_reducible repeat (first | refine blk_drewN ?_ _ | refine blk_drew ?_ | refine blk_alloc ?_ _));refine blk_put (cs:=#[.int .i64 (wrap64 (1900+(wrap64 (Int.tdiv x4_1 12)))),.int .i64 0,.int .i64 0]) ?_ 1 _ rfl;(with_reducible repeat (first | refine blk_drewN ?_ _ | refine blk_drew ?_ | refine blk_alloc ?_ _));refine blk_put (cs:=#[.int .i64 0,.int .i64 0,.int .i64 0]) ?_ 0 _ rfl;(with_reducible repeat (first | refine blk_drewN ?_ _ | refine blk_drew ?_ | refine blk_alloc ?_ _));exact BK272.out) Tryd.underlying81 rfl (by kernel_rfl)) rfl ?_;exact ⟨zq10,zq33⟩
 replace c3:=Bool.eq_false_iff.mpr c3;subst c3;rw [if_neg Bool.false_ne_true] at H;simp only [Option.some.injEq,Prod.mk.injEq] at H
 obtain ⟨rfl,rfl,rfl,rfl⟩:=H;go_enter Tryd.func64,Tryd.ntmps64
 go_wp2_with (first | ((with_reducible refine gate_dst (N:=2) rfl ?_);refine bxA 2 #[.int .i64 0,.int .i64 0,.int .i64 0] 81 ?_;intro gb272 hg w12 hbox hb;have BK272:=sd (hbox);have GW272:=gem hg HB;have GE272:=GW272;replace HB:=hbm HB hb;clear hb hbox hg) | ((with_reducible refine gate_callee (f:=80) rfl ?_);refine gL 7 Tryd.func80 #[.int .i64 a0] ?_;(with_reducible refine (rf04_Is.calls a0 false _ A2.out).mono ?_);rintro e w' ⟨rfl,⟨nd,rfl⟩⟩;refine ⟨_,rfl,?_⟩;(try (rw [drewN_self w12];generalize hq_:World.drewN w12 _=w12;have n0_:Aside0 (w12.heap[gb272]?=some (.cells #[.int .i64 0,.int .i64 0,.int .i64 0] 81 (0,0))):=⟨by rw [← hq_];exact zq32⟩;have n1_:Aside0 (Below w.heap.size w w12):=⟨by rw [← hq_];exact zq33⟩;clear BK272 HB hq_;have BK272:=n0_;have HB:=n1_;clear n0_ n1_;(try (have hdBK272_0:=(blk_cell BK272.out 0).trans rfl;have heBK272_0:=blk_frozen BK272.out 0;have hdBK272_1:=(blk_cell BK272.out 1).trans rfl;have heBK272_1:=blk_frozen BK272.out 1;have hdBK272_2:=(blk_cell BK272.out 2).trans rfl;have heBK272_2:=blk_frozen BK272.out 2))));obtain ⟨_,_,_,_,_,_⟩:=bk3 BK272))
 refine bodyPost_ret (results_ct rfl _ _ gb272 81 #[.int .i64 0,.int .i64 0,.int .i64 0] (0,0) _ rfl (by (with_reducible repeat (first | refine blk_drewN ?_ _ | refine blk_drew ?_ | refine blk_alloc ?_ _));refine blk_put (cs:=#[.int .i64 0,.int .i64 0,.int .i64 0]) ?_ 2 _ rfl;(with_reducible repeat (first | refine blk_drewN ?_ _ | refine blk_drew ?_ | refine blk_alloc ?_ _));refine blk_put (cs:=#[.int .i64 0,.int .i64 0,.int .i64 0]) ?_ 1 _ rfl;(with_reducible repeat (first | refine blk_drewN ?_ _ | refine blk_drew ?_ | refine blk_alloc ?_ _));refine blk_put (cs:=#[.int .i64 0,.int .i64 0,.int .i64 0]) ?_ 0 _ rfl;(with_reducible repeat (first | refine blk_drewN ?_ _ | refine blk_drew ?_ | refine blk_alloc ?_ _));exact BK272.out) Tryd.underlying81 rfl (by kernel_rfl)) rfl ?_;exact ⟨zq10,zq33⟩
theorem rf04_Text.calls (k:Nat) (a0:Int) (r1:ByteArray) (r2:Int) (w:World) (h:rf04_Text.f k a0=some (r1,r2)) :
  Calls Tryd.prog 42 #[.int .i64 a0] w fun e w'=>e=.returned (.tuple #[.string r1,.int .i64 r2])∧Below w.heap.size w w':=by
 have hu81:=Tryd.underlying81;have HB:=sd (Below.refl w.heap.size w);have H:=h;clear h;unfold rf04_Text.f at H;replace H:=bdI H;obtain ⟨⟨t278,t279,t280,t281⟩,A2,H⟩:=H;(try dsimp only at H)
 replace H:=ifI H;rcases H with ⟨c3,H⟩ | ⟨c3,H⟩
 ·obtain ⟨c3b0,c3b1⟩:=eqI c3;clear c3;replace H:=bdI H;obtain ⟨t283,A4,H⟩:=H;(try dsimp only at H)
  replace H:=ifI H;rcases H with ⟨c5,H⟩ | ⟨c5,H⟩
  ·have c5b0:=eq_true c5;have c5b1:decide (t283.size+1≤9223372036854775807)=true:=decide_eq_true c5;try have c5b2:(9223372036854775807 < t283.size+1)=False:=eq_false (Nat.not_lt.2 c5)
   replace H:=bdI H;obtain ⟨t284,A6,H⟩:=H;(try dsimp only at H)
   replace H:=ifI H;rcases H with ⟨c7,H⟩ | ⟨c7,H⟩
   ·have c7b0:=eq_true c7;have c7b1:decide ((t283++(⟨#[45]⟩:ByteArray)).size+t284.size≤9223372036854775807)=true:=decide_eq_true c7;try have c7b2:(9223372036854775807 < (t283++(⟨#[45]⟩:ByteArray)).size+t284.size)=False:=eq_false (Nat.not_lt.2 c7)
    try have c7y:(9223372036854775807 < t283.size+1+t284.size)=False:=by have h_:=c7b2;simp only [ByteArray.size_append] at h_;exact h_
    replace H:=ifI H;rcases H with ⟨c8,H⟩ | ⟨c8,H⟩
    ·have c8b0:=eq_true c8;have c8b1:decide (((t283++(⟨#[45]⟩:ByteArray))++t284).size+1≤9223372036854775807)=true:=decide_eq_true c8;try have c8b2:(9223372036854775807 < ((t283++(⟨#[45]⟩:ByteArray))++t284).size+1)=False:=eq_false (Nat.not_lt.2 c8)
     try have c8y:(9223372036854775807 < t283.size+1+t284.size+1)=False:=by have h_:=c8b2;simp only [ByteArray.size_append] at h_;exact h_
     replace H:=bdI H;obtain ⟨t285,A9,H⟩:=H;(try dsimp only at H)
     replace H:=ifI H;rcases H with ⟨c10,H⟩ | ⟨c10,H⟩
     ·have c10b0:=eq_true c10;have c10b1:decide ((((t283++(⟨#[45]⟩:ByteArray))++t284)++(⟨#[45]⟩:ByteArray)).size+t285.size≤9223372036854775807)=true:=decide_eq_true c10;try have c10b2:(9223372036854775807 < (((t283++(⟨#[45]⟩:ByteArray))++t284)++(⟨#[45]⟩:ByteArray)).size+t285.size)=False:=eq_false (Nat.not_lt.2 c10)
      try have c10y:(9223372036854775807 < t283.size+1+t284.size+1+t285.size)=False:=by have h_:=c10b2;simp only [ByteArray.size_append] at h_;exact h_
      simp only [Option.some.injEq,Prod.mk.injEq] at H
      obtain ⟨rfl,rfl⟩:=H;go_enter Tryd.func42,Tryd.ntmps42
      go_wp2_with (first | (go_at_call 64;(with_reducible refine (rf04_Date.calls k a0 t278 t279 t280 t281 _ A2.out).mono ?_);rintro e w11 ⟨rfl,hb⟩;replace HB:=hbm HB hb;clear hb) | ((with_reducible refine gate_dst (N:=4) rfl ?_);refine bxA 4 #[.int .i64 0,.int .i64 0,.int .i64 0] 81 ?_;intro gb282 hg w12 hbox hb;have BK282:=sd (hbox);have GW282:=gem hg HB;have GE282:=GW282;replace HB:=hbm HB hb;clear hb hbox hg;obtain ⟨_,_,_,_,_,_⟩:=bk3 BK282) | (go_at_call 41;(with_reducible refine (rf01_Text.calls k t278 t283 _ A4.out).mono ?_);rintro e w' ⟨rfl,⟨nd,rfl⟩⟩;(try first | exact ⟨rfl,_,World.drewN_drewN _ _ _⟩ | exact ⟨rfl,_,Eq.trans (World.drewN_drewN _ _ _) (congrArg (World.drewN _) (Nat.add_assoc _ _ _))⟩)) | (go_at_call 65;(with_reducible refine (rf04_two.calls k t279 t284 _ A6.out).mono ?_);rintro e w' ⟨rfl,⟨nd,rfl⟩⟩;(try first | exact ⟨rfl,_,World.drewN_drewN _ _ _⟩ | exact ⟨rfl,_,Eq.trans (World.drewN_drewN _ _ _) (congrArg (World.drewN _) (Nat.add_assoc _ _ _))⟩)) | (go_at_call 65;(with_reducible refine (rf04_two.calls k t280 t285 _ A9.out).mono ?_);rintro e w' ⟨rfl,⟨nd,rfl⟩⟩;(try first | exact ⟨rfl,_,World.drewN_drewN _ _ _⟩ | exact ⟨rfl,_,Eq.trans (World.drewN_drewN _ _ _) (congrArg (World.drewN _) (Nat.add_assoc _ _ _))⟩)))
      repeat (go_quiet (first | (go_at_call 64;(with_reducible refine (rf04_Date.calls k a0 t278 t279 t280 t281 _ A2.out).mono ?_);rintro e w11 ⟨rfl,hb⟩;replace HB:=hbm HB hb;clear hb) | ((with_reducible refine gate_dst (N:=4) rfl ?_);refine bxA 4 #[.int .i64 0,.int .i64 0,.int .i64 0] 81 ?_;intro gb282 hg w12 hbox hb;have BK282:=sd (hbox);have GW282:=gem hg HB;have GE282:=GW282;replace HB:=hbm HB hb;clear hb hbox hg;obtain ⟨_,_,_,_,_,_⟩:=bk3 BK282) | (go_at_call 41;(with_reducible refine (rf01_Text.calls k t278 t283 _ A4.out).mono ?_);rintro e w' ⟨rfl,⟨nd,rfl⟩⟩;(try first | exact ⟨rfl,_,World.drewN_drewN _ _ _⟩ | exact ⟨rfl,_,Eq.trans (World.drewN_drewN _ _ _) (congrArg (World.drewN _) (Nat.add_assoc _ _ _))⟩)) | (go_at_call 65;(with_reducible refine (rf04_two.calls k t279 t284 _ A6.out).mono ?_);rintro e w' ⟨rfl,⟨nd,rfl⟩⟩;(try first | exact ⟨rfl,_,World.drewN_drewN _ _ _⟩ | exact ⟨rfl,_,Eq.trans (World.drewN_drewN _ _ _) (congrArg (World.drewN _) (Nat.add_assoc _ _ _))⟩)) | (go_at_call 65;(with_reducible refine (rf04_two.calls k t280 t285 _ A9.out).mono ?_);rintro e w' ⟨rfl,⟨nd,rfl⟩⟩;(try first | exact ⟨rfl,_,World.drewN_drewN _ _ _⟩ | exact ⟨rfl,_,Eq.trans (World.drewN_drewN _ _ _) (congrArg (World.drewN _) (Nat.add_assoc _ _ _))⟩)));try go_wp2_with (first | (go_at_call 64;(with_reducible refine (rf04_Date.calls k a0 t278 t279 t280 t281 _ A2.out).mono ?_);rintro e w11 ⟨rfl,hb⟩;replace HB:=hbm HB hb;clear hb) | ((with_reducible refine gate_dst (N:=4) rfl ?_);refine bxA 4 #[.int .i64 0,.int .i64 0,.int .i64 0] 81 ?_;intro gb282 hg w12 hbox hb;have BK282:=sd (hbox);have GW282:=gem hg HB;have GE282:=GW282;replace HB:=hbm HB hb;clear hb hbox hg;obtain ⟨_,_,_,_,_,_⟩:=bk3 BK282) | (go_at_call 41;(with_reducible refine (rf01_Text.calls k t278 t283 _ A4.out).mono ?_);rintro e w' ⟨rfl,⟨nd,rfl⟩⟩;(try first | exact ⟨rfl,_,World.drewN_drewN _ _ _⟩ | exact ⟨rfl,_,Eq.trans (World.drewN_drewN _ _ _) (congrArg (World.drewN _) (Nat.add_assoc _ _ _))⟩)) | (go_at_call 65;(with_reducible refine (rf04_two.calls k t279 t284 _ A6.out).mono ?_);rintro e w' ⟨rfl,⟨nd,rfl⟩⟩;(try first | exact ⟨rfl,_,World.drewN_drewN _ _ _⟩ | exact ⟨rfl,_,Eq.trans (World.drewN_drewN _ _ _) (congrArg (World.drewN _) (Nat.add_assoc _ _ _))⟩)) | (go_at_call 65;(with_reducible refine (rf04_two.calls k t280 t285 _ A9.out).mono ?_);rintro e w' ⟨rfl,⟨nd,rfl⟩⟩;(try first | exact ⟨rfl,_,World.drewN_drewN _ _ _⟩ | exact ⟨rfl,_,Eq.trans (World.drewN_drewN _ _ _) (congrArg (World.drewN _) (Nat.add_assoc _ _ _))⟩))))
      go_ret2
      exact ⟨zq10,by repeat (first | (with_reducible first | exact HB.out | apply below_alloc | apply pw_below_drewN | apply below_drew1 | refine below_set ?_ GE282.out) | exact HB.out)⟩
     exact absurd H (by simp)
    exact absurd H (by simp)
   exact absurd H (by simp)
  exact absurd H (by simp)
 obtain ⟨c3b0,c3b1⟩:=neI c3;simp only [Option.some.injEq,Prod.mk.injEq] at H
 obtain ⟨rfl,rfl⟩:=H;go_enter Tryd.func42,Tryd.ntmps42
 go_wp2_with (first | (go_at_call 64;(with_reducible refine (rf04_Date.calls k a0 t278 t279 t280 t281 _ A2.out).mono ?_);rintro e w14 ⟨rfl,hb⟩;replace HB:=hbm HB hb;clear hb) | ((with_reducible refine gate_dst (N:=4) rfl ?_);refine bxA 4 #[.int .i64 0,.int .i64 0,.int .i64 0] 81 ?_;intro gb282 hg w15 hbox hb;have BK282:=sd (hbox);have GW282:=gem hg HB;have GE282:=GW282;replace HB:=hbm HB hb;clear hb hbox hg;obtain ⟨_,_,_,_,_,_⟩:=bk3 BK282))
 repeat (go_quiet (first | (go_at_call 64;(with_reducible refine (rf04_Date.calls k a0 t278 t279 t280 t281 _ A2.out).mono ?_);rintro e w14 ⟨rfl,hb⟩;replace HB:=hbm HB hb;clear hb) | ((with_reducible refine gate_dst (N:=4) rfl ?_);refine bxA 4 #[.int .i64 0,.int .i64 0,.int .i64 0] 81 ?_;intro gb282 hg w15 hbox hb;have BK282:=sd (hbox);have GW282:=gem hg HB;have GE282:=GW282;replace HB:=hbm HB hb;clear hb hbox hg;obtain ⟨_,_,_,_,_,_⟩:=bk3 BK282));try go_wp2_with (first | (go_at_call 64;(with_reducible refine (rf04_Date.calls k a0 t278 t279 t280 t281 _ A2.out).mono ?_);rintro e w14 ⟨rfl,hb⟩;replace HB:=hbm HB hb;clear hb) | ((with_reducible refine gate_dst (N:=4) rfl ?_);refine bxA 4 #[.int .i64 0,.int .i64 0,.int .i64 0] 81 ?_;intro gb282 hg w15 hbox hb;have BK282:=sd (hbox);have GW282:=gem hg HB;have GE282:=GW282;replace HB:=hbm HB hb;clear hb hbox hg;obtain ⟨_,_,_,_,_,_⟩:=bk3 BK282)))
 go_ret2
 exact ⟨zq10,by repeat (first | (with_reducible first | exact HB.out | apply below_alloc | apply pw_below_drewN | apply below_drew1 | refine below_set ?_ GE282.out) | exact HB.out)⟩
end Go.Proofs.YtmlcdpfcafmmcaaDoor.A
