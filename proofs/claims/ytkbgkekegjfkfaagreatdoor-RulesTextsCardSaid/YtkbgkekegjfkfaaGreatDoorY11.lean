-- By pack.py, a program of this session's.
import Derived.Test.YtkbgkekegjfkfaaGreatDoorY8
set_option linter.unusedVariables false
set_option linter.unusedSimpArgs false
namespace Go.Proofs.YtkbgkekegjfkfaaGreatDoor.A
open Go.RowKit B WW WL WM
attribute [local go_sem] max2_int min2_int max_two min_two max_three min_three max_four min_four
set_option maxHeartbeats 8000000
set_option maxRecDepth 100000
theorem rf04_Text.calls (k:Nat) (a0:Int) (r1:ByteArray) (r2:Int) (w:World) (h:rf04_Text.f k a0=some (r1,r2)) :
  Calls Tryz.prog 34 #[.int .i64 a0] w fun e w'=>e=.returned (.tuple #[.string r1,.int .i64 r2])∧Below w.heap.size w w':=by
 have hu112:=Tryz.underlying112;have HB:=sd (Below.refl w.heap.size w);have H:=h;clear h;unfold rf04_Text.f at H;replace H:=bdI H;obtain ⟨⟨t303,t304,t305,t306⟩,A2,H⟩:=H;(try dsimp only at H)
 replace H:=ifI H;rcases H with ⟨c3,H⟩ | ⟨c3,H⟩
 ·obtain ⟨c3b0,c3b1⟩:=eqI c3;clear c3;replace H:=bdI H;obtain ⟨t308,A4,H⟩:=H;(try dsimp only at H)
  replace H:=ifI H;rcases H with ⟨c5,H⟩ | ⟨c5,H⟩
  ·have c5b0:=eq_true c5;have c5b1:decide (t308.size+1≤9223372036854775807)=true:=decide_eq_true c5;try have c5b2:(9223372036854775807 < t308.size+1)=False:=eq_false (Nat.not_lt.2 c5)
   replace H:=bdI H;obtain ⟨t309,A6,H⟩:=H;(try dsimp only at H)
   replace H:=ifI H;rcases H with ⟨c7,H⟩ | ⟨c7,H⟩
   ·have c7b0:=eq_true c7;have c7b1:decide ((t308++(⟨#[45]⟩:ByteArray)).size+t309.size≤9223372036854775807)=true:=decide_eq_true c7;try have c7b2:(9223372036854775807 < (t308++(⟨#[45]⟩:ByteArray)).size+t309.size)=False:=eq_false (Nat.not_lt.2 c7)
    try have c7y:(9223372036854775807 < t308.size+1+t309.size)=False:=by have h_:=c7b2;simp only [ByteArray.size_append] at h_;exact h_
    replace H:=ifI H;rcases H with ⟨c8,H⟩ | ⟨c8,H⟩
    ·have c8b0:=eq_true c8;have c8b1:decide (((t308++(⟨#[45]⟩:ByteArray))++t309).size+1≤9223372036854775807)=true:=decide_eq_true c8;try have c8b2:(9223372036854775807 < ((t308++(⟨#[45]⟩:ByteArray))++t309).size+1)=False:=eq_false (Nat.not_lt.2 c8)
     try have c8y:(9223372036854775807 < t308.size+1+t309.size+1)=False:=by have h_:=c8b2;simp only [ByteArray.size_append] at h_;exact h_
     replace H:=bdI H;obtain ⟨t310,A9,H⟩:=H;(try dsimp only at H)
     replace H:=ifI H;rcases H with ⟨c10,H⟩ | ⟨c10,H⟩
     ·have c10b0:=eq_true c10;have c10b1:decide ((((t308++(⟨#[45]⟩:ByteArray))++t309)++(⟨#[45]⟩:ByteArray)).size+t310.size≤9223372036854775807)=true:=decide_eq_true c10;try have c10b2:(9223372036854775807 < (((t308++(⟨#[45]⟩:ByteArray))++t309)++(⟨#[45]⟩:ByteArray)).size+t310.size)=False:=eq_false (Nat.not_lt.2 c10)
      try have c10y:(9223372036854775807 < t308.size+1+t309.size+1+t310.size)=False:=by have h_:=c10b2;simp only [ByteArray.size_append] at h_;exact h_
      simp only [Option.some.injEq,Prod.mk.injEq] at H
      obtain ⟨rfl,rfl⟩:=H;go_enter Tryz.func34,Tryz.ntmps34
      go_wp2_with (first | (go_at_call 78;(with_reducible refine (rf04_Date.calls k a0 t303 t304 t305 t306 _ A2.out).mono ?_);rintro e w11 ⟨rfl,hb⟩;replace HB:=hbm HB hb;clear hb) | ((with_reducible refine gate_dst (N:=4) rfl ?_);refine bxA 4 #[.int .i64 0,.int .i64 0,.int .i64 0] 112 ?_;intro gb307 hg w12 hbox hb;have BK307:=sd (hbox);have GW307:=gem hg HB;have GE307:=GW307;replace HB:=hbm HB hb;clear hb hbox hg;obtain ⟨_,_,_,_,_,_⟩:=bk3 BK307) | (go_at_call 33;(with_reducible refine (rf01_Text.calls k t303 t308 _ A4.out).mono ?_);rintro e w' ⟨rfl,⟨nd,rfl⟩⟩;(try first | exact ⟨rfl,_,World.drewN_drewN _ _ _⟩ | exact ⟨rfl,_,Eq.trans (World.drewN_drewN _ _ _) (congrArg (World.drewN _) (Nat.add_assoc _ _ _))⟩)) | (go_at_call 79;(with_reducible refine (rf04_two.calls k t304 t309 _ A6.out).mono ?_);rintro e w' ⟨rfl,⟨nd,rfl⟩⟩;(try first | exact ⟨rfl,_,World.drewN_drewN _ _ _⟩ | exact ⟨rfl,_,Eq.trans (World.drewN_drewN _ _ _) (congrArg (World.drewN _) (Nat.add_assoc _ _ _))⟩)) | (go_at_call 79;(with_reducible refine (rf04_two.calls k t305 t310 _ A9.out).mono ?_);rintro e w' ⟨rfl,⟨nd,rfl⟩⟩;(try first | exact ⟨rfl,_,World.drewN_drewN _ _ _⟩ | exact ⟨rfl,_,Eq.trans (World.drewN_drewN _ _ _) (congrArg (World.drewN _) (Nat.add_assoc _ _ _))⟩)))
      repeat (go_quiet (first | (go_at_call 78;(with_reducible refine (rf04_Date.calls k a0 t303 t304 t305 t306 _ A2.out).mono ?_);rintro e w11 ⟨rfl,hb⟩;replace HB:=hbm HB hb;clear hb) | ((with_reducible refine gate_dst (N:=4) rfl ?_);refine bxA 4 #[.int .i64 0,.int .i64 0,.int .i64 0] 112 ?_;intro gb307 hg w12 hbox hb;have BK307:=sd (hbox);have GW307:=gem hg HB;have GE307:=GW307;replace HB:=hbm HB hb;clear hb hbox hg;obtain ⟨_,_,_,_,_,_⟩:=bk3 BK307) | (go_at_call 33;(with_reducible refine (rf01_Text.calls k t303 t308 _ A4.out).mono ?_);rintro e w' ⟨rfl,⟨nd,rfl⟩⟩;(try first | exact ⟨rfl,_,World.drewN_drewN _ _ _⟩ | exact ⟨rfl,_,Eq.trans (World.drewN_drewN _ _ _) (congrArg (World.drewN _) (Nat.add_assoc _ _ _))⟩)) | (go_at_call 79;(with_reducible refine (rf04_two.calls k t304 t309 _ A6.out).mono ?_);rintro e w' ⟨rfl,⟨nd,rfl⟩⟩;(try first | exact ⟨rfl,_,World.drewN_drewN _ _ _⟩ | exact ⟨rfl,_,Eq.trans (World.drewN_drewN _ _ _) (congrArg (World.drewN _) (Nat.add_assoc _ _ _))⟩)) | (go_at_call 79;(with_reducible refine (rf04_two.calls k t305 t310 _ A9.out).mono ?_);rintro e w' ⟨rfl,⟨nd,rfl⟩⟩;(try first | exact ⟨rfl,_,World.drewN_drewN _ _ _⟩ | exact ⟨rfl,_,Eq.trans (World.drewN_drewN _ _ _) (congrArg (World.drewN _) (Nat.add_assoc _ _ _))⟩)));try go_wp2_with (first | (go_at_call 78;(with_reducible refine (rf04_Date.calls k a0 t303 t304 t305 t306 _ A2.out).mono ?_);rintro e w11 ⟨rfl,hb⟩;replace HB:=hbm HB hb;clear hb) | ((with_reducible refine gate_dst (N:=4) rfl ?_);refine bxA 4 #[.int .i64 0,.int .i64 0,.int .i64 0] 112 ?_;intro gb307 hg w12 hbox hb;have BK307:=sd (hbox);have GW307:=gem hg HB;have GE307:=GW307;replace HB:=hbm HB hb;clear hb hbox hg;obtain ⟨_,_,_,_,_,_⟩:=bk3 BK307) | (go_at_call 33;(with_reducible refine (rf01_Text.calls k t303 t308 _ A4.out).mono ?_);rintro e w' ⟨rfl,⟨nd,rfl⟩⟩;(try first | exact ⟨rfl,_,World.drewN_drewN _ _ _⟩ | exact ⟨rfl,_,Eq.trans (World.drewN_drewN _ _ _) (congrArg (World.drewN _) (Nat.add_assoc _ _ _))⟩)) | (go_at_call 79;(with_reducible refine (rf04_two.calls k t304 t309 _ A6.out).mono ?_);rintro e w' ⟨rfl,⟨nd,rfl⟩⟩;(try first | exact ⟨rfl,_,World.drewN_drewN _ _ _⟩ | exact ⟨rfl,_,Eq.trans (World.drewN_drewN _ _ _) (congrArg (World.drewN _) (Nat.add_assoc _ _ _))⟩)) | (go_at_call 79;(with_reducible refine (rf04_two.calls k t305 t310 _ A9.out).mono ?_);rintro e w' ⟨rfl,⟨nd,rfl⟩⟩;(try first | exact ⟨rfl,_,World.drewN_drewN _ _ _⟩ | exact ⟨rfl,_,Eq.trans (World.drewN_drewN _ _ _) (congrArg (World.drewN _) (Nat.add_assoc _ _ _))⟩))))
      go_ret2
      exact ⟨zq4,by repeat (first | (with_reducible first | exact HB.out | apply below_alloc | apply pw_below_drewN | apply below_drew1 | refine below_set ?_ GE307.out) | exact HB.out)⟩
     exact absurd H (by simp)
    exact absurd H (by simp)
   exact absurd H (by simp)
  exact absurd H (by simp)
 obtain ⟨c3b0,c3b1⟩:=neI c3;simp only [Option.some.injEq,Prod.mk.injEq] at H
 obtain ⟨rfl,rfl⟩:=H;go_enter Tryz.func34,Tryz.ntmps34
 go_wp2_with (first | (go_at_call 78;(with_reducible refine (rf04_Date.calls k a0 t303 t304 t305 t306 _ A2.out).mono ?_);rintro e w14 ⟨rfl,hb⟩;replace HB:=hbm HB hb;clear hb) | ((with_reducible refine gate_dst (N:=4) rfl ?_);refine bxA 4 #[.int .i64 0,.int .i64 0,.int .i64 0] 112 ?_;intro gb307 hg w15 hbox hb;have BK307:=sd (hbox);have GW307:=gem hg HB;have GE307:=GW307;replace HB:=hbm HB hb;clear hb hbox hg;obtain ⟨_,_,_,_,_,_⟩:=bk3 BK307))
 repeat (go_quiet (first | (go_at_call 78;(with_reducible refine (rf04_Date.calls k a0 t303 t304 t305 t306 _ A2.out).mono ?_);rintro e w14 ⟨rfl,hb⟩;replace HB:=hbm HB hb;clear hb) | ((with_reducible refine gate_dst (N:=4) rfl ?_);refine bxA 4 #[.int .i64 0,.int .i64 0,.int .i64 0] 112 ?_;intro gb307 hg w15 hbox hb;have BK307:=sd (hbox);have GW307:=gem hg HB;have GE307:=GW307;replace HB:=hbm HB hb;clear hb hbox hg;obtain ⟨_,_,_,_,_,_⟩:=bk3 BK307));try go_wp2_with (first | (go_at_call 78;(with_reducible refine (rf04_Date.calls k a0 t303 t304 t305 t306 _ A2.out).mono ?_);rintro e w14 ⟨rfl,hb⟩;replace HB:=hbm HB hb;clear hb) | ((with_reducible refine gate_dst (N:=4) rfl ?_);refine bxA 4 #[.int .i64 0,.int .i64 0,.int .i64 0] 112 ?_;intro gb307 hg w15 hbox hb;have BK307:=sd (hbox);have GW307:=gem hg HB;have GE307:=GW307;replace HB:=hbm HB hb;clear hb hbox hg;obtain ⟨_,_,_,_,_,_⟩:=bk3 BK307)))
 go_ret2
 exact ⟨zq4,by repeat (first | (with_reducible first | exact HB.out | apply below_alloc | apply pw_below_drewN | apply below_drew1 | refine below_set ?_ GE307.out) | exact HB.out)⟩
end Go.Proofs.YtkbgkekegjfkfaaGreatDoor.A
