-- By pack.py, a program of this session's: declarations of this seat's texts, put together for a claim.
import Derived.Test.YtelfiofnhchmbaaDoorZ2
namespace Go.Proofs.YtelfiofnhchmbaaDoor.A
open Go.RowKit Go.Proofs.YtelfiofnhchmbaaDoor.B Go.Proofs.YtelfiofnhchmbaaDoorW.PrintWords Go.Proofs.YtelfiofnhchmbaaDoorW.PrintLast Go.Proofs.YtelfiofnhchmbaaDoorW.PrintMore
attribute [local go_sem] max2_int min2_int max_two min_two max_three min_three max_four min_four
set_option linter.unusedVariables false
set_option linter.unusedSimpArgs false
set_option maxHeartbeats 8000000
set_option maxRecDepth 100000
theorem words_signEnd.calls (k : Nat) (a0 : ByteArray) (a1 r : Int) (w : World) (h : words_signEnd.f k a0 a1 = some r) :
  Calls Tryd.prog 82 #[.string a0, .int .i64 a1] w fun e w' => e = .returned (.int .i64 r) ∧ Drawn0 w w' := by
 have H := h
 clear h
 unfold words_signEnd.f at H
 have HC3 := sd H
 clear H
 go_enter Tryd.func82, Tryd.ntmps82
 go_upto_if 9 with (fail)
 go_cut [] (fun wc => ∃ (kq : Nat), Aside0 (words_signEnd.j0 kq a0 a1 = some r) ∧ Aside0 (kq ≤ k) ∧ Drawn0 w wc)
 case first =>
  have H := HC3.out
  clear HC3
  replace H := ifI H
  rcases H with ⟨c4, H⟩ | ⟨c4, H⟩
  ·have c4b0 : decide ((wrap64 (a1 + 2)) ≤ (a0.size : Int)) = true := decide_eq_true c4
   clear c4
   (first | rw [c4b0] | (simp only [i64_w, i32_w]; rw [c4b0]) | skip)
   replace H := ifI H
   rcases H with ⟨c5, H⟩ | ⟨c5, H⟩
   ·have c5b0 := eq_true c5
    have c5b1 : decide (0 ≤ a1) = true := decide_eq_true c5
    clear c5
    replace H := ifI H
    rcases H with ⟨c6, H⟩ | ⟨c6, H⟩
    ·have c6b0 := eq_true c6
     have c6b1 : decide (a1 ≤ (wrap64 (a1 + 2))) = true := decide_eq_true c6
     have c7b0 := eq_true (od : (wrap64 (a1 + 2)) ≤ (a0.size : Int))
     replace H := ifI H
     rcases H with ⟨c8, H⟩ | ⟨c8, H⟩
     ·obtain ⟨c8b0, c8b1⟩ := eqI c8
      clear c8
      obtain rfl := Option.some.inj H
      go_wp2
      go_ret
      exact ⟨zq1, zq23⟩
     obtain ⟨c8b0, c8b1⟩ := neI c8
     replace H := ifI H
     rcases H with ⟨c9, H⟩ | ⟨c9, H⟩
     ·obtain ⟨c9b0, c9b1⟩ := eqI c9
      clear c9
      obtain rfl := Option.some.inj H
      go_wp2
      go_ret
      exact ⟨zq1, zq23⟩
     obtain ⟨c9b0, c9b1⟩ := neI c9
     replace H := ifI H
     rcases H with ⟨c10, H⟩ | ⟨c10, H⟩
     ·obtain ⟨c10b0, c10b1⟩ := eqI c10
      clear c10
      obtain rfl := Option.some.inj H
      go_wp2
      go_ret
      exact ⟨zq1, zq23⟩
     obtain ⟨c10b0, c10b1⟩ := neI c10
     replace H := ifI H
     rcases H with ⟨c11, H⟩ | ⟨c11, H⟩
     ·obtain ⟨c11b0, c11b1⟩ := eqI c11
      clear c11
      obtain rfl := Option.some.inj H
      go_wp2
      go_ret
      exact ⟨zq1, zq23⟩
     obtain ⟨c11b0, c11b1⟩ := neI c11
     have H' := sd H
     clear H
     go_wp2
     go_meet
     case rel => exact ⟨_, H', ⟨by first | omega | exact Nat.le_refl _⟩, zq23⟩
    exact absurd H (by simp)
   exact absurd H (by simp)
  have c4b0 : decide ((wrap64 (a1 + 2)) ≤ (a0.size : Int)) = false := decide_eq_false c4
  clear c4
  (first | rw [c4b0] | (simp only [i64_w, i32_w]; rw [c4b0]) | skip)
  have H' := sd H
  clear H
  go_wp2
  go_meet
  case rel => exact ⟨_, H', ⟨by first | omega | exact Nat.le_refl _⟩, zq23⟩
 case rest =>
  clear HC3
  try clear c1
  try clear p2
  try clear c4
  try clear c4b0
  try clear c5
  try clear c5b0
  try clear c5b1
  try clear c6
  try clear c6b0
  try clear c6b1
  try clear p6
  try clear c7
  try clear c7b0
  try clear c8
  try clear c8b0
  try clear c8b1
  try clear c9
  try clear c9b0
  try clear c9b1
  try clear c10
  try clear c10b0
  try clear c10b1
  try clear c11
  try clear c11b0
  try clear c11b1
  obtain ⟨kq, HA, HJ2, ⟨mc2, rfl⟩⟩ := hcut
  cases kq with
  | zero => exact absurd HA.out (by simp [words_signEnd.j0])
  | succ kj2 =>
   have H := HA.out
   clear HA
   simp only [words_signEnd.j0] at H
   replace H := ifI H
   rcases H with ⟨c12, H⟩ | ⟨c12, H⟩
   ·have c12b0 : decide (0 ≤ a1) = true := decide_eq_true c12
    clear c12
    replace H := ifI H
    rcases H with ⟨c13, H⟩ | ⟨c13, H⟩
    ·have c13b0 : decide (a1 < (a0.size : Int)) = true := decide_eq_true c13
     clear c13
     replace H := ifI H
     rcases H with ⟨c15, H⟩ | ⟨c15, H⟩
     ·obtain ⟨c15b0, c15b1⟩ := eqI c15
      clear c15
      obtain rfl := Option.some.inj H
      have p14 : 0 ≤ (a1 : Int) := od
      have q14 : a1 < (a0.size : Int) := od
      have hx14 := bt_at a0 a1
      replace p14 := eq_true p14
      replace q14 := eq_true q14
      go_wp2
      go_ret
      exact ⟨zq1, zq23⟩
     obtain ⟨c15b0, c15b1⟩ := neI c15
     replace H := ifI H
     rcases H with ⟨c16, H⟩ | ⟨c16, H⟩
     ·obtain ⟨c16b0, c16b1⟩ := eqI c16
      clear c16
      obtain rfl := Option.some.inj H
      have p14 : 0 ≤ (a1 : Int) := od
      have q14 : a1 < (a0.size : Int) := od
      have hx14 := bt_at a0 a1
      replace p14 := eq_true p14
      replace q14 := eq_true q14
      go_wp2
      go_ret
      exact ⟨zq1, zq23⟩
     obtain ⟨c16b0, c16b1⟩ := neI c16
     replace H := ifI H
     rcases H with ⟨c17, H⟩ | ⟨c17, H⟩
     ·obtain ⟨c17b0, c17b1⟩ := eqI c17
      clear c17
      obtain rfl := Option.some.inj H
      have p14 : 0 ≤ (a1 : Int) := od
      have q14 : a1 < (a0.size : Int) := od
      have hx14 := bt_at a0 a1
      replace p14 := eq_true p14
      replace q14 := eq_true q14
      go_wp2
      go_ret
      exact ⟨zq1, zq23⟩
     obtain ⟨c17b0, c17b1⟩ := neI c17
     replace H := ifI H
     rcases H with ⟨c18, H⟩ | ⟨c18, H⟩
     ·obtain ⟨c18b0, c18b1⟩ := eqI c18
      clear c18
      obtain rfl := Option.some.inj H
      have p14 : 0 ≤ (a1 : Int) := od
      have q14 : a1 < (a0.size : Int) := od
      have hx14 := bt_at a0 a1
      replace p14 := eq_true p14
      replace q14 := eq_true q14
      go_wp2
      go_ret
      exact ⟨zq1, zq23⟩
     obtain ⟨c18b0, c18b1⟩ := neI c18
     replace H := ifI H
     rcases H with ⟨c19, H⟩ | ⟨c19, H⟩
     ·obtain ⟨c19b0, c19b1⟩ := eqI c19
      clear c19
      obtain rfl := Option.some.inj H
      have p14 : 0 ≤ (a1 : Int) := od
      have q14 : a1 < (a0.size : Int) := od
      have hx14 := bt_at a0 a1
      replace p14 := eq_true p14
      replace q14 := eq_true q14
      go_wp2
      go_ret
      exact ⟨zq1, zq23⟩
     obtain ⟨c19b0, c19b1⟩ := neI c19
     replace H := ifI H
     rcases H with ⟨c20, H⟩ | ⟨c20, H⟩
     ·obtain ⟨c20b0, c20b1⟩ := eqI c20
      clear c20
      obtain rfl := Option.some.inj H
      have p14 : 0 ≤ (a1 : Int) := od
      have q14 : a1 < (a0.size : Int) := od
      have hx14 := bt_at a0 a1
      replace p14 := eq_true p14
      replace q14 := eq_true q14
      go_wp2
      go_ret
      exact ⟨zq1, zq23⟩
     obtain ⟨c20b0, c20b1⟩ := neI c20
     replace H := ifI H
     rcases H with ⟨c21, H⟩ | ⟨c21, H⟩
     ·obtain ⟨c21b0, c21b1⟩ := eqI c21
      clear c21
      obtain rfl := Option.some.inj H
      have p14 : 0 ≤ (a1 : Int) := od
      have q14 : a1 < (a0.size : Int) := od
      have hx14 := bt_at a0 a1
      replace p14 := eq_true p14
      replace q14 := eq_true q14
      go_wp2
      go_ret
      exact ⟨zq1, zq23⟩
     obtain ⟨c21b0, c21b1⟩ := neI c21
     replace H := ifI H
     rcases H with ⟨c22, H⟩ | ⟨c22, H⟩
     ·obtain ⟨c22b0, c22b1⟩ := eqI c22
      clear c22
      obtain rfl := Option.some.inj H
      have p14 : 0 ≤ (a1 : Int) := od
      have q14 : a1 < (a0.size : Int) := od
      have hx14 := bt_at a0 a1
      replace p14 := eq_true p14
      replace q14 := eq_true q14
      go_wp2
      go_ret
      exact ⟨zq1, zq23⟩
     obtain ⟨c22b0, c22b1⟩ := neI c22
     replace H := ifI H
     rcases H with ⟨c23, H⟩ | ⟨c23, H⟩
     ·obtain ⟨c23b0, c23b1⟩ := eqI c23
      clear c23
      obtain rfl := Option.some.inj H
      have p14 : 0 ≤ (a1 : Int) := od
      have q14 : a1 < (a0.size : Int) := od
      have hx14 := bt_at a0 a1
      replace p14 := eq_true p14
      replace q14 := eq_true q14
      go_wp2
      go_ret
      exact ⟨zq1, zq23⟩
     obtain ⟨c23b0, c23b1⟩ := neI c23
     replace H := ifI H
     rcases H with ⟨c24, H⟩ | ⟨c24, H⟩
     ·obtain ⟨c24b0, c24b1⟩ := eqI c24
      clear c24
      obtain rfl := Option.some.inj H
      have p14 : 0 ≤ (a1 : Int) := od
      have q14 : a1 < (a0.size : Int) := od
      have hx14 := bt_at a0 a1
      replace p14 := eq_true p14
      replace q14 := eq_true q14
      go_wp2
      go_ret
      exact ⟨zq1, zq23⟩
     obtain ⟨c24b0, c24b1⟩ := neI c24
     replace H := ifI H
     rcases H with ⟨c25, H⟩ | ⟨c25, H⟩
     ·obtain ⟨c25b0, c25b1⟩ := eqI c25
      clear c25
      obtain rfl := Option.some.inj H
      have p14 : 0 ≤ (a1 : Int) := od
      have q14 : a1 < (a0.size : Int) := od
      have hx14 := bt_at a0 a1
      replace p14 := eq_true p14
      replace q14 := eq_true q14
      go_wp2
      go_ret
      exact ⟨zq1, zq23⟩
     obtain ⟨c25b0, c25b1⟩ := neI c25
     replace H := ifI H
     rcases H with ⟨c26, H⟩ | ⟨c26, H⟩
     ·obtain ⟨c26b0, c26b1⟩ := eqI c26
      clear c26
      obtain rfl := Option.some.inj H
      have p14 : 0 ≤ (a1 : Int) := od
      have q14 : a1 < (a0.size : Int) := od
      have hx14 := bt_at a0 a1
      replace p14 := eq_true p14
      replace q14 := eq_true q14
      go_wp2
      go_ret
      exact ⟨zq1, zq23⟩
     obtain ⟨c26b0, c26b1⟩ := neI c26
     replace H := ifI H
     rcases H with ⟨c27, H⟩ | ⟨c27, H⟩
     ·obtain ⟨c27b0, c27b1⟩ := eqI c27
      clear c27
      obtain rfl := Option.some.inj H
      have p14 : 0 ≤ (a1 : Int) := od
      have q14 : a1 < (a0.size : Int) := od
      have hx14 := bt_at a0 a1
      replace p14 := eq_true p14
      replace q14 := eq_true q14
      go_wp2
      go_ret
      exact ⟨zq1, zq23⟩
     obtain ⟨c27b0, c27b1⟩ := neI c27
     replace H := ifI H
     rcases H with ⟨c28, H⟩ | ⟨c28, H⟩
     ·obtain ⟨c28b0, c28b1⟩ := eqI c28
      clear c28
      obtain rfl := Option.some.inj H
      have p14 : 0 ≤ (a1 : Int) := od
      have q14 : a1 < (a0.size : Int) := od
      have hx14 := bt_at a0 a1
      replace p14 := eq_true p14
      replace q14 := eq_true q14
      go_wp2
      go_ret
      exact ⟨zq1, zq23⟩
     obtain ⟨c28b0, c28b1⟩ := neI c28
     replace H := ifI H
     rcases H with ⟨c29, H⟩ | ⟨c29, H⟩
     ·obtain ⟨c29b0, c29b1⟩ := eqI c29
      clear c29
      obtain rfl := Option.some.inj H
      have p14 : 0 ≤ (a1 : Int) := od
      have q14 : a1 < (a0.size : Int) := od
      have hx14 := bt_at a0 a1
      replace p14 := eq_true p14
      replace q14 := eq_true q14
      go_wp2
      go_ret
      exact ⟨zq1, zq23⟩
     obtain ⟨c29b0, c29b1⟩ := neI c29
     replace H := ifI H
     rcases H with ⟨c30, H⟩ | ⟨c30, H⟩
     ·obtain ⟨c30b0, c30b1⟩ := eqI c30
      clear c30
      obtain rfl := Option.some.inj H
      have p14 : 0 ≤ (a1 : Int) := od
      have q14 : a1 < (a0.size : Int) := od
      have hx14 := bt_at a0 a1
      replace p14 := eq_true p14
      replace q14 := eq_true q14
      go_wp2
      go_ret
      exact ⟨zq1, zq23⟩
     obtain ⟨c30b0, c30b1⟩ := neI c30
     replace H := ifI H
     rcases H with ⟨c31, H⟩ | ⟨c31, H⟩
     ·obtain ⟨c31b0, c31b1⟩ := eqI c31
      clear c31
      obtain rfl := Option.some.inj H
      have p14 : 0 ≤ (a1 : Int) := od
      have q14 : a1 < (a0.size : Int) := od
      have hx14 := bt_at a0 a1
      replace p14 := eq_true p14
      replace q14 := eq_true q14
      go_wp2
      go_ret
      exact ⟨zq1, zq23⟩
     obtain ⟨c31b0, c31b1⟩ := neI c31
     replace H := ifI H
     rcases H with ⟨c32, H⟩ | ⟨c32, H⟩
     ·obtain ⟨c32b0, c32b1⟩ := eqI c32
      clear c32
      obtain rfl := Option.some.inj H
      have p14 : 0 ≤ (a1 : Int) := od
      have q14 : a1 < (a0.size : Int) := od
      have hx14 := bt_at a0 a1
      replace p14 := eq_true p14
      replace q14 := eq_true q14
      go_wp2
      go_ret
      exact ⟨zq1, zq23⟩
     obtain ⟨c32b0, c32b1⟩ := neI c32
     replace H := ifI H
     rcases H with ⟨c33, H⟩ | ⟨c33, H⟩
     ·obtain ⟨c33b0, c33b1⟩ := eqI c33
      clear c33
      obtain rfl := Option.some.inj H
      have p14 : 0 ≤ (a1 : Int) := od
      have q14 : a1 < (a0.size : Int) := od
      have hx14 := bt_at a0 a1
      replace p14 := eq_true p14
      replace q14 := eq_true q14
      go_wp2
      go_ret
      exact ⟨zq1, zq23⟩
     obtain ⟨c33b0, c33b1⟩ := neI c33
     replace H := ifI H
     rcases H with ⟨c34, H⟩ | ⟨c34, H⟩
     ·obtain ⟨c34b0, c34b1⟩ := eqI c34
      clear c34
      obtain rfl := Option.some.inj H
      have p14 : 0 ≤ (a1 : Int) := od
      have q14 : a1 < (a0.size : Int) := od
      have hx14 := bt_at a0 a1
      replace p14 := eq_true p14
      replace q14 := eq_true q14
      go_wp2
      go_ret
      exact ⟨zq1, zq23⟩
     obtain ⟨c34b0, c34b1⟩ := neI c34
     replace H := ifI H
     rcases H with ⟨c35, H⟩ | ⟨c35, H⟩
     ·obtain ⟨c35b0, c35b1⟩ := eqI c35
      clear c35
      obtain rfl := Option.some.inj H
      have p14 : 0 ≤ (a1 : Int) := od
      have q14 : a1 < (a0.size : Int) := od
      have hx14 := bt_at a0 a1
      replace p14 := eq_true p14
      replace q14 := eq_true q14
      go_wp2
      go_ret
      exact ⟨zq1, zq23⟩
     obtain ⟨c35b0, c35b1⟩ := neI c35
     obtain rfl := Option.some.inj H
     have p14 : 0 ≤ (a1 : Int) := od
     have q14 : a1 < (a0.size : Int) := od
     have hx14 := bt_at a0 a1
     replace p14 := eq_true p14
     replace q14 := eq_true q14
     go_wp2
     go_ret
     exact ⟨zq1, zq23⟩
    exact absurd H (by simp)
   exact absurd H (by simp)
theorem word_ret (Post : Ending → World → Prop) (T : Array Value) (W : World) (g : Nat) (kind : Int) (S : ByteArray) (i e pa pe : Int) (t4 : T.getD 4 undef = .pointer (some ⟨g, 0, none⟩)) (t5 : T.getD 5 undef = .int .i64 e) (t6 : T.getD 6 undef = .pointer (some ⟨g + 1, 0, none⟩)) 
  (k0 : W.cell? ⟨g, 0, none⟩ = some (.int .i64 kind)) (k1 : W.cell? ⟨g, 1, none⟩ = some (.string S)) (k2 : W.cell? ⟨g, 2, none⟩ = some (.int .i64 i)) (k3 : W.cell? ⟨g + 1, 0, none⟩ = some (.int .i64 pa)) (k4 : W.cell? ⟨g + 1, 1, none⟩ = some (.int .i64 pe))
  (hp : Post (.returned (.tuple #[.agg #[.int .i64 kind, .string S, .int .i64 i], .int .i64 e, .agg #[.int .i64 pa, .int .i64 pe]])) W) : bodyPost Tryd.prog Tryd.f50 Post .ret { tmps := T, defers := [] } W := by
 rw [Array.getD_eq_getD_getElem?] at t4 t5 t6
 exact bodyPost_ret (v := .tuple #[.agg #[.int .i64 kind, .string S, .int .i64 i], .int .i64 e, .agg #[.int .i64 pa, .int .i64 pe]]) (by simp [results, Tryd.results50, go_sem, t4, t5, t6, k0, k1, k2, k3, k4]) rfl hp
def words_word.g (s : ByteArray) (i kind e most : Int) : Option (Int × ByteArray × Int × Int × Int × Int) :=
 if i ≤ e ∧ e ≤ (s.size : Int) then some (kind, s.extract i.toNat e.toNat, i, e, if most < e - i then i else 0, if most < e - i then 9 else 0) else none
def words_word.h (k : Nat) (s : ByteArray) (i : Int) : Option (Int × ByteArray × Int × Int × Int × Int) :=
 if bt s i = 34 then (words_quoted.f k s i).bind fun q => if q.2.2.2 ≠ 0 then some (3, q.1, i, q.2.1, q.2.2.1, q.2.2.2) else
  some (3, q.1, i, q.2.1, if 60 < (q.1.size : Int) then i else q.2.2.1, if 60 < (q.1.size : Int) then 9 else 0)
 else (words_signEnd.f k s i).bind fun e => if e = i then some (4, ⟨#[]⟩, i, e, i, 5) else words_word.g s i 4 e 60
def words_word.f (k : Nat) (s : ByteArray) (i : Int) : Option (Int × ByteArray × Int × Int × Int × Int) :=
 if 0 ≤ i ∧ i < (s.size : Int) ∧ s.size ≤ 140737488351232 then
  (words_letter.f (bt s i)).bind fun l => if l = true then (words_nameEnd.f k s i).bind fun e => words_word.g s i 1 e 12 else
  (words_digit.f (bt s i)).bind fun d => if d = true then (words_numberEnd.f k s i).bind fun e => words_word.g s i 2 e 60 else
  if bt s i = 45 then (words_digitAt.f s (i + 1)).bind fun b => if b = true then (words_numberEnd.f k s i).bind fun e => words_word.g s i 2 e 60 else words_word.h k s i
  else words_word.h k s i
 else none
theorem words_word.calls (k : Nat) (a0 : ByteArray) (a1 r1 : Int) (r2 : ByteArray) (r3 r4 r5 r6 : Int) (w : World) (h : words_word.f k a0 a1 = some (r1, r2, r3, r4, r5, r6)) :
  Calls Tryd.prog 50 #[.string a0, .int .i64 a1] w fun e w' => e = .returned (.tuple #[.agg #[.int .i64 r1, .string r2, .int .i64 r3], .int .i64 r4, .agg #[.int .i64 r5, .int .i64 r6]]) ∧ Below w.heap.size w w' := by
 have HPost : ∀ W, Below w.heap.size w W → (fun (e : Ending) (w' : World) => e = .returned (.tuple #[.agg #[.int .i64 r1, .string r2, .int .i64 r3], .int .i64 r4, .agg #[.int .i64 r5, .int .i64 r6]]) ∧ Below w.heap.size w w') (.returned (.tuple #[.agg #[.int .i64 r1, .string r2, .int .i64 r3], .int .i64 r4, .agg #[.int .i64 r5, .int .i64 r6]])) W := fun W hW => ⟨rfl, hW⟩
 generalize (fun (e : Ending) (w' : World) => e = .returned (.tuple #[.agg #[.int .i64 r1, .string r2, .int .i64 r3], .int .i64 r4, .agg #[.int .i64 r5, .int .i64 r6]]) ∧ Below w.heap.size w w') = Post at HPost ⊢
 have HP := sd HPost
 clear HPost
 unfold words_word.f at h
 split at h
 case isFalse => cases h
 rename_i hb
 obtain ⟨hb0, hb1, hs⟩ := hb
 obtain ⟨i, rfl⟩ := Int.eq_ofNat_of_zero_le hb0
 have hi : i < a0.size := by omega
 clear hb0 hb1
 rw [show bt a0 (i : Int) = (a0[i].toNat : Int) from (bt_at a0 i hi).symm] at h
 obtain ⟨c, hc⟩ : ∃ c, a0[i] = c := ⟨_, rfl⟩
 rw [hc] at h
 replace h := Option.bind_eq_some_iff.mp h
 obtain ⟨l, hl, h⟩ := h
 have CL := sd (fun W => words_letter.calls (c.toNat : Int) l W hl)
 clear hl
 cases l
 ·rw [if_neg (by decide)] at h
  replace h := Option.bind_eq_some_iff.mp h
  obtain ⟨d, hd, h⟩ := h
  have CD := sd (fun W => words_digit.calls (c.toNat : Int) d W hd)
  clear hd
  cases d
  ·rw [if_neg (by decide)] at h
   by_cases h45 : (c.toNat : Int) = 45
   ·rw [if_pos h45] at h
    replace h := Option.bind_eq_some_iff.mp h
    obtain ⟨b, hb, h⟩ := h
    have CA := sd (fun W => words_digitAt.calls a0 ((i : Int) + 1) b W hb)
    have s45 : ((c.toNat : Int) == 45) = true := beq_iff_eq.mpr h45
    clear hb
    cases b
    ·rw [if_neg (by decide)] at h
     unfold words_word.h at h
     rw [show bt a0 (i : Int) = (c.toNat : Int) by rw [← hc]; exact (bt_at a0 i hi).symm] at h
     have h34 : ¬ (c.toNat : Int) = 34 := by omega
     clear h45
     rw [if_neg h34] at h
     have s34 : ((c.toNat : Int) == 34) = false := beq_eq_false_iff_ne.mpr h34
     clear h34
     replace h := Option.bind_eq_some_iff.mp h
     obtain ⟨e, he, h⟩ := h
     have CN := sd (fun W => words_signEnd.calls k a0 (i : Int) e W he)
     clear he
     by_cases hei : e = (i : Int)
     ·rw [if_pos hei] at h
      subst hei
      simp only [Option.some.injEq, Prod.mk.injEq] at h
      obtain ⟨rfl, rfl, rfl, rfl, rfl, rfl⟩ := h
      go_enter Tryd.func50, Tryd.ntmps50
      go_wp2_with fail
      refine (CL.out _).mono ?_
      rintro e w' ⟨rfl, nd0, rfl⟩
      go_wp2_with fail
      refine (CD.out _).mono ?_
      rintro e w' ⟨rfl, nd1, rfl⟩
      go_wp2_with fail
      refine (CA.out _).mono ?_
      rintro e w' ⟨rfl, nd2, rfl⟩
      go_wp2_with fail
      refine (CN.out _).mono ?_
      rintro e w' ⟨rfl, nd3, rfl⟩
      go_wp2_with fail
      exact word_ret _ _ _ w.heap.size 4 ⟨#[]⟩ (i : Int) ((i : Int)) ((i : Int)) (5) rfl rfl rfl zq124 zq124 zq124 zq124 zq124 (HP.out _ zq125)
     rw [if_neg hei] at h
     unfold words_word.g at h
     split at h
     case isFalse => cases h
     rename_i hb
     obtain ⟨q0, q1⟩ := hb
     obtain ⟨n, rfl⟩ := Int.eq_ofNat_of_zero_le (show 0 ≤ e by omega)
     simp only [Int.toNat_natCast, Option.some.injEq, Prod.mk.injEq] at h
     obtain ⟨rfl, rfl, rfl, rfl, rfl, rfl⟩ := h
     have hne : ((n : Int) == (i : Int)) = false := beq_eq_false_iff_ne.mpr hei
     clear hei
     have hsz : (a0.extract i n).size = n - i := by rw [ByteArray.size_extract]; omega
     by_cases hm : (60 : Int) < (n : Int) - (i : Int)
     ·rw [if_pos hm, if_pos hm] at HP
      have hm2 : 60 < n - i := by omega
      clear hm
      go_enter Tryd.func50, Tryd.ntmps50
      go_wp2_with fail
      refine (CL.out _).mono ?_
      rintro e w' ⟨rfl, nd0, rfl⟩
      go_wp2_with fail
      refine (CD.out _).mono ?_
      rintro e w' ⟨rfl, nd1, rfl⟩
      go_wp2_with fail
      refine (CA.out _).mono ?_
      rintro e w' ⟨rfl, nd2, rfl⟩
      go_wp2_with fail
      refine (CN.out _).mono ?_
      rintro e w' ⟨rfl, nd3, rfl⟩
      go_wp2_with fail
      go_region
      go_wp2_with fail
      exact word_ret _ _ _ w.heap.size 4 (a0.extract i n) (i : Int) ((n : Int)) ((i : Int)) (9) rfl rfl rfl zq124 zq124 zq124 zq124 zq124 (HP.out _ zq125)
     rw [if_neg hm, if_neg hm] at HP
     have hm2 : ¬ 60 < n - i := by omega
     clear hm
     go_enter Tryd.func50, Tryd.ntmps50
     go_wp2_with fail
     refine (CL.out _).mono ?_
     rintro e w' ⟨rfl, nd0, rfl⟩
     go_wp2_with fail
     refine (CD.out _).mono ?_
     rintro e w' ⟨rfl, nd1, rfl⟩
     go_wp2_with fail
     refine (CA.out _).mono ?_
     rintro e w' ⟨rfl, nd2, rfl⟩
     go_wp2_with fail
     refine (CN.out _).mono ?_
     rintro e w' ⟨rfl, nd3, rfl⟩
     go_wp2_with fail
     go_region
     go_wp2_with fail
     exact word_ret _ _ _ w.heap.size 4 (a0.extract i n) (i : Int) ((n : Int)) (0) (0) rfl rfl rfl zq124 zq124 zq124 zq124 zq124 (HP.out _ zq125)
    ·rw [if_pos rfl] at h
     clear h45
     replace h := Option.bind_eq_some_iff.mp h
     obtain ⟨e, he, h⟩ := h
     have CN := sd (fun W => words_numberEnd.calls k a0 (i : Int) e W he)
     clear he
     unfold words_word.g at h
     split at h
     case isFalse => cases h
     rename_i hb
     obtain ⟨q0, q1⟩ := hb
     obtain ⟨n, rfl⟩ := Int.eq_ofNat_of_zero_le (show 0 ≤ e by omega)
     simp only [Int.toNat_natCast, Option.some.injEq, Prod.mk.injEq] at h
     obtain ⟨rfl, rfl, rfl, rfl, rfl, rfl⟩ := h
     have hsz : (a0.extract i n).size = n - i := by rw [ByteArray.size_extract]; omega
     by_cases hm : (60 : Int) < (n : Int) - (i : Int)
     ·rw [if_pos hm, if_pos hm] at HP
      have hm2 : 60 < n - i := by omega
      clear hm
      go_enter Tryd.func50, Tryd.ntmps50
      go_wp2_with fail
      refine (CL.out _).mono ?_
      rintro e w' ⟨rfl, nd0, rfl⟩
      go_wp2_with fail
      refine (CD.out _).mono ?_
      rintro e w' ⟨rfl, nd1, rfl⟩
      go_wp2_with fail
      refine (CA.out _).mono ?_
      rintro e w' ⟨rfl, nd2, rfl⟩
      go_wp2_with fail
      refine (CN.out _).mono ?_
      rintro e w' ⟨rfl, nd3, rfl⟩
      go_wp2_with fail
      go_region
      go_wp2_with fail
      exact word_ret _ _ _ w.heap.size 2 (a0.extract i n) (i : Int) ((n : Int)) ((i : Int)) (9) rfl rfl rfl zq124 zq124 zq124 zq124 zq124 (HP.out _ zq125)
     rw [if_neg hm, if_neg hm] at HP
     have hm2 : ¬ 60 < n - i := by omega
     clear hm
     go_enter Tryd.func50, Tryd.ntmps50
     go_wp2_with fail
     refine (CL.out _).mono ?_
     rintro e w' ⟨rfl, nd0, rfl⟩
     go_wp2_with fail
     refine (CD.out _).mono ?_
     rintro e w' ⟨rfl, nd1, rfl⟩
     go_wp2_with fail
     refine (CA.out _).mono ?_
     rintro e w' ⟨rfl, nd2, rfl⟩
     go_wp2_with fail
     refine (CN.out _).mono ?_
     rintro e w' ⟨rfl, nd3, rfl⟩
     go_wp2_with fail
     go_region
     go_wp2_with fail
     exact word_ret _ _ _ w.heap.size 2 (a0.extract i n) (i : Int) ((n : Int)) (0) (0) rfl rfl rfl zq124 zq124 zq124 zq124 zq124 (HP.out _ zq125)
   rw [if_neg h45] at h
   have s45 : ((c.toNat : Int) == 45) = false := beq_eq_false_iff_ne.mpr h45
   clear h45
   unfold words_word.h at h
   rw [show bt a0 (i : Int) = (c.toNat : Int) by rw [← hc]; exact (bt_at a0 i hi).symm] at h
   by_cases h34 : (c.toNat : Int) = 34
   ·rw [if_pos h34] at h
    have s34 : ((c.toNat : Int) == 34) = true := beq_iff_eq.mpr h34
    clear h34
    replace h := Option.bind_eq_some_iff.mp h
    obtain ⟨⟨q, qe, qa, qp⟩, hq, h⟩ := h
    have CQ := sd (fun W => words_quoted.calls k a0 (i : Int) q qe qa qp W hq)
    clear hq
    dsimp only at h
    by_cases hp : qp = 0
    ·subst hp
     rw [if_neg (by decide)] at h
     simp only [Option.some.injEq, Prod.mk.injEq] at h
     obtain ⟨rfl, rfl, rfl, rfl, rfl, rfl⟩ := h
     by_cases hm : (60 : Int) < (q.size : Int)
     ·rw [if_pos hm, if_pos hm] at HP
      go_enter Tryd.func50, Tryd.ntmps50
      go_wp2_with fail
      refine (CL.out _).mono ?_
      rintro e w' ⟨rfl, nd0, rfl⟩
      go_wp2_with fail
      refine (CD.out _).mono ?_
      rintro e w' ⟨rfl, nd1, rfl⟩
      go_wp2_with fail
      refine (CQ.out _).mono ?_
      rintro e W1 ⟨rfl, hb⟩
      obtain ⟨hc', hf'⟩ := bcell hb
      have hz1 : w.heap.size + 1 < W1.heap.size := by have := hb.size; simp at this; omega
      have k0 : W1.cell? ⟨w.heap.size, 0, none⟩ = some (.int .i64 3) := (hc' _ _ (by simp <;> omega)).trans (by simp [go_sem])
      have k1 : W1.cell? ⟨w.heap.size, 1, none⟩ = some (.string ⟨#[]⟩) := (hc' _ _ (by simp <;> omega)).trans (by simp [go_sem])
      have k2 : W1.cell? ⟨w.heap.size, 2, none⟩ = some (.int .i64 (i : Int)) := (hc' _ _ (by simp <;> omega)).trans (by simp [go_sem])
      have k3 : W1.cell? ⟨w.heap.size + 1, 0, none⟩ = some (.int .i64 0) := (hc' _ _ (by simp <;> omega)).trans (by simp [go_sem])
      have k4 : W1.cell? ⟨w.heap.size + 1, 1, none⟩ = some (.int .i64 0) := (hc' _ _ (by simp <;> omega)).trans (by simp [go_sem])
      have f0 : W1.frozen? ⟨w.heap.size, 0, none⟩ = false := (hf' _ _ (by simp <;> omega)).trans (by simp [go_sem])
      have f1 : W1.frozen? ⟨w.heap.size, 1, none⟩ = false := (hf' _ _ (by simp <;> omega)).trans (by simp [go_sem])
      have f2 : W1.frozen? ⟨w.heap.size, 2, none⟩ = false := (hf' _ _ (by simp <;> omega)).trans (by simp [go_sem])
      have f3 : W1.frozen? ⟨w.heap.size + 1, 0, none⟩ = false := (hf' _ _ (by simp <;> omega)).trans (by simp [go_sem])
      have f4 : W1.frozen? ⟨w.heap.size + 1, 1, none⟩ = false := (hf' _ _ (by simp <;> omega)).trans (by simp [go_sem])
      have HB := sd ((show Below w.heap.size w _ from zq125).trans (hb.mono (by simp <;> omega)))
      clear hb hc' hf'
      have HW := sd (show WordW W1 w.heap.size 3 ⟨#[]⟩ (i : Int) 0 0 from ⟨k0, k1, k2, k3, k4, f0, f1, f2, f3, f4⟩)
      go_wp2_with fail
      have HW2 := sd (((((HW.out.s q).a qa).e (0)).a (i : Int)).e 9)
      have HB2 := sd (show Below w.heap.size w (((((W1.setCell ⟨w.heap.size, 1, none⟩ (.string q)).setCell ⟨w.heap.size + 1, 0, none⟩ (.int .i64 qa)).setCell ⟨w.heap.size + 1, 1, none⟩ (.int .i64 0)).setCell ⟨w.heap.size + 1, 0, none⟩ (.int .i64 (i : Int))).setCell ⟨w.heap.size + 1, 1, none⟩ (.int .i64 9)) from below_setN (below_setN (below_setN (below_setN (below_setN (HB.out) (Nat.le_refl _) _) (Nat.le_succ _) _) (Nat.le_succ _) _) (Nat.le_succ _) _) (Nat.le_succ _) _)
      generalize ((((W1.setCell ⟨w.heap.size, 1, none⟩ (.string q)).setCell ⟨w.heap.size + 1, 0, none⟩ (.int .i64 qa)).setCell ⟨w.heap.size + 1, 1, none⟩ (.int .i64 0)).setCell ⟨w.heap.size + 1, 0, none⟩ (.int .i64 (i : Int))).setCell ⟨w.heap.size + 1, 1, none⟩ (.int .i64 9) = W2 at HW2 HB2 ⊢
      clear k0 k1 k2 k3 k4 f0 f1 f2 f3 f4 HB
      have HB := HB2
      obtain ⟨k0, k1, k2, k3, k4, f0, f1, f2, f3, f4⟩ := HW2.out
      go_region
      go_wp2_with fail
      exact word_ret _ _ _ w.heap.size 3 q (i : Int) qe ((i : Int)) (9) rfl rfl rfl zq124 zq124 zq124 zq124 zq124 (HP.out _ zq126)
     rw [if_neg hm, if_neg hm] at HP
     go_enter Tryd.func50, Tryd.ntmps50
     go_wp2_with fail
     refine (CL.out _).mono ?_
     rintro e w' ⟨rfl, nd0, rfl⟩
     go_wp2_with fail
     refine (CD.out _).mono ?_
     rintro e w' ⟨rfl, nd1, rfl⟩
     go_wp2_with fail
     refine (CQ.out _).mono ?_
     rintro e W1 ⟨rfl, hb⟩
     obtain ⟨hc', hf'⟩ := bcell hb
     have hz1 : w.heap.size + 1 < W1.heap.size := by have := hb.size; simp at this; omega
     have k0 : W1.cell? ⟨w.heap.size, 0, none⟩ = some (.int .i64 3) := (hc' _ _ (by simp <;> omega)).trans (by simp [go_sem])
     have k1 : W1.cell? ⟨w.heap.size, 1, none⟩ = some (.string ⟨#[]⟩) := (hc' _ _ (by simp <;> omega)).trans (by simp [go_sem])
     have k2 : W1.cell? ⟨w.heap.size, 2, none⟩ = some (.int .i64 (i : Int)) := (hc' _ _ (by simp <;> omega)).trans (by simp [go_sem])
     have k3 : W1.cell? ⟨w.heap.size + 1, 0, none⟩ = some (.int .i64 0) := (hc' _ _ (by simp <;> omega)).trans (by simp [go_sem])
     have k4 : W1.cell? ⟨w.heap.size + 1, 1, none⟩ = some (.int .i64 0) := (hc' _ _ (by simp <;> omega)).trans (by simp [go_sem])
     have f0 : W1.frozen? ⟨w.heap.size, 0, none⟩ = false := (hf' _ _ (by simp <;> omega)).trans (by simp [go_sem])
     have f1 : W1.frozen? ⟨w.heap.size, 1, none⟩ = false := (hf' _ _ (by simp <;> omega)).trans (by simp [go_sem])
     have f2 : W1.frozen? ⟨w.heap.size, 2, none⟩ = false := (hf' _ _ (by simp <;> omega)).trans (by simp [go_sem])
     have f3 : W1.frozen? ⟨w.heap.size + 1, 0, none⟩ = false := (hf' _ _ (by simp <;> omega)).trans (by simp [go_sem])
     have f4 : W1.frozen? ⟨w.heap.size + 1, 1, none⟩ = false := (hf' _ _ (by simp <;> omega)).trans (by simp [go_sem])
     have HB := sd ((show Below w.heap.size w _ from zq125).trans (hb.mono (by simp <;> omega)))
     clear hb hc' hf'
     have HW := sd (show WordW W1 w.heap.size 3 ⟨#[]⟩ (i : Int) 0 0 from ⟨k0, k1, k2, k3, k4, f0, f1, f2, f3, f4⟩)
     go_wp2_with fail
     have HW2 := sd (((HW.out.s q).a qa).e (0))
     have HB2 := sd (show Below w.heap.size w (((W1.setCell ⟨w.heap.size, 1, none⟩ (.string q)).setCell ⟨w.heap.size + 1, 0, none⟩ (.int .i64 qa)).setCell ⟨w.heap.size + 1, 1, none⟩ (.int .i64 0)) from below_setN (below_setN (below_setN (HB.out) (Nat.le_refl _) _) (Nat.le_succ _) _) (Nat.le_succ _) _)
     generalize ((W1.setCell ⟨w.heap.size, 1, none⟩ (.string q)).setCell ⟨w.heap.size + 1, 0, none⟩ (.int .i64 qa)).setCell ⟨w.heap.size + 1, 1, none⟩ (.int .i64 0) = W2 at HW2 HB2 ⊢
     clear k0 k1 k2 k3 k4 f0 f1 f2 f3 f4 HB
     have HB := HB2
     obtain ⟨k0, k1, k2, k3, k4, f0, f1, f2, f3, f4⟩ := HW2.out
     go_region
     go_wp2_with fail
     exact word_ret _ _ _ w.heap.size 3 q (i : Int) qe (qa) (0) rfl rfl rfl zq124 zq124 zq124 zq124 zq124 (HP.out _ zq126)
    rw [if_pos hp] at h
    simp only [Option.some.injEq, Prod.mk.injEq] at h
    obtain ⟨rfl, rfl, rfl, rfl, rfl, rfl⟩ := h
    have hpb : (qp == 0) = false := beq_eq_false_iff_ne.mpr hp
    clear hp
    go_enter Tryd.func50, Tryd.ntmps50
    go_wp2_with fail
    refine (CL.out _).mono ?_
    rintro e w' ⟨rfl, nd0, rfl⟩
    go_wp2_with fail
    refine (CD.out _).mono ?_
    rintro e w' ⟨rfl, nd1, rfl⟩
    go_wp2_with fail
    refine (CQ.out _).mono ?_
    rintro e W1 ⟨rfl, hb⟩
    obtain ⟨hc', hf'⟩ := bcell hb
    have hz1 : w.heap.size + 1 < W1.heap.size := by have := hb.size; simp at this; omega
    have k0 : W1.cell? ⟨w.heap.size, 0, none⟩ = some (.int .i64 3) := (hc' _ _ (by simp <;> omega)).trans (by simp [go_sem])
    have k1 : W1.cell? ⟨w.heap.size, 1, none⟩ = some (.string ⟨#[]⟩) := (hc' _ _ (by simp <;> omega)).trans (by simp [go_sem])
    have k2 : W1.cell? ⟨w.heap.size, 2, none⟩ = some (.int .i64 (i : Int)) := (hc' _ _ (by simp <;> omega)).trans (by simp [go_sem])
    have k3 : W1.cell? ⟨w.heap.size + 1, 0, none⟩ = some (.int .i64 0) := (hc' _ _ (by simp <;> omega)).trans (by simp [go_sem])
    have k4 : W1.cell? ⟨w.heap.size + 1, 1, none⟩ = some (.int .i64 0) := (hc' _ _ (by simp <;> omega)).trans (by simp [go_sem])
    have f0 : W1.frozen? ⟨w.heap.size, 0, none⟩ = false := (hf' _ _ (by simp <;> omega)).trans (by simp [go_sem])
    have f1 : W1.frozen? ⟨w.heap.size, 1, none⟩ = false := (hf' _ _ (by simp <;> omega)).trans (by simp [go_sem])
    have f2 : W1.frozen? ⟨w.heap.size, 2, none⟩ = false := (hf' _ _ (by simp <;> omega)).trans (by simp [go_sem])
    have f3 : W1.frozen? ⟨w.heap.size + 1, 0, none⟩ = false := (hf' _ _ (by simp <;> omega)).trans (by simp [go_sem])
    have f4 : W1.frozen? ⟨w.heap.size + 1, 1, none⟩ = false := (hf' _ _ (by simp <;> omega)).trans (by simp [go_sem])
    have HB := sd ((show Below w.heap.size w _ from zq125).trans (hb.mono (by simp <;> omega)))
    clear hb hc' hf'
    have HW := sd (show WordW W1 w.heap.size 3 ⟨#[]⟩ (i : Int) 0 0 from ⟨k0, k1, k2, k3, k4, f0, f1, f2, f3, f4⟩)
    go_wp2_with fail
    have HW2 := sd (((HW.out.s q).a qa).e (qp))
    have HB2 := sd (show Below w.heap.size w (((W1.setCell ⟨w.heap.size, 1, none⟩ (.string q)).setCell ⟨w.heap.size + 1, 0, none⟩ (.int .i64 qa)).setCell ⟨w.heap.size + 1, 1, none⟩ (.int .i64 qp)) from below_setN (below_setN (below_setN (HB.out) (Nat.le_refl _) _) (Nat.le_succ _) _) (Nat.le_succ _) _)
    generalize ((W1.setCell ⟨w.heap.size, 1, none⟩ (.string q)).setCell ⟨w.heap.size + 1, 0, none⟩ (.int .i64 qa)).setCell ⟨w.heap.size + 1, 1, none⟩ (.int .i64 qp) = W2 at HW2 HB2 ⊢
    clear k0 k1 k2 k3 k4 f0 f1 f2 f3 f4 HB
    have HB := HB2
    obtain ⟨k0, k1, k2, k3, k4, f0, f1, f2, f3, f4⟩ := HW2.out
    go_region
    go_wp2_with fail
    exact word_ret _ _ _ w.heap.size 3 q (i : Int) qe (qa) (qp) rfl rfl rfl zq124 zq124 zq124 zq124 zq124 (HP.out _ zq126)
   rw [if_neg h34] at h
   have s34 : ((c.toNat : Int) == 34) = false := beq_eq_false_iff_ne.mpr h34
   clear h34
   replace h := Option.bind_eq_some_iff.mp h
   obtain ⟨e, he, h⟩ := h
   have CN := sd (fun W => words_signEnd.calls k a0 (i : Int) e W he)
   clear he
   by_cases hei : e = (i : Int)
   ·rw [if_pos hei] at h
    subst hei
    simp only [Option.some.injEq, Prod.mk.injEq] at h
    obtain ⟨rfl, rfl, rfl, rfl, rfl, rfl⟩ := h
    go_enter Tryd.func50, Tryd.ntmps50
    go_wp2_with fail
    refine (CL.out _).mono ?_
    rintro e w' ⟨rfl, nd0, rfl⟩
    go_wp2_with fail
    refine (CD.out _).mono ?_
    rintro e w' ⟨rfl, nd1, rfl⟩
    go_wp2_with fail
    refine (CN.out _).mono ?_
    rintro e w' ⟨rfl, nd2, rfl⟩
    go_wp2_with fail
    exact word_ret _ _ _ w.heap.size 4 ⟨#[]⟩ (i : Int) ((i : Int)) ((i : Int)) (5) rfl rfl rfl zq124 zq124 zq124 zq124 zq124 (HP.out _ zq125)
   rw [if_neg hei] at h
   unfold words_word.g at h
   split at h
   case isFalse => cases h
   rename_i hb
   obtain ⟨q0, q1⟩ := hb
   obtain ⟨n, rfl⟩ := Int.eq_ofNat_of_zero_le (show 0 ≤ e by omega)
   simp only [Int.toNat_natCast, Option.some.injEq, Prod.mk.injEq] at h
   obtain ⟨rfl, rfl, rfl, rfl, rfl, rfl⟩ := h
   have hne : ((n : Int) == (i : Int)) = false := beq_eq_false_iff_ne.mpr hei
   clear hei
   have hsz : (a0.extract i n).size = n - i := by rw [ByteArray.size_extract]; omega
   by_cases hm : (60 : Int) < (n : Int) - (i : Int)
   ·rw [if_pos hm, if_pos hm] at HP
    have hm2 : 60 < n - i := by omega
    clear hm
    go_enter Tryd.func50, Tryd.ntmps50
    go_wp2_with fail
    refine (CL.out _).mono ?_
    rintro e w' ⟨rfl, nd0, rfl⟩
    go_wp2_with fail
    refine (CD.out _).mono ?_
    rintro e w' ⟨rfl, nd1, rfl⟩
    go_wp2_with fail
    refine (CN.out _).mono ?_
    rintro e w' ⟨rfl, nd2, rfl⟩
    go_wp2_with fail
    go_region
    go_wp2_with fail
    exact word_ret _ _ _ w.heap.size 4 (a0.extract i n) (i : Int) ((n : Int)) ((i : Int)) (9) rfl rfl rfl zq124 zq124 zq124 zq124 zq124 (HP.out _ zq125)
   rw [if_neg hm, if_neg hm] at HP
   have hm2 : ¬ 60 < n - i := by omega
   clear hm
   go_enter Tryd.func50, Tryd.ntmps50
   go_wp2_with fail
   refine (CL.out _).mono ?_
   rintro e w' ⟨rfl, nd0, rfl⟩
   go_wp2_with fail
   refine (CD.out _).mono ?_
   rintro e w' ⟨rfl, nd1, rfl⟩
   go_wp2_with fail
   refine (CN.out _).mono ?_
   rintro e w' ⟨rfl, nd2, rfl⟩
   go_wp2_with fail
   go_region
   go_wp2_with fail
   exact word_ret _ _ _ w.heap.size 4 (a0.extract i n) (i : Int) ((n : Int)) (0) (0) rfl rfl rfl zq124 zq124 zq124 zq124 zq124 (HP.out _ zq125)
  ·rw [if_pos rfl] at h
   replace h := Option.bind_eq_some_iff.mp h
   obtain ⟨e, he, h⟩ := h
   have CN := sd (fun W => words_numberEnd.calls k a0 (i : Int) e W he)
   clear he
   unfold words_word.g at h
   split at h
   case isFalse => cases h
   rename_i hb
   obtain ⟨q0, q1⟩ := hb
   obtain ⟨n, rfl⟩ := Int.eq_ofNat_of_zero_le (show 0 ≤ e by omega)
   simp only [Int.toNat_natCast, Option.some.injEq, Prod.mk.injEq] at h
   obtain ⟨rfl, rfl, rfl, rfl, rfl, rfl⟩ := h
   have hsz : (a0.extract i n).size = n - i := by rw [ByteArray.size_extract]; omega
   by_cases hm : (60 : Int) < (n : Int) - (i : Int)
   ·rw [if_pos hm, if_pos hm] at HP
    have hm2 : 60 < n - i := by omega
    clear hm
    go_enter Tryd.func50, Tryd.ntmps50
    go_wp2_with fail
    refine (CL.out _).mono ?_
    rintro e w' ⟨rfl, nd0, rfl⟩
    go_wp2_with fail
    refine (CD.out _).mono ?_
    rintro e w' ⟨rfl, nd1, rfl⟩
    go_wp2_with fail
    refine (CN.out _).mono ?_
    rintro e w' ⟨rfl, nd2, rfl⟩
    go_wp2_with fail
    go_region
    go_wp2_with fail
    exact word_ret _ _ _ w.heap.size 2 (a0.extract i n) (i : Int) ((n : Int)) ((i : Int)) (9) rfl rfl rfl zq124 zq124 zq124 zq124 zq124 (HP.out _ zq125)
   rw [if_neg hm, if_neg hm] at HP
   have hm2 : ¬ 60 < n - i := by omega
   clear hm
   go_enter Tryd.func50, Tryd.ntmps50
   go_wp2_with fail
   refine (CL.out _).mono ?_
   rintro e w' ⟨rfl, nd0, rfl⟩
   go_wp2_with fail
   refine (CD.out _).mono ?_
   rintro e w' ⟨rfl, nd1, rfl⟩
   go_wp2_with fail
   refine (CN.out _).mono ?_
   rintro e w' ⟨rfl, nd2, rfl⟩
   go_wp2_with fail
   go_region
   go_wp2_with fail
   exact word_ret _ _ _ w.heap.size 2 (a0.extract i n) (i : Int) ((n : Int)) (0) (0) rfl rfl rfl zq124 zq124 zq124 zq124 zq124 (HP.out _ zq125)
 ·rw [if_pos rfl] at h
  replace h := Option.bind_eq_some_iff.mp h
  obtain ⟨e, he, h⟩ := h
  have CN := sd (fun W => words_nameEnd.calls k a0 (i : Int) e W he)
  clear he
  unfold words_word.g at h
  split at h
  case isFalse => cases h
  rename_i hb
  obtain ⟨q0, q1⟩ := hb
  obtain ⟨n, rfl⟩ := Int.eq_ofNat_of_zero_le (show 0 ≤ e by omega)
  simp only [Int.toNat_natCast, Option.some.injEq, Prod.mk.injEq] at h
  obtain ⟨rfl, rfl, rfl, rfl, rfl, rfl⟩ := h
  have hsz : (a0.extract i n).size = n - i := by rw [ByteArray.size_extract]; omega
  by_cases hm : (12 : Int) < (n : Int) - (i : Int)
  ·rw [if_pos hm, if_pos hm] at HP
   have hm2 : 12 < n - i := by omega
   clear hm
   go_enter Tryd.func50, Tryd.ntmps50
   go_wp2_with fail
   refine (CL.out _).mono ?_
   rintro e w' ⟨rfl, nd0, rfl⟩
   go_wp2_with fail
   refine (CN.out _).mono ?_
   rintro e w' ⟨rfl, nd1, rfl⟩
   go_wp2_with fail
   go_region
   go_wp2_with fail
   exact word_ret _ _ _ w.heap.size 1 (a0.extract i n) (i : Int) ((n : Int)) ((i : Int)) (9) rfl rfl rfl zq124 zq124 zq124 zq124 zq124 (HP.out _ zq125)
  rw [if_neg hm, if_neg hm] at HP
  have hm2 : ¬ 12 < n - i := by omega
  clear hm
  go_enter Tryd.func50, Tryd.ntmps50
  go_wp2_with fail
  refine (CL.out _).mono ?_
  rintro e w' ⟨rfl, nd0, rfl⟩
  go_wp2_with fail
  refine (CN.out _).mono ?_
  rintro e w' ⟨rfl, nd1, rfl⟩
  go_wp2_with fail
  go_region
  go_wp2_with fail
  exact word_ret _ _ _ w.heap.size 1 (a0.extract i n) (i : Int) ((n : Int)) (0) (0) rfl rfl rfl zq124 zq124 zq124 zq124 zq124 (HP.out _ zq125)
mutual
def words_Cut.l0 : Nat → ByteArray → List (S91) → Int → Option ((List (S91)) × Int × Int)
 | 0, _, _, _ => none
 | k + 1, x0, x2, x3 => if x3 < (x0.size : Int) then (if 0 ≤ x3 then (words_Cut.j1 k x0 x2 x3 ((bt x0 x3) != 35)) else (none)) else (words_Cut.j1 k x0 x2 x3 false)
def words_Cut.j1 : Nat → ByteArray → List (S91) → Int → Bool → Option ((List (S91)) × Int × Int)
 | 0, _, _, _, _ => none
 | k + 1, x0, x2, x3, x20 => if x20 = true then (if 0 ≤ x3 then (if x3 < (x0.size : Int) then (if (bt x0 x3) = 32 then (words_Cut.l0 k x0 x2 (wrap64 (x3 + 1))) else ((words_word.f k x0 x3).bind fun bt175 => (if bt175.2.2.2.2.2 = 0 then (if x2.length < 4398046511104 then (words_Cut.l0 k x0 (x2 ++ [(⟨bt175.1, bt175.2.1, bt175.2.2.1⟩ : S91)]) bt175.2.2.2.1) else (none)) else (some (([] : List (S91)), bt175.2.2.2.2.1, bt175.2.2.2.2.2))))) else (none)) else (none)) else (some (x2, (x0.size : Int), 0))
end
def words_Cut.f (k : Nat) (a0 : ByteArray) : Option ((List (S91)) × Int × Int) := if (a0.size : Int) > 400 then (some (([] : List (S91)), 0, 9)) else (words_Cut.l0 k a0 ([] : List (S91)) 0)
theorem words_Cut.calls (k : Nat) (a0 : ByteArray) (r1 : List (S91)) (r2 r3 : Int) (w : World) (h : words_Cut.f k a0 = some (r1, r2, r3)) :
  Calls Tryd.prog 35 #[.string a0] w fun e w' => ∃ v0_ : Value, e = .returned (.tuple #[v0_, .int .i64 r2, .int .i64 r3]) ∧ Kd.R k91 91 w' w.heap.size (fun _ => True) v0_ r1 ∧ Below w.heap.size w w' := by
 have hu91 := Tryd.underlying91
 have hu93 := Tryd.underlying93
 have HB := sd (Below.refl w.heap.size w)
 have H := h
 clear h
 unfold words_Cut.f at H
 replace H := ifI H
 rcases H with ⟨c2, H⟩ | ⟨c2, H⟩
 ·have c2b0 : decide (400 < (a0.size : Int)) = true := decide_eq_true c2
  have c2b1 : decide (400 < a0.size) = true := decide_eq_true (by omega)
  clear c2
  simp only [Option.some.injEq, Prod.mk.injEq] at H
  obtain ⟨rfl, rfl, rfl⟩ := H
  go_enter Tryd.func35, Tryd.ntmps35
  go_wp2
  repeat (go_quiet (fail); try go_wp2)
  go_ret3
  exact ⟨_, zq8, zq43, zq34⟩
 have c2b0 : decide (400 < (a0.size : Int)) = false := decide_eq_false c2
 have c2b1 : decide (400 < a0.size) = false := decide_eq_false (by omega)
 clear c2
 have H' := sd H
 clear H
 go_enter Tryd.func35, Tryd.ntmps35
 go_wp2
 repeat (go_quiet (fail); try go_wp2)
 go_loopg [2, 3] k (fun kq v2 v3 w' => ∃ (x2_1 : List (S91)) (x3_1 : Int), v3 = .int .i64 x3_1 ∧ Aside0 (words_Cut.l0 kq a0 x2_1 x3_1 = some (r1, r2, r3)) ∧ Aside0 (kq ≤ k) ∧ Aside0 (Kd.R k91 91 w' w.heap.size (fun _ => True) v2 x2_1) ∧ Aside0 (Below w.heap.size w w'))
 case atStart => exact ⟨(([] : List (S91))), (0), zq1, H', ⟨Nat.le_refl _⟩, ⟨zq43⟩, ⟨zq34⟩⟩
 case round =>
  clear H'
  try clear c2
  try clear c2b0
  try clear c2b1
  try clear p2
  obtain ⟨x2_1, x3_1, rfl, HA, HK1, HO_2, HB⟩ := hrel
  cases gk with
  | zero => exact absurd HA.out (by simp [words_Cut.l0])
  | succ k1 =>
   have H := HA.out
   clear HA
   simp only [words_Cut.l0] at H
   have HC3 := sd H
   clear H
   go_upto_region 3 with (fail)
   repeat (go_quiet (fail); go_upto_region 3 with (fail))
   go_cut [20] (fun v20 wc => ∃ (kq : Nat) (x20_2 : Bool), v20 = .bool x20_2 ∧ Aside0 (words_Cut.j1 kq a0 x2_1 x3_1 x20_2 = some (r1, r2, r3)) ∧ Aside0 (kq ≤ k1) ∧ Aside0 (Kd.R k91 91 wc w.heap.size (fun _ => True) u2 x2_1) ∧ Aside0 (Below w.heap.size w wc))
   case first =>
    have H := HC3.out
    clear HC3
    replace H := ifI H
    rcases H with ⟨c4, H⟩ | ⟨c4, H⟩
    ·have c4b0 : decide (x3_1 < (a0.size : Int)) = true := decide_eq_true c4
     clear c4
     (first | rw [c4b0] | (simp only [i64_w, i32_w]; rw [c4b0]) | skip)
     replace H := ifI H
     rcases H with ⟨c5, H⟩ | ⟨c5, H⟩
     ·have c5b0 : decide (0 ≤ x3_1) = true := decide_eq_true c5
      clear c5
      have H' := sd H
      clear H
      have p6 : 0 ≤ (x3_1 : Int) := od
      have q6 : x3_1 < (a0.size : Int) := od
      have hx6 := bt_at a0 x3_1
      replace p6 := eq_true p6
      replace q6 := eq_true q6
      go_wp2
      repeat (go_quiet (fail); try go_wp2)
      go_meet
      case rel => exact ⟨_, (((bt a0 x3_1) != 35)), zq1, H', ⟨zq68⟩, ⟨zq127⟩, ⟨zq34⟩⟩
     exact absurd H (by simp)
    have c4b0 : decide (x3_1 < (a0.size : Int)) = false := decide_eq_false c4
    clear c4
    (first | rw [c4b0] | (simp only [i64_w, i32_w]; rw [c4b0]) | skip)
    have H' := sd H
    clear H
    go_wp2
    repeat (go_quiet (fail); try go_wp2)
    go_meet
    case rel => exact ⟨_, (false), zq1, H', ⟨zq68⟩, ⟨zq127⟩, ⟨zq34⟩⟩
   case rest =>
    clear HC3
    try clear c2
    try clear c2b0
    try clear c2b1
    try clear p2
    try clear c3
    try clear c4
    try clear c4b0
    try clear c5
    try clear c5b0
    try clear p6
    try clear q6
    try clear hx6
    try clear p2
    try clear p6
    try clear q6
    obtain ⟨kq, x20_2, rfl, HA, HJ2, HO_2, HB⟩ := hcut
    cases kq with
    | zero => exact absurd HA.out (by simp [words_Cut.j1])
    | succ kj2 =>
     have H := HA.out
     clear HA
     simp only [words_Cut.j1] at H
     by_cases c7 : x20_2 = true
     ·subst c7
      rw [if_pos rfl] at H
      replace H := ifI H
      rcases H with ⟨c8, H⟩ | ⟨c8, H⟩
      ·have c8b0 : decide (0 ≤ x3_1) = true := decide_eq_true c8
       clear c8
       replace H := ifI H
       rcases H with ⟨c9, H⟩ | ⟨c9, H⟩
       ·have c9b0 : decide (x3_1 < (a0.size : Int)) = true := decide_eq_true c9
        clear c9
        replace H := ifI H
        rcases H with ⟨c11, H⟩ | ⟨c11, H⟩
        ·obtain ⟨c11b0, c11b1⟩ := eqI c11
         clear c11
         have H' := sd H
         clear H
         have p10 : 0 ≤ (x3_1 : Int) := od
         have q10 : x3_1 < (a0.size : Int) := od
         have hx10 := bt_at a0 x3_1
         replace p10 := eq_true p10
         replace q10 := eq_true q10
         go_wp2
         repeat (go_quiet (fail); try go_wp2)
         go_roundg kj2
         case measure => have := HK1.out; have := HJ2.out; omega
         case rel => exact ⟨(x2_1), (wrap64 (x3_1 + 1)), zq1, H', ⟨by have := HK1.out; have := HJ2.out; omega⟩, ⟨zq127⟩, ⟨zq34⟩⟩
        obtain ⟨c11b0, c11b1⟩ := neI c11
        replace H := bdI H
        obtain ⟨⟨t175, t176, t177, t178, t179, t180⟩, A12, H⟩ := H
        (try dsimp only at H)
        replace H := ifI H
        rcases H with ⟨c13, H⟩ | ⟨c13, H⟩
        ·obtain ⟨c13b0, c13b1⟩ := eqI c13
         clear c13
         replace H := ifI H
         rcases H with ⟨c14, H⟩ | ⟨c14, H⟩
         ·have LMc14 := sd c14
          clear c14
          obtain ⟨y183, hy183⟩ : ∃ y_ : List (S91), y_ = (x2_1 ++ [(⟨t175, t176, t177⟩ : S91)]) := ⟨_, rfl⟩
          replace H : (words_Cut.l0 kj2 a0 y183 t178) = some (r1, r2, r3) := by first | (rw [hy183]; with_reducible exact H) | (have H2_ := (Option.bind_some _ _).symm.trans H; rw [hy183]; with_reducible exact H2_) | (have H2_ := (Option.bind_some _ _).symm.trans H; with_reducible exact H2_) | with_reducible exact H | (rw [hy183]; exact H) | exact H
          have Ny183 := sd hy183
          clear hy183
          have H' := sd H
          clear H
          have p10 : 0 ≤ (x3_1 : Int) := od
          have q10 : x3_1 < (a0.size : Int) := od
          have hx10 := bt_at a0 x3_1
          replace p10 := eq_true p10
          replace q10 := eq_true q10
          go_wp2_with (first | (go_at_call 50; (with_reducible refine (words_word.calls kj2 a0 x3_1 t175 t176 t177 t178 t179 t180 _ A12.out).mono ?_); rintro e w15 ⟨rfl, hb⟩; replace HO_2 := rbm HO_2 hb; replace HB := hbm HB hb; clear hb) | ((with_reducible refine gate_dst (N := 5) rfl ?_); refine bxA 5 #[.int .i64 0, .string (⟨#[]⟩ : ByteArray), .int .i64 0] 91 ?_; intro gb181 hg w16 hbox hb; have BK181 := sd (hbox); have GW181 := gem hg HB; have GE181 := GW181; replace HO_2 := sd (Kd.R_below (Kd.R_elderB zq127 gb181 (Nat.le_of_eq hg.symm)) hb); replace HB := hbm HB hb; clear hb hbox hg) | ((with_reducible refine gate_dst (N := 7) rfl ?_); refine bxA 7 #[.int .i64 0, .int .i64 0] 93 ?_; intro gb182 hg w17 hbox hb; have BK182 := sd (hbox); have GW182 := gem hg HB; have GE182 := GW182; have NB181_182 := nlm hg BK181; have NB182_181 := ngm hg BK181; replace HO_2 := rbm HO_2 hb; replace BK181 := bkm BK181 hb; replace HB := hbm HB hb; clear hb hbox hg; have hnb18 := NB181_182.out; have hnc18 := NB182_181.out; obtain ⟨_, _, _, _, _, _⟩ := bk3 BK181; obtain ⟨_, _, _, _⟩ := bk2 BK182) | ((with_reducible refine gate_builtin (b := .append) (xs := #[.tmp 41, .tmp 43]) rfl ?_); at_builtin; refine Kd.R_append k91 (w0 := w) w.heap.size rfl (.tmp 41) (.tmp 43) 62 91 (.agg #[(.int .i64 0), (.string ⟨#[]⟩), (.int .i64 0)]) 32 rfl Tryd.underlying62 info91 rfl (by decide) (by omega) u2 x2_1 (⟨t175, t176, t177⟩ : S91) [.int .i64 t175, .string t176, .int .i64 t177] (fun k_ => k_ ≠ gb181) (fun _ => False) rfl zq54 ?aP (fun _ hk => hk.elim) ?aF ?aO ?aB ?aS ?aL ?_; (case aP => exact k91_mkM _ _ _ (⟨t175, t176, t177⟩ : S91)); (case aB => exact zq128); (case aF => exact (fun k_ hk => Kd.freshB (g := gb181) (o := .cells #[.int .i64 t175, .string t176, .int .i64 t177] 91 (0, 0)) zq129 k_ hk)); (case aO => exact zq130); (case aS => exact (below_size zq128)); (case aL => have := LMc14.out; omega); intro v184 w21 ho hb hg hat; rw [← Ny183.out] at ho; have HO185 := sd (ho); replace BK181 := sd (blk_grown (g := gb181) (o := .cells #[.int .i64 t175, .string t176, .int .i64 t177] 91 (0, 0)) zq129 hg (Kd.R_away HO_2.out (fun _ hk => hk.2))); replace BK182 := sd (blk_grown (g := gb182) (o := .cells #[.int .i64 t179, .int .i64 t180] 93 (0, 0)) zq131 hg (Kd.R_ne HO_2.out BK182.out (by decide))); replace HB := sd (hb); clear HO_2; clear ho hb hg hat))
          repeat (go_quiet (first | (go_at_call 50; (with_reducible refine (words_word.calls kj2 a0 x3_1 t175 t176 t177 t178 t179 t180 _ A12.out).mono ?_); rintro e w15 ⟨rfl, hb⟩; replace HO_2 := rbm HO_2 hb; replace HB := hbm HB hb; clear hb) | ((with_reducible refine gate_dst (N := 5) rfl ?_); refine bxA 5 #[.int .i64 0, .string (⟨#[]⟩ : ByteArray), .int .i64 0] 91 ?_; intro gb181 hg w16 hbox hb; have BK181 := sd (hbox); have GW181 := gem hg HB; have GE181 := GW181; replace HO_2 := sd (Kd.R_below (Kd.R_elderB zq127 gb181 (Nat.le_of_eq hg.symm)) hb); replace HB := hbm HB hb; clear hb hbox hg) | ((with_reducible refine gate_dst (N := 7) rfl ?_); refine bxA 7 #[.int .i64 0, .int .i64 0] 93 ?_; intro gb182 hg w17 hbox hb; have BK182 := sd (hbox); have GW182 := gem hg HB; have GE182 := GW182; have NB181_182 := nlm hg BK181; have NB182_181 := ngm hg BK181; replace HO_2 := rbm HO_2 hb; replace BK181 := bkm BK181 hb; replace HB := hbm HB hb; clear hb hbox hg; have hnb18 := NB181_182.out; have hnc18 := NB182_181.out; obtain ⟨_, _, _, _, _, _⟩ := bk3 BK181; obtain ⟨_, _, _, _⟩ := bk2 BK182) | ((with_reducible refine gate_builtin (b := .append) (xs := #[.tmp 41, .tmp 43]) rfl ?_); at_builtin; refine Kd.R_append k91 (w0 := w) w.heap.size rfl (.tmp 41) (.tmp 43) 62 91 (.agg #[(.int .i64 0), (.string ⟨#[]⟩), (.int .i64 0)]) 32 rfl Tryd.underlying62 info91 rfl (by decide) (by omega) u2 x2_1 (⟨t175, t176, t177⟩ : S91) [.int .i64 t175, .string t176, .int .i64 t177] (fun k_ => k_ ≠ gb181) (fun _ => False) rfl zq54 ?aP (fun _ hk => hk.elim) ?aF ?aO ?aB ?aS ?aL ?_; (case aP => exact k91_mkM _ _ _ (⟨t175, t176, t177⟩ : S91)); (case aB => exact zq128); (case aF => exact (fun k_ hk => Kd.freshB (g := gb181) (o := .cells #[.int .i64 t175, .string t176, .int .i64 t177] 91 (0, 0)) zq129 k_ hk)); (case aO => exact zq130); (case aS => exact (below_size zq128)); (case aL => have := LMc14.out; omega); intro v184 w21 ho hb hg hat; rw [← Ny183.out] at ho; have HO185 := sd (ho); replace BK181 := sd (blk_grown (g := gb181) (o := .cells #[.int .i64 t175, .string t176, .int .i64 t177] 91 (0, 0)) zq129 hg (Kd.R_away HO_2.out (fun _ hk => hk.2))); replace BK182 := sd (blk_grown (g := gb182) (o := .cells #[.int .i64 t179, .int .i64 t180] 93 (0, 0)) zq131 hg (Kd.R_ne HO_2.out BK182.out (by decide))); replace HB := sd (hb); clear HO_2; clear ho hb hg hat)); try go_wp2_with (first | (go_at_call 50; (with_reducible refine (words_word.calls kj2 a0 x3_1 t175 t176 t177 t178 t179 t180 _ A12.out).mono ?_); rintro e w15 ⟨rfl, hb⟩; replace HO_2 := rbm HO_2 hb; replace HB := hbm HB hb; clear hb) | ((with_reducible refine gate_dst (N := 5) rfl ?_); refine bxA 5 #[.int .i64 0, .string (⟨#[]⟩ : ByteArray), .int .i64 0] 91 ?_; intro gb181 hg w16 hbox hb; have BK181 := sd (hbox); have GW181 := gem hg HB; have GE181 := GW181; replace HO_2 := sd (Kd.R_below (Kd.R_elderB zq127 gb181 (Nat.le_of_eq hg.symm)) hb); replace HB := hbm HB hb; clear hb hbox hg) | ((with_reducible refine gate_dst (N := 7) rfl ?_); refine bxA 7 #[.int .i64 0, .int .i64 0] 93 ?_; intro gb182 hg w17 hbox hb; have BK182 := sd (hbox); have GW182 := gem hg HB; have GE182 := GW182; have NB181_182 := nlm hg BK181; have NB182_181 := ngm hg BK181; replace HO_2 := rbm HO_2 hb; replace BK181 := bkm BK181 hb; replace HB := hbm HB hb; clear hb hbox hg; have hnb18 := NB181_182.out; have hnc18 := NB182_181.out; obtain ⟨_, _, _, _, _, _⟩ := bk3 BK181; obtain ⟨_, _, _, _⟩ := bk2 BK182) | ((with_reducible refine gate_builtin (b := .append) (xs := #[.tmp 41, .tmp 43]) rfl ?_); at_builtin; refine Kd.R_append k91 (w0 := w) w.heap.size rfl (.tmp 41) (.tmp 43) 62 91 (.agg #[(.int .i64 0), (.string ⟨#[]⟩), (.int .i64 0)]) 32 rfl Tryd.underlying62 info91 rfl (by decide) (by omega) u2 x2_1 (⟨t175, t176, t177⟩ : S91) [.int .i64 t175, .string t176, .int .i64 t177] (fun k_ => k_ ≠ gb181) (fun _ => False) rfl zq54 ?aP (fun _ hk => hk.elim) ?aF ?aO ?aB ?aS ?aL ?_; (case aP => exact k91_mkM _ _ _ (⟨t175, t176, t177⟩ : S91)); (case aB => exact zq128); (case aF => exact (fun k_ hk => Kd.freshB (g := gb181) (o := .cells #[.int .i64 t175, .string t176, .int .i64 t177] 91 (0, 0)) zq129 k_ hk)); (case aO => exact zq130); (case aS => exact (below_size zq128)); (case aL => have := LMc14.out; omega); intro v184 w21 ho hb hg hat; rw [← Ny183.out] at ho; have HO185 := sd (ho); replace BK181 := sd (blk_grown (g := gb181) (o := .cells #[.int .i64 t175, .string t176, .int .i64 t177] 91 (0, 0)) zq129 hg (Kd.R_away HO_2.out (fun _ hk => hk.2))); replace BK182 := sd (blk_grown (g := gb182) (o := .cells #[.int .i64 t179, .int .i64 t180] 93 (0, 0)) zq131 hg (Kd.R_ne HO_2.out BK182.out (by decide))); replace HB := sd (hb); clear HO_2; clear ho hb hg hat)))
          go_roundg kj2
          case measure => have := HK1.out; have := HJ2.out; omega
          case rel => exact ⟨(y183), (t178), zq1, H', ⟨by have := HK1.out; have := HJ2.out; omega⟩, ⟨by (with_reducible repeat (first | apply Kd.R_alloc | apply Kd.R_drewN | apply Kd.R_drew)); exact Kd.R_mono HO185.out (fun _ hk => trivial)⟩, ⟨zq128⟩⟩
         exact absurd H (by simp)
        obtain ⟨c13b0, c13b1⟩ := neI c13
        simp only [Option.some.injEq, Prod.mk.injEq] at H
        obtain ⟨rfl, rfl, rfl⟩ := H
        have p10 : 0 ≤ (x3_1 : Int) := od
        have q10 : x3_1 < (a0.size : Int) := od
        have hx10 := bt_at a0 x3_1
        replace p10 := eq_true p10
        replace q10 := eq_true q10
        go_wp2_with (first | (go_at_call 50; (with_reducible refine (words_word.calls kj2 a0 x3_1 t175 t176 t177 t178 t179 t180 _ A12.out).mono ?_); rintro e w22 ⟨rfl, hb⟩; replace HO_2 := rbm HO_2 hb; replace HB := hbm HB hb; clear hb) | ((with_reducible refine gate_dst (N := 5) rfl ?_); refine bxA 5 #[.int .i64 0, .string (⟨#[]⟩ : ByteArray), .int .i64 0] 91 ?_; intro gb181 hg w23 hbox hb; have BK181 := sd (hbox); have GW181 := gem hg HB; have GE181 := GW181; replace HO_2 := sd (Kd.R_below (Kd.R_elderB zq127 gb181 (Nat.le_of_eq hg.symm)) hb); replace HB := hbm HB hb; clear hb hbox hg) | ((with_reducible refine gate_dst (N := 7) rfl ?_); refine bxA 7 #[.int .i64 0, .int .i64 0] 93 ?_; intro gb182 hg w24 hbox hb; have BK182 := sd (hbox); have GW182 := gem hg HB; have GE182 := GW182; have NB181_182 := nlm hg BK181; have NB182_181 := ngm hg BK181; replace HO_2 := rbm HO_2 hb; replace BK181 := bkm BK181 hb; replace HB := hbm HB hb; clear hb hbox hg; have hnb25 := NB181_182.out; have hnc25 := NB182_181.out; obtain ⟨_, _, _, _, _, _⟩ := bk3 BK181; obtain ⟨_, _, _, _⟩ := bk2 BK182))
        repeat (go_quiet (first | (go_at_call 50; (with_reducible refine (words_word.calls kj2 a0 x3_1 t175 t176 t177 t178 t179 t180 _ A12.out).mono ?_); rintro e w22 ⟨rfl, hb⟩; replace HO_2 := rbm HO_2 hb; replace HB := hbm HB hb; clear hb) | ((with_reducible refine gate_dst (N := 5) rfl ?_); refine bxA 5 #[.int .i64 0, .string (⟨#[]⟩ : ByteArray), .int .i64 0] 91 ?_; intro gb181 hg w23 hbox hb; have BK181 := sd (hbox); have GW181 := gem hg HB; have GE181 := GW181; replace HO_2 := sd (Kd.R_below (Kd.R_elderB zq127 gb181 (Nat.le_of_eq hg.symm)) hb); replace HB := hbm HB hb; clear hb hbox hg) | ((with_reducible refine gate_dst (N := 7) rfl ?_); refine bxA 7 #[.int .i64 0, .int .i64 0] 93 ?_; intro gb182 hg w24 hbox hb; have BK182 := sd (hbox); have GW182 := gem hg HB; have GE182 := GW182; have NB181_182 := nlm hg BK181; have NB182_181 := ngm hg BK181; replace HO_2 := rbm HO_2 hb; replace BK181 := bkm BK181 hb; replace HB := hbm HB hb; clear hb hbox hg; have hnb25 := NB181_182.out; have hnc25 := NB182_181.out; obtain ⟨_, _, _, _, _, _⟩ := bk3 BK181; obtain ⟨_, _, _, _⟩ := bk2 BK182)); try go_wp2_with (first | (go_at_call 50; (with_reducible refine (words_word.calls kj2 a0 x3_1 t175 t176 t177 t178 t179 t180 _ A12.out).mono ?_); rintro e w22 ⟨rfl, hb⟩; replace HO_2 := rbm HO_2 hb; replace HB := hbm HB hb; clear hb) | ((with_reducible refine gate_dst (N := 5) rfl ?_); refine bxA 5 #[.int .i64 0, .string (⟨#[]⟩ : ByteArray), .int .i64 0] 91 ?_; intro gb181 hg w23 hbox hb; have BK181 := sd (hbox); have GW181 := gem hg HB; have GE181 := GW181; replace HO_2 := sd (Kd.R_below (Kd.R_elderB zq127 gb181 (Nat.le_of_eq hg.symm)) hb); replace HB := hbm HB hb; clear hb hbox hg) | ((with_reducible refine gate_dst (N := 7) rfl ?_); refine bxA 7 #[.int .i64 0, .int .i64 0] 93 ?_; intro gb182 hg w24 hbox hb; have BK182 := sd (hbox); have GW182 := gem hg HB; have GE182 := GW182; have NB181_182 := nlm hg BK181; have NB182_181 := ngm hg BK181; replace HO_2 := rbm HO_2 hb; replace BK181 := bkm BK181 hb; replace HB := hbm HB hb; clear hb hbox hg; have hnb25 := NB181_182.out; have hnc25 := NB182_181.out; obtain ⟨_, _, _, _, _, _⟩ := bk3 BK181; obtain ⟨_, _, _, _⟩ := bk2 BK182)))
        go_ret3
        exact ⟨_, zq8, zq43, zq128⟩
       exact absurd H (by simp)
      exact absurd H (by simp)
     replace c7 := Bool.eq_false_iff.mpr c7
     subst c7
     rw [if_neg Bool.false_ne_true] at H
     simp only [Option.some.injEq, Prod.mk.injEq] at H
     obtain ⟨rfl, rfl, rfl⟩ := H
     go_wp2
     repeat (go_quiet (fail); try go_wp2)
     go_ret3
     exact ⟨_, zq8, zq127, zq34⟩
mutual
def num_formed.j0 : Nat → ByteArray → Bool → Option (Bool)
 | 0, _, _ => none
 | k + 1, x0, x3 => if x3 = true then (if 1 ≤ (x0.size : Int) then (num_formed.j1 k (x0.extract 1 x0.size) x3) else (none)) else (num_formed.j1 k x0 x3)
def num_formed.j1 : Nat → ByteArray → Bool → Option (Bool)
 | 0, _, _ => none
 | k + 1, x0, x3 => if x0.toList = ([] : List UInt8) then (num_formed.j2 k x0 true) else (if 0 < (x0.size : Int) then (if (bt x0 0) = 48 then (if x3 = true then (num_formed.j2 k x0 true) else (num_formed.j2 k x0 (decide ((x0.size : Int) > 1)))) else (num_formed.j2 k x0 false)) else (none))
def num_formed.j2 : Nat → ByteArray → Bool → Option (Bool)
 | 0, _, _ => none
 | k + 1, x0, x30 => if x30 = true then (some false) else (num_formed.l0 k x0 (x0.size : Int) 0)
def num_formed.l0 : Nat → ByteArray → Int → Int → Option (Bool)
 | 0, _, _, _ => none
 | k + 1, x0, x32, x33 => if x33 < x32 then (if 0 ≤ x33 then (if x33 < (x0.size : Int) then (if (bt x0 x33) < 48 then (some false) else (if (bt x0 x33) > 57 then (some false) else (num_formed.l0 k x0 x32 (wrap64 (x33 + 1))))) else (none)) else (none)) else (some true)
end
def num_formed.f (k : Nat) (a0 : ByteArray) : Option (Bool) := if (a0.size : Int) > 0 then (if 0 < (a0.size : Int) then (num_formed.j0 k a0 ((bt a0 0) == 45)) else (none)) else (num_formed.j0 k a0 false)
theorem num_formed.calls (k : Nat) (a0 : ByteArray) (r : Bool) (w : World) (h : num_formed.f k a0 = some r) :
  Calls Tryd.prog 93 #[.string a0] w fun e w' => e = .returned (.bool r) ∧ Drawn0 w w' := by
 have H := h
 clear h
 unfold num_formed.f at H
 have HC2 := sd H
 clear H
 go_enter Tryd.func93, Tryd.ntmps93
 go_upto_region 1 with (fail)
 go_cut [3] (fun v3 wc => ∃ (kq : Nat) (x3_1 : Bool), v3 = .bool x3_1 ∧ Aside0 (num_formed.j0 kq a0 x3_1 = some r) ∧ Aside0 (kq ≤ k) ∧ Drawn0 w wc)
 case first =>
  have H := HC2.out
  clear HC2
  replace H := ifI H
  rcases H with ⟨c3, H⟩ | ⟨c3, H⟩
  ·have c3b0 : decide (0 < (a0.size : Int)) = true := decide_eq_true c3
   have c3b1 : decide (0 < a0.size) = true := decide_eq_true (by omega)
   clear c3
   (first | rw [c3b0] | (simp only [i64_w, i32_w]; rw [c3b0]) | skip)
   replace H := ifI H
   rcases H with ⟨c4, H⟩ | ⟨c4, H⟩
   ·have c4b0 : decide (0 < (a0.size : Int)) = true := decide_eq_true c4
    have c4b1 : decide (0 < a0.size) = true := decide_eq_true (by omega)
    clear c4
    have H' := sd H
    clear H
    have p5 : 0 ≤ (0 : Int) := (by omega)
    have q5 : 0 < a0.size := (by have : (0 : Int) < (a0.size : Int) := od; omega)
    have hx5 : ∀ h : 0 < a0.size, ((a0[0]'h).toNat : Int) = bt a0 0 := bt_at a0 0
    clear p5
    have qi5 : (0 < (a0.size : Int)) = True := eq_true (od)
    replace q5 := eq_true q5
    go_wp2
    go_meet
    case rel => exact ⟨_, (((bt a0 0) == 45)), zq1, H', ⟨by first | omega | exact Nat.le_refl _⟩, zq23⟩
   exact absurd H (by simp)
  have c3b0 : decide (0 < (a0.size : Int)) = false := decide_eq_false c3
  have c3b1 : decide (0 < a0.size) = false := decide_eq_false (by omega)
  clear c3
  (first | rw [c3b0] | (simp only [i64_w, i32_w]; rw [c3b0]) | skip)
  have H' := sd H
  clear H
  go_wp2
  go_meet
  case rel => exact ⟨_, (false), zq1, H', ⟨by first | omega | exact Nat.le_refl _⟩, zq23⟩
 case rest =>
  clear HC2
  try clear p2
  try clear c3
  try clear c3b0
  try clear c3b1
  try clear c4
  try clear c4b0
  try clear c4b1
  try clear p5
  try clear q5
  try clear hx5
  try clear qi5
  try clear p5
  try clear q5
  obtain ⟨kq, x3_1, rfl, HA, HJ1, ⟨mc1, rfl⟩⟩ := hcut
  cases kq with
  | zero => exact absurd HA.out (by simp [num_formed.j0])
  | succ kj1 =>
   have H := HA.out
   clear HA
   simp only [num_formed.j0] at H
   have HC6 := sd H
   clear H
   go_upto_if 13 with (fail)
   go_cut [0] (fun v0 wc => ∃ (kq : Nat) (x0_5 : ByteArray), v0 = .string x0_5 ∧ Aside0 (num_formed.j1 kq x0_5 x3_1 = some r) ∧ Aside0 (kq ≤ kj1) ∧ Drawn0 w wc)
   case first =>
    have H := HC6.out
    clear HC6
    by_cases c7 : x3_1 = true
    ·subst c7
     rw [if_pos rfl] at H
     replace H := ifI H
     rcases H with ⟨c8, H⟩ | ⟨c8, H⟩
     ·have c8b0 := eq_true c8
      have c8b1 : decide (1 ≤ (a0.size : Int)) = true := decide_eq_true c8
      clear c8
      have H' := sd H
      clear H
      go_wp2
      go_meet
      case rel => exact ⟨_, (a0.extract 1 a0.size), zq1, H', ⟨zq4⟩, zq23⟩
     exact absurd H (by simp)
    replace c7 := Bool.eq_false_iff.mpr c7
    subst c7
    rw [if_neg Bool.false_ne_true] at H
    have H' := sd H
    clear H
    go_wp2
    go_meet
    case rel => exact ⟨_, (a0), zq1, H', ⟨zq4⟩, zq23⟩
   case rest =>
    clear HC6
    try clear c1
    try clear p2
    try clear c3
    try clear c3b0
    try clear c3b1
    try clear c4
    try clear c4b0
    try clear c4b1
    try clear p5
    try clear q5
    try clear hx5
    try clear qi5
    try clear c7
    try clear c8
    try clear c8b0
    try clear c8b1
    try clear p2
    try clear p5
    try clear q5
    obtain ⟨kq, x0_5, rfl, HA, HJ5, ⟨mc5, rfl⟩⟩ := hcut
    cases kq with
    | zero => exact absurd HA.out (by simp [num_formed.j1])
    | succ kj5 =>
     have H := HA.out
     clear HA
     simp only [num_formed.j1] at H
     have HC9 := sd H
     clear H
     go_upto_region 4 with (fail)
     go_cut [30] (fun v30 wc => ∃ (kq : Nat) (x30_8 : Bool), v30 = .bool x30_8 ∧ Aside0 (num_formed.j2 kq x0_5 x30_8 = some r) ∧ Aside0 (kq ≤ kj5) ∧ Drawn0 w wc)
     case first =>
      have H := HC9.out
      clear HC9
      replace H := ifI H
      rcases H with ⟨c10, H⟩ | ⟨c10, H⟩
      ·obtain ⟨c10b0, c10b1⟩ := eqI c10
       clear c10
       (first | rw [c10b0] | (simp only [i64_w, i32_w]; rw [c10b0]) | skip)
       have H' := sd H
       clear H
       go_wp2
       go_meet
       case rel => exact ⟨_, (true), zq1, H', ⟨zq132⟩, zq23⟩
      obtain ⟨c10b0, c10b1⟩ := neI c10
      (first | rw [c10b0] | (simp only [i64_w, i32_w]; rw [c10b0]) | skip)
      replace H := ifI H
      rcases H with ⟨c11, H⟩ | ⟨c11, H⟩
      ·have c11b0 : decide (0 < (x0_5.size : Int)) = true := decide_eq_true c11
       have c11b1 : decide (0 < x0_5.size) = true := decide_eq_true (by omega)
       clear c11
       replace H := ifI H
       rcases H with ⟨c13, H⟩ | ⟨c13, H⟩
       ·obtain ⟨c13b0, c13b1⟩ := eqI c13
        clear c13
        by_cases c14 : x3_1 = true
        ·subst c14
         rw [if_pos rfl] at H
         have H' := sd H
         clear H
         have p12 : 0 ≤ (0 : Int) := (by omega)
         have q12 : 0 < x0_5.size := (by have : (0 : Int) < (x0_5.size : Int) := od; omega)
         have hx12 : ∀ h : 0 < x0_5.size, ((x0_5[0]'h).toNat : Int) = bt x0_5 0 := bt_at x0_5 0
         clear p12
         have qi12 : (0 < (x0_5.size : Int)) = True := eq_true (od)
         replace q12 := eq_true q12
         go_wp2
         go_meet
         case rel => exact ⟨_, (true), zq1, H', ⟨zq132⟩, zq23⟩
        replace c14 := Bool.eq_false_iff.mpr c14
        subst c14
        rw [if_neg Bool.false_ne_true] at H
        have H' := sd H
        clear H
        have p12 : 0 ≤ (0 : Int) := (by omega)
        have q12 : 0 < x0_5.size := (by have : (0 : Int) < (x0_5.size : Int) := od; omega)
        have hx12 : ∀ h : 0 < x0_5.size, ((x0_5[0]'h).toNat : Int) = bt x0_5 0 := bt_at x0_5 0
        clear p12
        have qi12 : (0 < (x0_5.size : Int)) = True := eq_true (od)
        replace q12 := eq_true q12
        go_wp2
        go_meet
        case rel => exact ⟨_, (decide ((x0_5.size : Int) > 1)), zq1, H', ⟨zq132⟩, zq23⟩
       obtain ⟨c13b0, c13b1⟩ := neI c13
       have H' := sd H
       clear H
       have p12 : 0 ≤ (0 : Int) := (by omega)
       have q12 : 0 < x0_5.size := (by have : (0 : Int) < (x0_5.size : Int) := od; omega)
       have hx12 : ∀ h : 0 < x0_5.size, ((x0_5[0]'h).toNat : Int) = bt x0_5 0 := bt_at x0_5 0
       clear p12
       have qi12 : (0 < (x0_5.size : Int)) = True := eq_true (od)
       replace q12 := eq_true q12
       go_wp2
       go_meet
       case rel => exact ⟨_, (false), zq1, H', ⟨zq132⟩, zq23⟩
      exact absurd H (by simp)
     case rest =>
      clear HC9
      try clear c1
      try clear p1
      try clear q1
      try clear hx1
      try clear qi1
      try clear p2
      try clear c3
      try clear c3b0
      try clear c3b1
      try clear c4
      try clear c4b0
      try clear c4b1
      try clear c5
      try clear p5
      try clear q5
      try clear hx5
      try clear qi5
      try clear c7
      try clear c8
      try clear c8b0
      try clear c8b1
      try clear c9
      try clear c10
      try clear c10b0
      try clear c10b1
      try clear c11
      try clear c11b0
      try clear c11b1
      try clear p12
      try clear q12
      try clear hx12
      try clear qi12
      try clear c13
      try clear c13b0
      try clear c13b1
      try clear c14
      try clear p12
      try clear p2
      try clear p5
      try clear q12
      try clear q5
      obtain ⟨kq, x30_8, rfl, HA, HJ8, ⟨mc8, rfl⟩⟩ := hcut
      cases kq with
      | zero => exact absurd HA.out (by simp [num_formed.j2])
      | succ kj8 =>
       have H := HA.out
       clear HA
       simp only [num_formed.j2] at H
       by_cases c15 : x30_8 = true
       ·subst c15
        rw [if_pos rfl] at H
        obtain rfl := Option.some.inj H
        go_wp2
        go_ret
        exact ⟨zq1, zq23⟩
       replace c15 := Bool.eq_false_iff.mpr c15
       subst c15
       rw [if_neg Bool.false_ne_true] at H
       have H' := sd H
       clear H
       go_wp2
       go_loopg [33] kj8 (fun kq v33 w' => ∃ (x33_4 : Int), v33 = .int .i64 x33_4 ∧ Aside0 (num_formed.l0 kq x0_5 (x0_5.size : Int) x33_4 = some r) ∧ Aside0 (kq ≤ kj8) ∧ Drawn0 w w')
       case atStart => exact ⟨(0), zq1, H', ⟨Nat.le_refl _⟩, zq23⟩
       case round =>
        clear H'
        try clear c1
        try clear p1
        try clear q1
        try clear hx1
        try clear qi1
        try clear p2
        try clear c3
        try clear c3b0
        try clear c3b1
        try clear c4
        try clear c4b0
        try clear c4b1
        try clear c5
        try clear p5
        try clear q5
        try clear hx5
        try clear qi5
        try clear c7
        try clear c8
        try clear c8b0
        try clear c8b1
        try clear c9
        try clear c10
        try clear c10b0
        try clear c10b1
        try clear c11
        try clear c11b0
        try clear c11b1
        try clear p12
        try clear q12
        try clear hx12
        try clear qi12
        try clear c13
        try clear c13b0
        try clear c13b1
        try clear c14
        try clear c15
        try clear p1
        try clear p12
        try clear p2
        try clear p5
        try clear q1
        try clear q12
        try clear q5
        obtain ⟨x33_4, rfl, HA, HK4, ⟨m4, rfl⟩⟩ := hrel
        cases gk with
        | zero => exact absurd HA.out (by simp [num_formed.l0])
        | succ k4 =>
         have H := HA.out
         clear HA
         simp only [num_formed.l0] at H
         replace H := ifI H
         rcases H with ⟨c16, H⟩ | ⟨c16, H⟩
         ·have c16b0 : decide (x33_4 < (x0_5.size : Int)) = true := decide_eq_true c16
          clear c16
          replace H := ifI H
          rcases H with ⟨c17, H⟩ | ⟨c17, H⟩
          ·have c17b0 : decide (0 ≤ x33_4) = true := decide_eq_true c17
           clear c17
           replace H := ifI H
           rcases H with ⟨c18, H⟩ | ⟨c18, H⟩
           ·have c18b0 : decide (x33_4 < (x0_5.size : Int)) = true := decide_eq_true c18
            clear c18
            replace H := ifI H
            rcases H with ⟨c20, H⟩ | ⟨c20, H⟩
            ·have c20b0 : decide ((bt x0_5 x33_4) < 48) = true := decide_eq_true c20
             clear c20
             obtain rfl := Option.some.inj H
             have p19 : 0 ≤ (x33_4 : Int) := od
             have q19 : x33_4 < (x0_5.size : Int) := od
             have hx19 := bt_at x0_5 x33_4
             replace p19 := eq_true p19
             replace q19 := eq_true q19
             go_wp2
             go_ret
             exact ⟨zq1, zq23⟩
            have c20b0 : decide ((bt x0_5 x33_4) < 48) = false := decide_eq_false c20
            clear c20
            replace H := ifI H
            rcases H with ⟨c22, H⟩ | ⟨c22, H⟩
            ·have c22b0 : decide (57 < (bt x0_5 x33_4)) = true := decide_eq_true c22
             clear c22
             obtain rfl := Option.some.inj H
             have p19 : 0 ≤ (x33_4 : Int) := od
             have q19 : x33_4 < (x0_5.size : Int) := od
             have hx19 := bt_at x0_5 x33_4
             replace p19 := eq_true p19
             replace q19 := eq_true q19
             have p21 : 0 ≤ (x33_4 : Int) := od
             have q21 : x33_4 < (x0_5.size : Int) := od
             have hx21 := bt_at x0_5 x33_4
             replace p21 := eq_true p21
             replace q21 := eq_true q21
             go_wp2
             go_ret
             exact ⟨zq1, zq23⟩
            have c22b0 : decide (57 < (bt x0_5 x33_4)) = false := decide_eq_false c22
            clear c22
            have H' := sd H
            clear H
            have p19 : 0 ≤ (x33_4 : Int) := od
            have q19 : x33_4 < (x0_5.size : Int) := od
            have hx19 := bt_at x0_5 x33_4
            replace p19 := eq_true p19
            replace q19 := eq_true q19
            have p21 : 0 ≤ (x33_4 : Int) := od
            have q21 : x33_4 < (x0_5.size : Int) := od
            have hx21 := bt_at x0_5 x33_4
            replace p21 := eq_true p21
            replace q21 := eq_true q21
            go_wp2
            go_roundg k4
            case measure => have := HJ1.out; have := HJ5.out; have := HJ8.out; have := HK4.out; omega
            case rel => exact ⟨(wrap64 (x33_4 + 1)), zq1, H', ⟨by have := HJ1.out; have := HJ5.out; have := HJ8.out; have := HK4.out; omega⟩, zq23⟩
           exact absurd H (by simp)
          exact absurd H (by simp)
         have c16b0 : decide (x33_4 < (x0_5.size : Int)) = false := decide_eq_false c16
         clear c16
         obtain rfl := Option.some.inj H
         go_wp2
         go_ret
         exact ⟨zq1, zq23⟩
theorem formed_l0 (s : ByteArray) (hs : s.size ≤ 140737488351232) (d : Nat) : ∀ i : Nat, i + d = s.size → Ev (fun k => num_formed.l0 k s (s.size : Int) (i : Int)) ((s.data.toList.drop i).all isDig) := by
 induction d with
 | zero =>
  intro i hi
  refine Ev.step (fun k => by rw [num_formed.l0]) ?_
  refine Ev.no (by omega) (Ev.is ?_)
  rw [List.drop_eq_nil_of_le (by rw [← size_eq']; omega)]; rfl
 | succ d ih =>
  intro i hi
  have hl : i < s.data.toList.length := by rw [← size_eq']; omega
  have hd : s.data.toList.drop i = s.data.toList[i] :: s.data.toList.drop (i + 1) := List.drop_eq_getElem_cons hl
  have hb : bt s (i : Int) = (s.data.toList[i].toNat : Int) := by rw [bt_eq, Int.toNat_natCast, List.getD_eq_getElem?_getD, List.getElem?_eq_getElem hl]; rfl
  have hc := isDig_iff s.data.toList[i]
  rw [← hb] at hc
  refine Ev.step (fun k => by rw [num_formed.l0]) ?_
  refine Ev.yes (by omega) (Ev.yes (by omega) (Ev.yes (by omega) (Ev.both (fun h => Ev.is ?_) (fun h => Ev.both (fun h2 => Ev.is ?_) (fun h2 => ?_)))))
  ·rw [hd, List.all_cons]
   have : isDig s.data.toList[i] = false := by rw [← Bool.not_eq_true, hc]; omega
   rw [this]; rfl
  ·rw [hd, List.all_cons]
   have : isDig s.data.toList[i] = false := by rw [← Bool.not_eq_true, hc]; omega
   rw [this]; rfl
  ·rw [hd, List.all_cons, hc.mpr ⟨by omega, by omega⟩, Bool.true_and, show wrap64 ((i : Int) + 1) = ((i + 1 : Nat) : Int) by unfold wrap64; omega]
   exact ih (i + 1) (by omega)
theorem formed_j2 (s : ByteArray) (hs : s.size ≤ 140737488351232) (b : Bool) : Ev (fun k => num_formed.j2 k s b) (!b && s.data.toList.all isDig) := by
 refine Ev.step (fun k => by rw [num_formed.j2]) ?_
 refine Ev.both (fun h => Ev.is (by rw [h]; rfl)) (fun h => ?_)
 have := formed_l0 s hs s.size 0 (by omega)
 rw [Bool.not_eq_true] at h
 rw [h]
 exact this
theorem formed_j1 (s : ByteArray) (hs : s.size ≤ 140737488351232) (b : Bool) : Ev (fun k => num_formed.j1 k s b) (formedM s.data.toList b) := by
 refine Ev.step (fun k => by rw [num_formed.j1]) ?_
 have hsz := size_eq' s
 have hb : bt s 0 = ((s.data.toList.getD 0 0).toNat : Int) := bt_eq s 0
 rw [ByteArray.toList_eq]
 generalize hl : s.data.toList = l at *
 cases l with
 | nil =>
  refine Ev.yes rfl ?_
  have := formed_j2 s hs true
  rw [hl] at this
  exact this
 | cons c r =>
  have e : formedM (c :: r) b = (!(c == 48 && (b || decide (1 < (c :: r).length))) && (c :: r).all isDig) := by simp [formedM]
  rw [e]
  have h48 : bt s 0 = 48 ↔ (c == 48) = true := by
   rw [hb, beq_iff_eq]
   exact byte_is c 48
  refine Ev.no (by simp) (Ev.yes (by simp only [List.length_cons] at hsz; omega) (Ev.both (fun h => ?_) (fun h => ?_)))
  ·rw [h48.mp h]
   refine Ev.both (fun hb => ?_) (fun hb => ?_)
   ·have := formed_j2 s hs true
    rw [hl] at this; rw [hb]; exact this
   ·have := formed_j2 s hs (decide ((s.size : Int) > 1))
    rw [hl] at this; rw [Bool.not_eq_true] at hb; rw [hb]
    rw [show decide ((s.size : Int) > 1) = decide (1 < (c :: r).length) by rw [hsz, decide_eq_decide, List.length_cons]; omega] at this ⊢
    exact this
  ·rw [h48] at h
   rw [Bool.not_eq_true _ |>.mp h]
   have := formed_j2 s hs false
   rw [hl] at this; exact this
theorem formed_ev (s : ByteArray) (hs : s.size ≤ 140737488351232) : Ev (fun k => num_formed.f k s) (formedL s.data.toList) := by
 unfold num_formed.f
 have hsz := size_eq' s
 have hb : bt s 0 = ((s.data.toList.getD 0 0).toNat : Int) := bt_eq s 0
 have hx := Lib.extract_to_end s 1
 have hxs : (s.extract 1 s.size).size ≤ 140737488351232 := by rw [size_eq', hx, List.length_drop]; omega
 have key : Ev (fun k => num_formed.j0 k s (negOf s.data.toList)) (formedL s.data.toList) := by
  refine Ev.step (fun k => by rw [num_formed.j0]) ?_
  refine Ev.both (fun h => ?_) (fun h => ?_)
  ·have hp : 1 ≤ s.size := by
    rw [hsz]; cases hl : s.data.toList with
    | nil => rw [hl] at h; simp [negOf] at h
    | cons c r => simp
   refine Ev.yes (by omega) ?_
   have := formed_j1 (s.extract 1 s.size) hxs (negOf s.data.toList)
   rw [hx] at this
   have e : formedL s.data.toList = formedM (s.data.toList.drop 1) (negOf s.data.toList) := by simp [formedL, formedM, magOf, h]
   rw [e]; exact this
  ·have := formed_j1 s hs (negOf s.data.toList)
   have e : formedL s.data.toList = formedM s.data.toList (negOf s.data.toList) := by simp [formedL, formedM, magOf, h]
   rw [e]; exact this
 have hn : s.size > 0 → (bt s 0 == 45) = negOf s.data.toList := by
  intro h
  rw [hb]
  cases hl : s.data.toList with
  | nil => rw [hl, List.length_nil] at hsz; omega
  | cons c r =>
   simp only [negOf, List.getD_cons_zero, List.head?_cons]
   rw [Bool.eq_iff_iff, beq_iff_eq, beq_iff_eq, Option.some_inj]
   exact byte_is c 45
 refine Ev.both (fun h => Ev.yes h ?_) (fun h => ?_)
 ·rw [hn (by omega)]; exact key
 ·have e : negOf s.data.toList = false := by
   cases hl : s.data.toList with
   | nil => rfl
   | cons c r => rw [hl] at hsz; simp at hsz; omega
  rw [e] at key; exact key
theorem formed_calls (s : ByteArray) (hs : s.size ≤ 140737488351232) (w : World) :
  Calls Tryd.prog 93 #[.string s] w fun e w' => e = .returned (.bool (formedL s.data.toList)) ∧ Drawn0 w w' := by
 obtain ⟨k, hk⟩ := (formed_ev s hs).rounds
 exact num_formed.calls k s _ w hk
def num_Add.f (a0 : Int) (a1 : Int) : Option (Int × Bool) := if ((decide ((wrap64 (a0 + a1)) > a0)) != (decide (a1 > 0))) = true then (if a1 = 0 then (some (wrap64 (a0 + a1), true)) else (some (0, false))) else (some (wrap64 (a0 + a1), true))
theorem num_Add.calls (a0 a1 r1 : Int) (r2 : Bool) (w : World) (h : num_Add.f a0 a1 = some (r1, r2)) :
  Calls Tryd.prog 94 #[.int .i64 a0, .int .i64 a1] w fun e w' => e = .returned (.tuple #[.int .i64 r1, .bool r2]) ∧ Drawn0 w w' := by
 have H := h
 clear h
 unfold num_Add.f at H
 replace H := ifI H
 rcases H with ⟨c3, H⟩ | ⟨c3, H⟩
 ·have c3b0 : ((decide ((wrap64 (a0 + a1)) > a0)) != (decide (a1 > 0))) = true := c3
  (try (have c3b1 : decide ((decide ((wrap64 (a0 + a1)) > a0)) = (decide (a1 > 0))) = false := by simpa using c3))
  (try (have c3b2 : ((decide ((wrap64 (a0 + a1)) > a0)) == (decide (a1 > 0))) = false := by simpa using c3))
  (try (have c3b3 : ¬ ((decide ((wrap64 (a0 + a1)) > a0)) = (decide (a1 > 0))) := by simpa using c3))
  clear c3
  replace H := ifI H
  rcases H with ⟨c4, H⟩ | ⟨c4, H⟩
  ·obtain ⟨c4b0, c4b1⟩ := eqI c4
   clear c4
   simp only [Option.some.injEq, Prod.mk.injEq] at H
   obtain ⟨rfl, rfl⟩ := H
   go_enter Tryd.func94, Tryd.ntmps94
   go_wp2
   go_ret2
   exact ⟨zq1, zq23⟩
  obtain ⟨c4b0, c4b1⟩ := neI c4
  simp only [Option.some.injEq, Prod.mk.injEq] at H
  obtain ⟨rfl, rfl⟩ := H
  go_enter Tryd.func94, Tryd.ntmps94
  go_wp2
  go_ret2
  exact ⟨zq1, zq23⟩
 have c3b0 : ((decide ((wrap64 (a0 + a1)) > a0)) != (decide (a1 > 0))) = false := by simpa using c3
 (try (have c3b1 : decide ((decide ((wrap64 (a0 + a1)) > a0)) = (decide (a1 > 0))) = true := by simpa using c3))
 (try (have c3b2 : ((decide ((wrap64 (a0 + a1)) > a0)) == (decide (a1 > 0))) = true := by simpa using c3))
 clear c3
 simp only [Option.some.injEq, Prod.mk.injEq] at H
 obtain ⟨rfl, rfl⟩ := H
 go_enter Tryd.func94, Tryd.ntmps94
 go_wp2
 go_ret2
 exact ⟨zq1, zq23⟩
theorem num_Add_eq (a b : Int) (ha : I64 a) (hb : I64 b) : num_Add.f a b = some (fit (a + b)) := by
 unfold num_Add.f
 unfold I64 at ha hb
 have hw : I64 (a + b) → wrap64 (a + b) = a + b := by unfold I64; unfold wrap64; omega
 have hlo : a + b < -9223372036854775808 → wrap64 (a + b) = a + b + 18446744073709551616 := by unfold wrap64; omega
 have hhi : 9223372036854775807 < a + b → wrap64 (a + b) = a + b - 18446744073709551616 := by unfold wrap64; omega
 by_cases h : I64 (a + b)
 ·rw [hw h, fit_yes h]
  by_cases hb0 : b = 0
  ·subst hb0; simp
  by_cases hb1 : b > 0
  ·rw [if_neg (by rw [decide_eq_true (show a + b > a by omega), decide_eq_true hb1]; decide)]
  rw [if_neg (by rw [decide_eq_false (show ¬ a + b > a by omega), decide_eq_false hb1]; decide)]
 rw [fit_no h]
 unfold I64 at h
 by_cases h1 : a + b < -9223372036854775808
 ·rw [hlo h1, if_pos (by rw [decide_eq_true (show a + b + 18446744073709551616 > a by omega), decide_eq_false (show ¬ b > 0 by omega)]; decide), if_neg (by omega)]
 rw [hhi (by omega), if_pos (by rw [decide_eq_false (show ¬ a + b - 18446744073709551616 > a by omega), decide_eq_true (show b > 0 by omega)]; decide), if_neg (by omega)]
def num_Sub.f (a0 : Int) (a1 : Int) : Option (Int × Bool) := if ((decide ((wrap64 (a0 - a1)) < a0)) != (decide (a1 > 0))) = true then (if a1 = 0 then (some (wrap64 (a0 - a1), true)) else (some (0, false))) else (some (wrap64 (a0 - a1), true))
theorem num_Sub.calls (a0 a1 r1 : Int) (r2 : Bool) (w : World) (h : num_Sub.f a0 a1 = some (r1, r2)) :
  Calls Tryd.prog 95 #[.int .i64 a0, .int .i64 a1] w fun e w' => e = .returned (.tuple #[.int .i64 r1, .bool r2]) ∧ Drawn0 w w' := by
 have H := h
 clear h
 unfold num_Sub.f at H
 replace H := ifI H
 rcases H with ⟨c3, H⟩ | ⟨c3, H⟩
 ·have c3b0 : ((decide ((wrap64 (a0 - a1)) < a0)) != (decide (a1 > 0))) = true := c3
  (try (have c3b1 : decide ((decide ((wrap64 (a0 - a1)) < a0)) = (decide (a1 > 0))) = false := by simpa using c3))
  (try (have c3b2 : ((decide ((wrap64 (a0 - a1)) < a0)) == (decide (a1 > 0))) = false := by simpa using c3))
  (try (have c3b3 : ¬ ((decide ((wrap64 (a0 - a1)) < a0)) = (decide (a1 > 0))) := by simpa using c3))
  clear c3
  replace H := ifI H
  rcases H with ⟨c4, H⟩ | ⟨c4, H⟩
  ·obtain ⟨c4b0, c4b1⟩ := eqI c4
   clear c4
   simp only [Option.some.injEq, Prod.mk.injEq] at H
   obtain ⟨rfl, rfl⟩ := H
   go_enter Tryd.func95, Tryd.ntmps95
   go_wp2
   go_ret2
   exact ⟨zq1, zq23⟩
  obtain ⟨c4b0, c4b1⟩ := neI c4
  simp only [Option.some.injEq, Prod.mk.injEq] at H
  obtain ⟨rfl, rfl⟩ := H
  go_enter Tryd.func95, Tryd.ntmps95
  go_wp2
  go_ret2
  exact ⟨zq1, zq23⟩
 have c3b0 : ((decide ((wrap64 (a0 - a1)) < a0)) != (decide (a1 > 0))) = false := by simpa using c3
 (try (have c3b1 : decide ((decide ((wrap64 (a0 - a1)) < a0)) = (decide (a1 > 0))) = true := by simpa using c3))
 (try (have c3b2 : ((decide ((wrap64 (a0 - a1)) < a0)) == (decide (a1 > 0))) = true := by simpa using c3))
 clear c3
 simp only [Option.some.injEq, Prod.mk.injEq] at H
 obtain ⟨rfl, rfl⟩ := H
 go_enter Tryd.func95, Tryd.ntmps95
 go_wp2
 go_ret2
 exact ⟨zq1, zq23⟩
theorem num_Sub_eq (a b : Int) (ha : I64 a) (hb : I64 b) : num_Sub.f a b = some (fit (a - b)) := by
 unfold num_Sub.f
 unfold I64 at ha hb
 have hw : I64 (a - b) → wrap64 (a - b) = a - b := by unfold I64; unfold wrap64; omega
 have hlo : a - b < -9223372036854775808 → wrap64 (a - b) = a - b + 18446744073709551616 := by unfold wrap64; omega
 have hhi : 9223372036854775807 < a - b → wrap64 (a - b) = a - b - 18446744073709551616 := by unfold wrap64; omega
 by_cases h : I64 (a - b)
 ·rw [hw h, fit_yes h]
  by_cases hb0 : b = 0
  ·subst hb0; simp
  by_cases hb1 : b > 0
  ·rw [if_neg (by rw [decide_eq_true (show a - b < a by omega), decide_eq_true hb1]; decide)]
  rw [if_neg (by rw [decide_eq_false (show ¬ a - b < a by omega), decide_eq_false hb1]; decide)]
 rw [fit_no h]
 unfold I64 at h
 by_cases h1 : a - b < -9223372036854775808
 ·rw [hlo h1, if_pos (by rw [decide_eq_false (show ¬ a - b + 18446744073709551616 < a by omega), decide_eq_true (show b > 0 by omega)]; decide), if_neg (by omega)]
 rw [hhi (by omega), if_pos (by rw [decide_eq_true (show a - b - 18446744073709551616 < a by omega), decide_eq_false (show ¬ b > 0 by omega)]; decide), if_neg (by omega)]
def num_Mul.f (a0 : Int) (a1 : Int) : Option (Int × Bool) := if I64 a0 ∧ I64 a1 then some (fit (a0 * a1)) else none
theorem num_Mul.calls (a0 a1 r1 : Int) (r2 : Bool) (w : World) (h : num_Mul.f a0 a1 = some (r1, r2)) :
  Calls Tryd.prog 96 #[.int .i64 a0, .int .i64 a1] w fun e w' => e = .returned (.tuple #[.int .i64 r1, .bool r2]) ∧ Drawn0 w w' := by
 unfold num_Mul.f at h
 split at h <;> simp only [Option.some.injEq, reduceCtorEq] at h
 rename_i hb
 have h0 : num_size.f a0 = some (a0.natAbs : Int) := by unfold num_size.f; rw [if_pos hb.1]
 have h1 : num_size.f a1 = some (a1.natAbs : Int) := by unfold num_size.f; rw [if_pos hb.2]
 have h2 : bits_Mul64.f (a0.natAbs : Int) (a1.natAbs : Int) = some (((a0.natAbs * a1.natAbs : Nat) : Int) / 18446744073709551616, ((a0.natAbs * a1.natAbs : Nat) : Int) % 18446744073709551616) := by
  have := hb.1; have := hb.2
  unfold I64 at *
  unfold bits_Mul64.f; rw [if_pos (by omega)]; simp
 obtain ⟨x, hx⟩ : ∃ x, x = ((a0.natAbs * a1.natAbs : Nat) : Int) / 18446744073709551616 := ⟨_, rfl⟩
 obtain ⟨y, hy⟩ : ∃ y, y = ((a0.natAbs * a1.natAbs : Nat) : Int) % 18446744073709551616 := ⟨_, rfl⟩
 rw [← hx, ← hy] at h2
 have key := mul_ways h.symm hx hy
 clear hx hy h
 have H0 := sd h0; have H1 := sd h1; have H2 := sd h2
 clear h0 h1 h2 hb
 obtain ⟨s, hs⟩ : ∃ s, s = (decide (a0 < 0) != decide (a1 < 0)) := ⟨_, rfl⟩
 replace key := key s hs.symm
 by_cases ha : a0 < 0 <;> by_cases hb : a1 < 0 <;> (have hs' : s = _ := hs.trans (by simp only [ha, hb, decide_true, decide_false, bne_self_eq_false, Bool.true_bne, Bool.false_bne, Bool.not_false]; rfl)) <;> subst hs' <;>
  simp only [Bool.false_eq_true, if_false, if_true] at key <;> clear hs <;> (rcases key with ⟨hm, hw, b1, b2⟩ | ⟨hm, b1⟩ | ⟨hm, b1, b2⟩) <;> simp only [Prod.mk.injEq] at hm <;> (obtain ⟨rfl, rfl⟩ := hm)
 all_goals
  (try (have HW := sd hw; clear hw))
  (first | have da := decide_eq_true ha | have da := decide_eq_false ha)
  (first | have db := decide_eq_true hb | have db := decide_eq_false hb)
  (try have e0 : (!decide (a0 < 0)) = true := by rw [da]; rfl)
  (try have e1 : (!decide (a1 < 0)) = true := by rw [db]; rfl)
  (try have e2 : (!decide (a0 < 0) == decide (a1 < 0)) = false := by rw [da, db]; rfl)
  clear ha hb
  (first | have d1 := decide_eq_true (show 0 < x by omega) | have d1 := decide_eq_false (show ¬ 0 < x by omega))
  (try (first | have d2 := decide_eq_true (show 9223372036854775808 < y by omega) | have d2 := decide_eq_false (show ¬ 9223372036854775808 < y by omega)))
  (try (first | have d3 := decide_eq_true (show 9223372036854775807 < y by omega) | have d3 := decide_eq_false (show ¬ 9223372036854775807 < y by omega)))
  clear b1
  (try clear b2)
 all_goals
  go_enter Tryd.func96, Tryd.ntmps96
  go_wp2_with fail
  refine (num_size.calls a0 _ _ H0.out).mono ?_
  rintro e w1 ⟨rfl, hd1⟩
  obtain ⟨⟨n1, rfl⟩⟩ := hd1
  go_wp2_with fail
  refine (num_size.calls a1 _ _ H1.out).mono ?_
  rintro e w2 ⟨rfl, hd2⟩
  obtain ⟨⟨n2, rfl⟩⟩ := hd2
  go_wp2_with fail
  refine (bits_Mul64.calls _ _ _ _ _ H2.out).mono ?_
  rintro e w3 ⟨rfl, hd3⟩
  obtain ⟨⟨n3, rfl⟩⟩ := hd3
  go_wp2_with fail
  all_goals (try (exfalso; (simp at *) <;> omega))
  go_ret2
  refine ⟨?_, ⟨⟨_, rfl⟩⟩⟩
  first | rfl | exact ret_tup HW.out
def num_Parse.f (a0 : ByteArray) (a1 a2 : Int) : Option (Int × Int) := if a0.size ≤ 140737488351232 then some (parseL a0.data.toList a1 a2) else none
theorem parse_pos (s : ByteArray) (lo hi : Int) (hs : s.size ≤ 140737488351232) (w : World) (hf : formedL s.data.toList = true) (hn : negOf s.data.toList = false) :
  Calls Tryd.prog 83 #[.string s, .int .i64 lo, .int .i64 hi] w fun e w' => e = .returned (.tuple #[.int .i64 (parseL s.data.toList lo hi).1, .int .i64 (parseL s.data.toList lo hi).2]) ∧ Drawn0 w w' := by
 have hF := formed_calls s hs
 rw [hf] at hF
 have hsz := size_eq' s
 have hm : magOf s.data.toList = s.data.toList := by simp [magOf, hn]
 have hne := formed_some hf
 have hdg := formed_digits hf
 rw [hm] at hne hdg
 have h0 : 0 < s.size := by rw [hsz]; exact List.length_pos_iff.mpr hne
 have hat : ∀ j, (h : j < s.size) → (h' : j < s.data.toList.length) → s.data.toList[j] = s[j] := fun j h h' => by simp; rfl
 have hb : ((s[0].toNat : Int) == 45) = false := by
  rw [beq_eq_false_iff_ne]
  intro h
  have := (byte_is s[0] 45).mp h
  rw [← hat 0 h0 (by omega)] at this
  unfold negOf at hn
  rw [List.head?_eq_getElem?, List.getElem?_eq_getElem (by omega), this] at hn
  simp at hn
 have HS := fun j n h => @parse_stop s.data.toList hf j n h lo hi
 have HW := fun j n h hj => @parse_whole s.data.toList hf j n h hj lo hi
 have H0 := sd (PInv.start (negOf s.data.toList) s.data.toList)
 rw [hm] at HS HW
 rw [hn] at HS HW H0
 have HS := sd HS
 have HW := sd HW
 have HFc := sd hF
 have HD : ∀ j, (h : j < s.size) → isDig s[j] = true := fun j h => by
  rw [← hat j h (by omega)]; exact List.all_eq_true.mp hdg _ (List.getElem_mem _)
 have HD := sd HD
 have HA := sd hat
 have HZ := sd hsz
 clear hf hn hF hm hne hdg hat hsz
 generalize hP : (fun e w' => e = Ending.returned (.tuple #[.int .i64 (parseL s.data.toList lo hi).1, .int .i64 (parseL s.data.toList lo hi).2]) ∧ Drawn0 w w') = Post
 have HP := sd hP
 clear hP
 go_enter Tryd.func83, Tryd.ntmps83
 go_wp2_with fail
 refine (HFc.out _).mono ?_
 rintro e w1 ⟨rfl, hd1⟩
 obtain ⟨⟨n1, rfl⟩⟩ := hd1
 go_wp2_with fail
 go_loopw [6, 9, 10] (fun n_ at_ ok_ wr => ∃ (p : Nat) (n : Int) (ok : Bool), p ≤ s.size ∧ n_ = .int .i64 n ∧ at_ = .int .i64 p ∧ ok_ = .bool ok ∧ Aside0 (PInv false s.data.toList p n ok) ∧ Drawn0 w wr) (fun _ at_ _ _ => (s.size - (RowKit.intOf at_).toNat))
 case atStart => exact ⟨0, 0, true, by omega, rfl, rfl, rfl, H0, (Drawn0.refl _).step _⟩
 case round =>
  obtain ⟨p, n, ok, hp, rfl, rfl, rfl, HI, HDr⟩ := hrel
  rename World => wr
  cases ok
  ·have hr := HS.out _ _ HI.out
   have HR := sd hr
   clear hr
   by_cases hlt : p < s.size
   ·go_wp2_with fail
    rw [← HP.out]
    exact ⟨by rw [HR.out]; (try rfl), HDr⟩
   go_wp2_with fail
   rw [← HP.out]
   exact ⟨by rw [HR.out]; (try rfl), HDr⟩
  ·by_cases hlt : p < s.size
   ·have hd := (isDig_iff _).mp (HD.out p hlt)
    obtain ⟨hd1, hd2⟩ := hd
    have hj : p < s.data.toList.length := by rw [← HZ.out]; exact hlt
    have HJ := sd hj
    clear hj
    have hI := (slot_ok HI.out).2
    have hM : num_Mul.f n 10 = some (fit (n * 10)) := by unfold num_Mul.f; rw [if_pos ⟨hI, by unfold I64; omega⟩]
    have hIn : -9223372036854775808 ≤ n ∧ n ≤ 9223372036854775807 := hI
    obtain ⟨hIn1, hIn2⟩ := hIn
    clear hI
    by_cases hm : I64 (n * 10)
    ·rw [fit_yes hm] at hM
     have hA := num_Add_eq (n * 10) ((s[p].toNat : Int) - 48) hm (by unfold I64; omega)
     have hN := PInv.next HI.out HJ.out (by rw [HA.out p hlt HJ.out]; exact HD.out p hlt) (x := n * 10 + ((s[p].toNat : Int) - 48)) (by rw [HA.out p hlt HJ.out]; rfl)
     generalize fit (n * 10 + ((s[p].toNat : Int) - 48)) = q at hA hN
     obtain ⟨q1, q2⟩ := q
     have HM := sd hM
     have HAd := sd hA
     have HN := sd hN
     have hm' : -9223372036854775808 ≤ n * 10 ∧ n * 10 ≤ 9223372036854775807 := hm
     obtain ⟨hm1, hm2⟩ := hm'
     clear hM hA hN hm
     go_wp2_with fail
     refine (num_Mul.calls _ _ _ _ _ HM.out).mono ?_
     rintro e w1 ⟨rfl, hd3⟩
     obtain ⟨⟨n3, rfl⟩⟩ := hd3
     go_wp2_with fail
     refine (num_Add.calls _ _ _ _ _ HAd.out).mono ?_
     rintro e w1 ⟨rfl, hd4⟩
     obtain ⟨⟨n4, rfl⟩⟩ := hd4
     go_wp2_with fail
     go_roundw
     case rel => exact ⟨p + 1, q1, q2, by omega, rfl, by go_num, rfl, HN, HDr.step _⟩
     case measure => simp [RowKit.intOf]; omega
    rw [fit_no hm] at hM
    have hN := PInv.over HI.out HJ.out hm
    have HM := sd hM
    have HN := sd hN
    clear hM hN hm
    go_wp2_with fail
    refine (num_Mul.calls _ _ _ _ _ HM.out).mono ?_
    rintro e w1 ⟨rfl, hd3⟩
    obtain ⟨⟨n3, rfl⟩⟩ := hd3
    go_wp2_with fail
    go_roundw
    case rel => exact ⟨p + 1, 0, false, by omega, rfl, by go_num, rfl, HN, HDr.step _⟩
    case measure => simp [RowKit.intOf]; omega
   have hr := HW.out _ _ HI.out (by rw [← HZ.out]; omega)
   have HR := sd hr
   clear hr
   by_cases h1 : n < lo
   ·go_wp2_with fail
    rw [← HP.out]
    exact ⟨zq133, HDr⟩
   by_cases h2 : hi < n
   ·go_wp2_with fail
    rw [← HP.out]
    exact ⟨zq133, HDr⟩
   go_wp2_with fail
   rw [← HP.out]
   exact ⟨by rw [HR.out, if_neg (by omega)]; (try rfl), HDr⟩
theorem parse_neg (s : ByteArray) (lo hi : Int) (hs : s.size ≤ 140737488351232) (w : World) (hf : formedL s.data.toList = true) (hn : negOf s.data.toList = true) :
  Calls Tryd.prog 83 #[.string s, .int .i64 lo, .int .i64 hi] w fun e w' => e = .returned (.tuple #[.int .i64 (parseL s.data.toList lo hi).1, .int .i64 (parseL s.data.toList lo hi).2]) ∧ Drawn0 w w' := by
 have hF := formed_calls s hs
 rw [hf] at hF
 have hsz := size_eq' s
 have hm : magOf s.data.toList = s.data.toList.drop 1 := by simp [magOf, hn]
 have hne := formed_some hf
 have hdg := formed_digits hf
 rw [hm] at hne hdg
 have h0 : 1 < s.size := by
  rw [hsz]
  rcases Nat.lt_or_ge 1 s.data.toList.length with h | h
  ·exact h
  ·exact absurd (List.drop_eq_nil_of_le h) hne
 have h00 : 0 < s.size := by omega
 have hat : ∀ j, (h : j + 1 < s.size) → (h' : j < (s.data.toList.drop 1).length) → (s.data.toList.drop 1)[j] = s[j + 1] := fun j h h' => by simp [Nat.add_comm 1 j]; rfl
 have hb : ((s[0].toNat : Int) == 45) = true := by
  rw [beq_iff_eq]
  refine (byte_is s[0] 45).mpr ?_
  unfold negOf at hn
  rw [List.head?_eq_getElem?, List.getElem?_eq_getElem (by omega), beq_iff_eq, Option.some_inj] at hn
  rw [← hn]; simp; (try rfl)
 have HS := fun j n h => @parse_stop s.data.toList hf j n h lo hi
 have HW := fun j n h hj => @parse_whole s.data.toList hf j n h hj lo hi
 have H0 := sd (PInv.start (negOf s.data.toList) (s.data.toList.drop 1))
 rw [hm] at HS HW
 rw [hn] at HS HW H0
 have HS := sd HS
 have HW := sd HW
 have HFc := sd hF
 have HD : ∀ j, (h : j + 1 < s.size) → isDig s[j + 1] = true := fun j h => by
  rw [← hat j h (by rw [List.length_drop]; omega)]; exact List.all_eq_true.mp hdg _ (List.getElem_mem _)
 have HD := sd HD
 have HA := sd hat
 have HZ := sd hsz
 clear hf hn hF hm hne hdg hat hsz
 generalize hP : (fun e w' => e = Ending.returned (.tuple #[.int .i64 (parseL s.data.toList lo hi).1, .int .i64 (parseL s.data.toList lo hi).2]) ∧ Drawn0 w w') = Post
 have HP := sd hP
 clear hP
 go_enter Tryd.func83, Tryd.ntmps83
 go_wp2_with fail
 refine (HFc.out _).mono ?_
 rintro e w1 ⟨rfl, hd1⟩
 obtain ⟨⟨n1, rfl⟩⟩ := hd1
 go_wp2_with fail
 go_loopw [6, 9, 10] (fun n_ at_ ok_ wr => ∃ (p : Nat) (n : Int) (ok : Bool), p + 1 ≤ s.size ∧ n_ = .int .i64 n ∧ at_ = .int .i64 ((p : Int) + 1) ∧ ok_ = .bool ok ∧ Aside0 (PInv true (s.data.toList.drop 1) p n ok) ∧ Drawn0 w wr) (fun _ at_ _ _ => (s.size - (RowKit.intOf at_).toNat))
 case atStart => exact ⟨0, 0, true, by omega, rfl, rfl, rfl, H0, (Drawn0.refl _).step _⟩
 case round =>
  obtain ⟨p, n, ok, hp, rfl, rfl, rfl, HI, HDr⟩ := hrel
  rename World => wr
  cases ok
  ·have hr := HS.out _ _ HI.out
   have HR := sd hr
   clear hr
   by_cases hlt : p + 1 < s.size
   ·go_wp2_with fail
    rw [← HP.out]
    exact ⟨by rw [HR.out]; (try rfl), HDr⟩
   go_wp2_with fail
   rw [← HP.out]
   exact ⟨by rw [HR.out]; (try rfl), HDr⟩
  ·by_cases hlt : p + 1 < s.size
   ·have hd := (isDig_iff _).mp (HD.out p hlt)
    obtain ⟨hd1, hd2⟩ := hd
    have hj : p < (s.data.toList.drop 1).length := by rw [List.length_drop, ← HZ.out]; omega
    have HJ := sd hj
    clear hj
    have hI := (slot_ok HI.out).2
    have hM : num_Mul.f n 10 = some (fit (n * 10)) := by unfold num_Mul.f; rw [if_pos ⟨hI, by unfold I64; omega⟩]
    have hIn : -9223372036854775808 ≤ n ∧ n ≤ 9223372036854775807 := hI
    obtain ⟨hIn1, hIn2⟩ := hIn
    clear hI
    by_cases hm : I64 (n * 10)
    ·rw [fit_yes hm] at hM
     have hA := num_Sub_eq (n * 10) ((s[p + 1].toNat : Int) - 48) hm (by unfold I64; omega)
     have hN := PInv.next HI.out HJ.out (by rw [HA.out p hlt HJ.out]; exact HD.out p hlt) (x := n * 10 - ((s[p + 1].toNat : Int) - 48)) (by rw [HA.out p hlt HJ.out]; rfl)
     generalize fit (n * 10 - ((s[p + 1].toNat : Int) - 48)) = q at hA hN
     obtain ⟨q1, q2⟩ := q
     have HM := sd hM
     have HAd := sd hA
     have HN := sd hN
     have hm' : -9223372036854775808 ≤ n * 10 ∧ n * 10 ≤ 9223372036854775807 := hm
     obtain ⟨hm1, hm2⟩ := hm'
     clear hM hA hN hm
     go_wp2_with fail
     refine (num_Mul.calls _ _ _ _ _ HM.out).mono ?_
     rintro e w1 ⟨rfl, hd3⟩
     obtain ⟨⟨n3, rfl⟩⟩ := hd3
     go_wp2_with fail
     refine (num_Sub.calls _ _ _ _ _ HAd.out).mono ?_
     rintro e w1 ⟨rfl, hd4⟩
     obtain ⟨⟨n4, rfl⟩⟩ := hd4
     go_wp2_with fail
     go_roundw
     case rel => exact ⟨p + 1, q1, q2, by omega, rfl, by go_num, rfl, HN, HDr.step _⟩
     case measure => simp [RowKit.intOf]; omega
    rw [fit_no hm] at hM
    have hN := PInv.over HI.out HJ.out hm
    have HM := sd hM
    have HN := sd hN
    clear hM hN hm
    go_wp2_with fail
    refine (num_Mul.calls _ _ _ _ _ HM.out).mono ?_
    rintro e w1 ⟨rfl, hd3⟩
    obtain ⟨⟨n3, rfl⟩⟩ := hd3
    go_wp2_with fail
    go_roundw
    case rel => exact ⟨p + 1, 0, false, by omega, rfl, by go_num, rfl, HN, HDr.step _⟩
    case measure => simp [RowKit.intOf]; omega
   have hr := HW.out _ _ HI.out (by rw [List.length_drop, ← HZ.out]; omega)
   have HR := sd hr
   clear hr
   by_cases h1 : n < lo
   ·go_wp2_with fail
    rw [← HP.out]
    exact ⟨zq133, HDr⟩
   by_cases h2 : hi < n
   ·go_wp2_with fail
    rw [← HP.out]
    exact ⟨zq133, HDr⟩
   go_wp2_with fail
   rw [← HP.out]
   exact ⟨by rw [HR.out, if_neg (by omega)]; (try rfl), HDr⟩
theorem num_Parse.calls (a0 : ByteArray) (a1 a2 r1 r2 : Int) (w : World) (h : num_Parse.f a0 a1 a2 = some (r1, r2)) :
  Calls Tryd.prog 83 #[.string a0, .int .i64 a1, .int .i64 a2] w fun e w' => e = .returned (.tuple #[.int .i64 r1, .int .i64 r2]) ∧ Drawn0 w w' := by
 unfold num_Parse.f at h
 split at h <;> simp only [Option.some.injEq, reduceCtorEq] at h
 rename_i hs
 have e1 : r1 = (parseL a0.data.toList a1 a2).1 := by rw [h]
 have e2 : r2 = (parseL a0.data.toList a1 a2).2 := by rw [h]
 subst e1 e2
 clear h
 cases hf : formedL a0.data.toList
 ·have hF := formed_calls a0 hs
  rw [hf] at hF
  have hp : parseL a0.data.toList a1 a2 = (0, 5) := by unfold parseL; rw [hf]; rfl
  have HP := sd hp
  have HFc := sd hF
  clear hf hF hp
  generalize hP : (fun e w' => e = Ending.returned (.tuple #[.int .i64 (parseL a0.data.toList a1 a2).1, .int .i64 (parseL a0.data.toList a1 a2).2]) ∧ Drawn0 w w') = Post
  rw [HP.out] at hP
  have HPo := sd hP
  clear hP
  go_enter Tryd.func83, Tryd.ntmps83
  go_wp2_with fail
  refine (HFc.out _).mono ?_
  rintro e w1 ⟨rfl, hd1⟩
  obtain ⟨⟨n1, rfl⟩⟩ := hd1
  go_wp2_with fail
  rw [← HPo.out]
  exact ⟨rfl, (Drawn0.refl _).step _⟩
 ·cases hn : negOf a0.data.toList
  ·exact parse_pos a0 a1 a2 hs w hf hn
  ·exact parse_neg a0 a1 a2 hs w hf hn
def frac_scan.l0 : Nat → ByteArray → List Int → Option (List Int × ByteArray)
 | 0, _, _ => none
 | k + 1, x0, x4 => if x0.toList = ([] : List UInt8) then (some (x4, x0)) else (if 0 < (x0.size : Int) then (if (bt x0 0) ≥ 48 then (if (bt x0 0) ≤ 57 then (if x4.length < 140737488355328 then (if 1 ≤ (x0.size : Int) then (frac_scan.l0 k (x0.extract 1 x0.size) (x4 ++ [((bt x0 0) - 48) % 256])) else (none)) else (none)) else (some (x4, x0))) else (some (x4, x0))) else (none))
def frac_scan.f (k : Nat) (a0 : ByteArray) : Option (List Int × ByteArray) := frac_scan.l0 k a0 ([] : List Int)
theorem frac_scan.mono_l : ∀ k, (∀ y0 y1, LeO (frac_scan.l0 k y0 y1) (frac_scan.l0 (k + 1) y0 y1))
 | 0 => fun _ _ r h => by simp [frac_scan.l0] at h
 | k + 1 => by
  have ih0 := frac_scan.mono_l k
  ·intro y0 y1
   unfold frac_scan.l0
   repeat' (with_reducible first | exact ih0 _ _ | exact LeO.refl _ | exact LeO.none _ | refine LeO.ite ?_ ?_ | refine LeO.bind ?_ (fun _ => ?_))
theorem frac_scan.mono : ∀ a0 k, LeO (frac_scan.f k a0) (frac_scan.f (k + 1) a0) := by
 intro a0 k
 have ih0 := frac_scan.mono_l k
 unfold frac_scan.f
 repeat' (with_reducible first | exact ih0 _ _ | exact LeO.refl _ | exact LeO.none _ | refine LeO.ite ?_ ?_ | refine LeO.bind ?_ (fun _ => ?_))
theorem frac_scan.calls (k : Nat) (a0 : ByteArray) (r1 : List Int) (r2 : ByteArray) (w : World) (h : frac_scan.f k a0 = some (r1, r2)) :
  Calls Tryd.prog 97 #[.string a0] w fun e w' => ∃ v0_ : Value, e = .returned (.tuple #[v0_, .string r2]) ∧ Kd.R (Kd.int .u8) 5 w' w.heap.size (fun _ => True) v0_ r1 ∧ Below w.heap.size w w' := by
 have HB := sd (Below.refl w.heap.size w)
 have H := h
 clear h
 unfold frac_scan.f at H
 have H' := sd H
 clear H
 go_enter Tryd.func97, Tryd.ntmps97
 go_wp2
 go_loopg [0, 4] k (fun kq v0 v4 w' => ∃ (x0_1 : ByteArray) (x4_1 : List Int), v0 = .string x0_1 ∧ Aside0 (frac_scan.l0 kq x0_1 x4_1 = some (r1, r2)) ∧ Aside0 (kq ≤ k) ∧ Aside0 (Kd.R (Kd.int .u8) 5 w' w.heap.size (fun _ => True) v4 x4_1) ∧ Aside0 (Below w.heap.size w w'))
 case atStart => exact ⟨(a0), (([] : List Int)), zq1, H', ⟨Nat.le_refl _⟩, ⟨zq43⟩, ⟨zq34⟩⟩
 case round =>
  clear H'
  obtain ⟨x0_1, x4_1, rfl, HA, HK1, HO_4, HB⟩ := hrel
  cases gk with
  | zero => exact absurd HA.out (by simp [frac_scan.l0])
  | succ k1 =>
   have H := HA.out
   clear HA
   simp only [frac_scan.l0] at H
   replace H := ifI H
   rcases H with ⟨c2, H⟩ | ⟨c2, H⟩
   ·obtain ⟨c2b0, c2b1⟩ := eqI c2
    clear c2
    simp only [Option.some.injEq, Prod.mk.injEq] at H
    obtain ⟨rfl, rfl⟩ := H
    go_wp2
    go_ret2
    exact ⟨_, zq8, zq52, zq34⟩
   obtain ⟨c2b0, c2b1⟩ := neI c2
   replace H := ifI H
   rcases H with ⟨c3, H⟩ | ⟨c3, H⟩
   ·have c3b0 : decide (0 < (x0_1.size : Int)) = true := decide_eq_true c3
    have c3b1 : decide (0 < x0_1.size) = true := decide_eq_true (by omega)
    clear c3
    replace H := ifI H
    rcases H with ⟨c5, H⟩ | ⟨c5, H⟩
    ·have c5b0 : decide (48 ≤ (bt x0_1 0)) = true := decide_eq_true c5
     clear c5
     replace H := ifI H
     rcases H with ⟨c7, H⟩ | ⟨c7, H⟩
     ·have c7b0 : decide ((bt x0_1 0) ≤ 57) = true := decide_eq_true c7
      clear c7
      replace H := ifI H
      rcases H with ⟨c9, H⟩ | ⟨c9, H⟩
      ·have LMc9 := sd c9
       clear c9
       obtain ⟨y193, hy193⟩ : ∃ y_ : List Int, y_ = (x4_1 ++ [((bt x0_1 0) - 48) % 256]) := ⟨_, rfl⟩
       replace H : (if 1 ≤ (x0_1.size : Int) then (frac_scan.l0 k1 (x0_1.extract 1 x0_1.size) y193) else (none)) = some (r1, r2) := by first | (rw [hy193]; with_reducible exact H) | (have H2_ := (Option.bind_some _ _).symm.trans H; rw [hy193]; with_reducible exact H2_) | (have H2_ := (Option.bind_some _ _).symm.trans H; with_reducible exact H2_) | with_reducible exact H | (rw [hy193]; exact H) | exact H
       have Ny193 := sd hy193
       clear hy193
       replace H := ifI H
       rcases H with ⟨c10, H⟩ | ⟨c10, H⟩
       ·have c10b0 := eq_true c10
        have c10b1 : decide (1 ≤ (x0_1.size : Int)) = true := decide_eq_true c10
        clear c10
        have H' := sd H
        clear H
        have p4 : 0 ≤ (0 : Int) := (by omega)
        have q4 : 0 < x0_1.size := (by have : (0 : Int) < (x0_1.size : Int) := od; omega)
        have hx4 : ∀ h : 0 < x0_1.size, ((x0_1[0]'h).toNat : Int) = bt x0_1 0 := bt_at x0_1 0
        clear p4
        have qi4 : (0 < (x0_1.size : Int)) = True := eq_true (od)
        replace q4 := eq_true q4
        have p6 : 0 ≤ (0 : Int) := (by omega)
        have q6 : 0 < x0_1.size := (by have : (0 : Int) < (x0_1.size : Int) := od; omega)
        have hx6 : ∀ h : 0 < x0_1.size, ((x0_1[0]'h).toNat : Int) = bt x0_1 0 := bt_at x0_1 0
        clear p6
        have qi6 : (0 < (x0_1.size : Int)) = True := eq_true (od)
        replace q6 := eq_true q6
        have p8 : 0 ≤ (0 : Int) := (by omega)
        have q8 : 0 < x0_1.size := (by have : (0 : Int) < (x0_1.size : Int) := od; omega)
        have hx8 : ∀ h : 0 < x0_1.size, ((x0_1[0]'h).toNat : Int) = bt x0_1 0 := bt_at x0_1 0
        clear p8
        have qi8 : (0 < (x0_1.size : Int)) = True := eq_true (od)
        replace q8 := eq_true q8
        go_wp2_with (first | ((with_reducible refine gate_builtin (b := .append) (xs := #[.tmp 17, .tmp 21]) rfl ?_); at_builtin; refine Kd.R_append (Kd.int .u8) (w0 := w) w.heap.size rfl (.tmp 17) (.tmp 21) 123 5 (.int .u8 0) 1 rfl Tryd.underlying123 info5 rfl (by decide) (by omega) u4 x4_1 (((bt x0_1 0) - 48) % 256) [.int .u8 (((bt x0_1 0) - 48) % 256)] (fun _ => True) (fun _ => False) rfl rfl ?aP (fun _ hk => hk.elim) ?aF ?aO ?aB ?aS ?aL ?_; (case aP => exact rfl); (case aB => exact zq34); (case aF => exact (fun _ _ => trivial)); (case aO => exact zq52); (case aS => exact (below_size zq34)); (case aL => have := LMc9.out; omega); intro v194 w11 ho hb hg hat; rw [← Ny193.out] at ho; have HO195 := sd (ho); replace HB := sd (hb); clear HO_4; clear ho hb hg hat))
        go_roundg k1
        case measure => have := HK1.out; omega
        case rel => exact ⟨(x0_1.extract 1 x0_1.size), (y193), zq1, H', ⟨by have := HK1.out; omega⟩, ⟨by (with_reducible repeat (first | apply Kd.R_alloc | apply Kd.R_drewN | apply Kd.R_drew)); exact HO195.out⟩, ⟨zq34⟩⟩
       exact absurd H (by simp)
      exact absurd H (by simp)
     have c7b0 : decide ((bt x0_1 0) ≤ 57) = false := decide_eq_false c7
     clear c7
     simp only [Option.some.injEq, Prod.mk.injEq] at H
     obtain ⟨rfl, rfl⟩ := H
     have p4 : 0 ≤ (0 : Int) := (by omega)
     have q4 : 0 < x0_1.size := (by have : (0 : Int) < (x0_1.size : Int) := od; omega)
     have hx4 : ∀ h : 0 < x0_1.size, ((x0_1[0]'h).toNat : Int) = bt x0_1 0 := bt_at x0_1 0
     clear p4
     have qi4 : (0 < (x0_1.size : Int)) = True := eq_true (od)
     replace q4 := eq_true q4
     have p6 : 0 ≤ (0 : Int) := (by omega)
     have q6 : 0 < x0_1.size := (by have : (0 : Int) < (x0_1.size : Int) := od; omega)
     have hx6 : ∀ h : 0 < x0_1.size, ((x0_1[0]'h).toNat : Int) = bt x0_1 0 := bt_at x0_1 0
     clear p6
     have qi6 : (0 < (x0_1.size : Int)) = True := eq_true (od)
     replace q6 := eq_true q6
     go_wp2
     go_ret2
     exact ⟨_, zq8, zq52, zq34⟩
    have c5b0 : decide (48 ≤ (bt x0_1 0)) = false := decide_eq_false c5
    clear c5
    simp only [Option.some.injEq, Prod.mk.injEq] at H
    obtain ⟨rfl, rfl⟩ := H
    have p4 : 0 ≤ (0 : Int) := (by omega)
    have q4 : 0 < x0_1.size := (by have : (0 : Int) < (x0_1.size : Int) := od; omega)
    have hx4 : ∀ h : 0 < x0_1.size, ((x0_1[0]'h).toNat : Int) = bt x0_1 0 := bt_at x0_1 0
    clear p4
    have qi4 : (0 < (x0_1.size : Int)) = True := eq_true (od)
    replace q4 := eq_true q4
    go_wp2
    go_ret2
    exact ⟨_, zq8, zq52, zq34⟩
   exact absurd H (by simp)
mutual
def frac_split.j0 : Nat → List Int → ByteArray → Bool → Option (List Int × List Int × Bool)
 | 0, _, _, _ => none
 | k + 1, x2, x5, x26 => if x26 = true then (some (([] : List Int), ([] : List Int), false)) else (if x5.toList = ([] : List UInt8) then (some (x2, (([1] : List Int)), true)) else (if 1 ≤ (x5.size : Int) then ((frac_scan.f k (x5.extract 1 x5.size)).bind fun bt204 => (if (bt204.1.length : Int) = 0 then (frac_split.j1 k x2 x5 bt204.1 true) else (frac_split.j1 k x2 x5 bt204.1 (bt204.2.toList != ([] : List UInt8))))) else (none)))
def frac_split.j1 : Nat → List Int → ByteArray → List Int → Bool → Option (List Int × List Int × Bool)
 | 0, _, _, _, _ => none
 | k + 1, x2, x5, x6, x43 => if x43 = true then (some (([] : List Int), ([] : List Int), false)) else (if 0 < (x5.size : Int) then (if (bt x5 0) = 47 then (if 0 < (x6.length : Int) then (some (x2, x6, ((rd x6 0) != 0))) else (none)) else (if (bt x5 0) = 46 then (frac_split.l0 k x2 (([1] : List Int)) x6 (x6.length : Int) 0) else (some (([] : List Int), ([] : List Int), false)))) else (none))
def frac_split.l0 : Nat → List Int → List Int → List Int → Int → Int → Option (List Int × List Int × Bool)
 | 0, _, _, _, _, _ => none
 | k + 1, x2, x3, x6, x58, x59 => if x59 < x58 then (if x3.length < 140737488355328 then (frac_split.l0 k x2 (x3 ++ [0]) x6 x58 (wrap64 (x59 + 1))) else (none)) else (if x2.length + x6.length < 140737488355328 then (some ((x2 ++ x6), x3, decide ((x6.length : Int) ≤ 6))) else (none))
end
def frac_split.f (k : Nat) (a0 : ByteArray) : Option (List Int × List Int × Bool) := (frac_scan.f k a0).bind fun bt196 => (if (bt196.1.length : Int) = 0 then (frac_split.j0 k bt196.1 bt196.2 true) else (if (bt196.1.length : Int) > 1 then (if 0 < (bt196.1.length : Int) then (frac_split.j0 k bt196.1 bt196.2 ((rd bt196.1 0) == 0)) else (none)) else (frac_split.j0 k bt196.1 bt196.2 false)))
theorem frac_split.mono_l : ∀ k, (∀ y0 y1 y2, LeO (frac_split.j0 k y0 y1 y2) (frac_split.j0 (k + 1) y0 y1 y2)) ∧ (∀ y0 y1 y2 y3, LeO (frac_split.j1 k y0 y1 y2 y3) (frac_split.j1 (k + 1) y0 y1 y2 y3)) ∧ (∀ y0 y1 y2 y3 y4, LeO (frac_split.l0 k y0 y1 y2 y3 y4) (frac_split.l0 (k + 1) y0 y1 y2 y3 y4))
 | 0 => ⟨fun _ _ _ r h => by simp [frac_split.j0] at h, fun _ _ _ _ r h => by simp [frac_split.j1] at h, fun _ _ _ _ _ r h => by simp [frac_split.l0] at h⟩
 | k + 1 => by
  obtain ⟨ih0, ih1, ih2⟩ := frac_split.mono_l k
  refine ⟨?_, ?_, ?_⟩
  ·intro y0 y1 y2
   unfold frac_split.j0
   repeat' (with_reducible first | exact ih0 _ _ _ | exact ih1 _ _ _ _ | exact ih2 _ _ _ _ _ | exact frac_scan.mono _ _ | exact LeO.refl _ | exact LeO.none _ | refine LeO.ite ?_ ?_ | refine LeO.bind ?_ (fun _ => ?_))
  ·intro y0 y1 y2 y3
   unfold frac_split.j1
   repeat' (with_reducible first | exact ih0 _ _ _ | exact ih1 _ _ _ _ | exact ih2 _ _ _ _ _ | exact frac_scan.mono _ _ | exact LeO.refl _ | exact LeO.none _ | refine LeO.ite ?_ ?_ | refine LeO.bind ?_ (fun _ => ?_))
  ·intro y0 y1 y2 y3 y4
   unfold frac_split.l0
   repeat' (with_reducible first | exact ih0 _ _ _ | exact ih1 _ _ _ _ | exact ih2 _ _ _ _ _ | exact frac_scan.mono _ _ | exact LeO.refl _ | exact LeO.none _ | refine LeO.ite ?_ ?_ | refine LeO.bind ?_ (fun _ => ?_))
theorem frac_split.mono : ∀ a0 k, LeO (frac_split.f k a0) (frac_split.f (k + 1) a0) := by
 intro a0 k
 obtain ⟨ih0, ih1, ih2⟩ := frac_split.mono_l k
 unfold frac_split.f
 repeat' (with_reducible first | exact ih0 _ _ _ | exact ih1 _ _ _ _ | exact ih2 _ _ _ _ _ | exact frac_scan.mono _ _ | exact LeO.refl _ | exact LeO.none _ | refine LeO.ite ?_ ?_ | refine LeO.bind ?_ (fun _ => ?_))
theorem frac_split.calls (k : Nat) (a0 : ByteArray) (r1 : List Int) (r2 : List Int) (r3 : Bool) (w : World) (h : frac_split.f k a0 = some (r1, r2, r3)) :
  Calls Tryd.prog 84 #[.string a0] w fun e w' => ∃ v0_ v1_ : Value, e = .returned (.tuple #[v0_, v1_, .bool r3]) ∧ Kd.R (Kd.int .u8) 5 w' w.heap.size (fun k_ => some k_ ≠ (v1_ : Value).ownBlock) v0_ r1 ∧ Kd.R (Kd.int .u8) 5 w' w.heap.size (fun k_ => some k_ ≠ (v0_ : Value).ownBlock) v1_ r2 ∧ Below w.heap.size w w' := by
 have HB := sd (Below.refl w.heap.size w)
 have H := h
 clear h
 unfold frac_split.f at H
 replace H := bdI H
 obtain ⟨⟨t196, t197⟩, A2, H⟩ := H
 (try dsimp only at H)
 have HC3 := sd H
 clear H
 go_enter Tryd.func84, Tryd.ntmps84
 go_upto_region 2 with (first | (go_at_call 97; (with_reducible refine (frac_scan.calls k a0 t196 t197 _ A2.out).mono ?_); rintro e w4 ⟨v198, rfl, ho0, hb⟩; have HO199 := sd (Kd.R_lower ho0 (below_size zq34)); replace HB := hbm HB hb; clear hb; (try clear ho0)))
 repeat (go_quiet (first | (go_at_call 97; (with_reducible refine (frac_scan.calls k a0 t196 t197 _ A2.out).mono ?_); rintro e w4 ⟨v198, rfl, ho0, hb⟩; have HO199 := sd (Kd.R_lower ho0 (below_size zq34)); replace HB := hbm HB hb; clear hb; (try clear ho0))); go_upto_region 2 with (first | (go_at_call 97; (with_reducible refine (frac_scan.calls k a0 t196 t197 _ A2.out).mono ?_); rintro e w4 ⟨v198, rfl, ho0, hb⟩; have HO199 := sd (Kd.R_lower ho0 (below_size zq34)); replace HB := hbm HB hb; clear hb; (try clear ho0))))
 (try simp only [Act.put, List.setIfInBounds_toArray, List.set_cons_zero, List.set_cons_succ])
 go_cut [26] (fun v26 wc => ∃ (kq : Nat) (x26_2 : Bool), v26 = .bool x26_2 ∧ Aside0 (frac_split.j0 kq t196 t197 x26_2 = some (r1, r2, r3)) ∧ Aside0 (kq ≤ k) ∧ Aside0 (Kd.R (Kd.int .u8) 5 wc w.heap.size (fun _ => True) v198 t196) ∧ Aside0 (Below w.heap.size w wc))
 case first =>
  have H := HC3.out
  clear HC3
  replace H := ifI H
  rcases H with ⟨c5, H⟩ | ⟨c5, H⟩
  ·obtain ⟨c5b0, c5b1⟩ := eqI c5
   clear c5
   (first | rw [c5b0] | (simp only [i64_w, i32_w]; rw [c5b0]) | skip)
   have H' := sd H
   clear H
   obtain ⟨Ao6, co6, eo6⟩ := Kd.R_slice HO199.out
   subst eo6
   go_wp2
   repeat (go_quiet (fail); try go_wp2)
   go_meet
   case rel => exact ⟨_, (true), zq1, H', ⟨by first | omega | exact Nat.le_refl _⟩, ⟨zq134⟩, ⟨zq34⟩⟩
  obtain ⟨c5b0, c5b1⟩ := neI c5
  have c5b2 : ¬ (t196 = []) := fun h_ => c5 (by rw [h_]; rfl)
  (first | rw [c5b0] | (simp only [i64_w, i32_w]; rw [c5b0]) | skip)
  replace H := ifI H
  rcases H with ⟨c7, H⟩ | ⟨c7, H⟩
  ·have c7b0 : decide (1 < (t196.length : Int)) = true := decide_eq_true c7
   have c7b1 : decide (1 < t196.length) = true := decide_eq_true (by omega)
   clear c7
   replace H := ifI H
   rcases H with ⟨c8, H⟩ | ⟨c8, H⟩
   ·have c8b0 : decide (0 < (t196.length : Int)) = true := decide_eq_true c8
    have c8b1 : decide (0 < t196.length) = true := decide_eq_true (by omega)
    clear c8
    have H' := sd H
    clear H
    obtain ⟨Ao9, co9, eo9⟩ := Kd.R_slice HO199.out
    subst eo9
    have p200 : 0 ≤ (0 : Int) := (by omega)
    have q200 : 0 < (t196.length : Int) := od
    obtain ⟨ad200, e200, hx200_0⟩ := Kd.at_int (Kd.R_reads' HO199.out).2.2 0 p200 q200
    cases e200
    have qi200 : (0 < t196.length) = True := eq_true (by omega)
    (try rw [show ((0 : Int)).toNat = 0 from rfl] at hx200_0)
    (try rw [Addr.add_zero'] at hx200_0)
    replace p200 := eq_true p200
    replace q200 := eq_true q200
    go_wp2
    repeat (go_quiet (fail); try go_wp2)
    go_meet
    case rel => exact ⟨_, (((rd t196 0) == 0)), zq1, H', ⟨by first | omega | exact Nat.le_refl _⟩, ⟨zq134⟩, ⟨zq34⟩⟩
   exact absurd H (by simp)
  have c7b0 : decide (1 < (t196.length : Int)) = false := decide_eq_false c7
  have c7b1 : decide (1 < t196.length) = false := decide_eq_false (by omega)
  clear c7
  have H' := sd H
  clear H
  obtain ⟨Ao10, co10, eo10⟩ := Kd.R_slice HO199.out
  subst eo10
  go_wp2
  repeat (go_quiet (fail); try go_wp2)
  go_meet
  case rel => exact ⟨_, (false), zq1, H', ⟨by first | omega | exact Nat.le_refl _⟩, ⟨zq134⟩, ⟨zq34⟩⟩
 case rest =>
  clear HC3
  try clear p2
  try clear q2
  try clear hx2
  try clear qi2
  try clear c5
  try clear c5b0
  try clear c5b1
  try clear c5b2
  try clear c7
  try clear c7b0
  try clear c7b1
  try clear c8
  try clear c8b0
  try clear c8b1
  try clear hx200_0
  try clear p200
  try clear q200
  obtain ⟨kq, x26_2, rfl, HA, HJ2, HO_2, HB⟩ := hcut
  cases kq with
  | zero => exact absurd HA.out (by simp [frac_split.j0])
  | succ kj2 =>
   have H := HA.out
   clear HA
   simp only [frac_split.j0] at H
   by_cases c11 : x26_2 = true
   ·subst c11
    rw [if_pos rfl] at H
    simp only [Option.some.injEq, Prod.mk.injEq] at H
    obtain ⟨rfl, rfl, rfl⟩ := H
    go_wp2
    repeat (go_quiet (fail); try go_wp2)
    go_ret3
    exact ⟨_, _, zq8, zq43, zq43, zq34⟩
   replace c11 := Bool.eq_false_iff.mpr c11
   subst c11
   rw [if_neg Bool.false_ne_true] at H
   replace H := ifI H
   rcases H with ⟨c12, H⟩ | ⟨c12, H⟩
   ·obtain ⟨c12b0, c12b1⟩ := eqI c12
    clear c12
    obtain ⟨y201, hy201⟩ : ∃ y_ : List Int, y_ = (([1] : List Int)) := ⟨_, rfl⟩
    replace H : (some (t196, y201, true)) = some (r1, r2, r3) := by first | (rw [hy201]; with_reducible exact H) | (have H2_ := (Option.bind_some _ _).symm.trans H; rw [hy201]; with_reducible exact H2_) | (have H2_ := (Option.bind_some _ _).symm.trans H; with_reducible exact H2_) | with_reducible exact H | (rw [hy201]; exact H) | exact H
    have Ny201 := sd hy201
    clear hy201
    simp only [Option.some.injEq, Prod.mk.injEq] at H
    obtain ⟨rfl, rfl, rfl⟩ := H
    go_wp2_with (first | ((with_reducible refine gate_dst (N := 30) rfl ?_); (try (refine gate_guard (by rfl) ?_; dsimp only)); refine Kd.R_lit (Kd.int .u8) _ 5 ?hg (N := 30) ?hd (xs := ([1] : List Int)) (inner := [.int .u8 1]) (ok := fun _ => True) (okp := fun _ => True) ?hr ?hp (fun _ hk => hk) trivial (Below.refl _ _) (Nat.le_refl _) (by simp) ?_; (case hd => rfl); (case hg => rfl); (case hr => first | (go_simp; done) | (go_simp; rfl)); (case hp => exact (Reps.one (show Kd.M (Kd.int .u8) _ _ _ 1 [.int .u8 1] from rfl) (Reps.none _ _))); intro v202 w13 ho14 hb hg_ hnew_; clear hg_ hnew_; (first | rw [← Ny201.out] at ho14 | (simp only [Int.reduceToNat] at ho14; rw [← Ny201.out] at ho14)); have HO203 := sd (Kd.R_lower (Kd.R_new' ho14 (Kd.R_lt zq127)) (below_size zq34)); replace HO_2 := sd (Kd.R_elder' zq127 (Kd.R_base ho14) hb); replace HB := hbm HB hb; clear hb ho14))
    repeat (go_quiet (first | ((with_reducible refine gate_dst (N := 30) rfl ?_); (try (refine gate_guard (by rfl) ?_; dsimp only)); refine Kd.R_lit (Kd.int .u8) _ 5 ?hg (N := 30) ?hd (xs := ([1] : List Int)) (inner := [.int .u8 1]) (ok := fun _ => True) (okp := fun _ => True) ?hr ?hp (fun _ hk => hk) trivial (Below.refl _ _) (Nat.le_refl _) (by simp) ?_; (case hd => rfl); (case hg => rfl); (case hr => first | (go_simp; done) | (go_simp; rfl)); (case hp => exact (Reps.one (show Kd.M (Kd.int .u8) _ _ _ 1 [.int .u8 1] from rfl) (Reps.none _ _))); intro v202 w13 ho14 hb hg_ hnew_; clear hg_ hnew_; (first | rw [← Ny201.out] at ho14 | (simp only [Int.reduceToNat] at ho14; rw [← Ny201.out] at ho14)); have HO203 := sd (Kd.R_lower (Kd.R_new' ho14 (Kd.R_lt zq127)) (below_size zq34)); replace HO_2 := sd (Kd.R_elder' zq127 (Kd.R_base ho14) hb); replace HB := hbm HB hb; clear hb ho14)); try go_wp2_with (first | ((with_reducible refine gate_dst (N := 30) rfl ?_); (try (refine gate_guard (by rfl) ?_; dsimp only)); refine Kd.R_lit (Kd.int .u8) _ 5 ?hg (N := 30) ?hd (xs := ([1] : List Int)) (inner := [.int .u8 1]) (ok := fun _ => True) (okp := fun _ => True) ?hr ?hp (fun _ hk => hk) trivial (Below.refl _ _) (Nat.le_refl _) (by simp) ?_; (case hd => rfl); (case hg => rfl); (case hr => first | (go_simp; done) | (go_simp; rfl)); (case hp => exact (Reps.one (show Kd.M (Kd.int .u8) _ _ _ 1 [.int .u8 1] from rfl) (Reps.none _ _))); intro v202 w13 ho14 hb hg_ hnew_; clear hg_ hnew_; (first | rw [← Ny201.out] at ho14 | (simp only [Int.reduceToNat] at ho14; rw [← Ny201.out] at ho14)); have HO203 := sd (Kd.R_lower (Kd.R_new' ho14 (Kd.R_lt zq127)) (below_size zq34)); replace HO_2 := sd (Kd.R_elder' zq127 (Kd.R_base ho14) hb); replace HB := hbm HB hb; clear hb ho14)))
    go_ret3
    exact ⟨_, _, zq8, zq135, by (with_reducible repeat (first | apply Kd.R_alloc | apply Kd.R_drewN | apply Kd.R_drew)); exact Kd.R_mono HO203.out (fun _ hk => hk.2), zq34⟩
   obtain ⟨c12b0, c12b1⟩ := neI c12
   replace H := ifI H
   rcases H with ⟨c15, H⟩ | ⟨c15, H⟩
   ·have c15b0 := eq_true c15
    have c15b1 : decide (1 ≤ (t197.size : Int)) = true := decide_eq_true c15
    clear c15
    replace H := bdI H
    obtain ⟨⟨t204, t205⟩, A16, H⟩ := H
    (try dsimp only at H)
    have HC17 := sd H
    clear H
    go_upto_region 7 with (first | (go_at_call 97; (with_reducible refine (frac_scan.calls kj2 (t197.extract 1 t197.size) t204 t205 _ A16.out).mono ?_); rintro e w18 ⟨v206, rfl, ho0, hb⟩; have HO207 := sd (Kd.R_lower (Kd.R_new' ho0 (Kd.R_lt zq127)) (below_size zq34)); replace HO_2 := sd (Kd.R_elder' zq127 (Kd.R_base ho0) hb); replace HB := hbm HB hb; clear hb; (try clear ho0)))
    repeat (go_quiet (first | (go_at_call 97; (with_reducible refine (frac_scan.calls kj2 (t197.extract 1 t197.size) t204 t205 _ A16.out).mono ?_); rintro e w18 ⟨v206, rfl, ho0, hb⟩; have HO207 := sd (Kd.R_lower (Kd.R_new' ho0 (Kd.R_lt zq127)) (below_size zq34)); replace HO_2 := sd (Kd.R_elder' zq127 (Kd.R_base ho0) hb); replace HB := hbm HB hb; clear hb; (try clear ho0))); go_upto_region 7 with (first | (go_at_call 97; (with_reducible refine (frac_scan.calls kj2 (t197.extract 1 t197.size) t204 t205 _ A16.out).mono ?_); rintro e w18 ⟨v206, rfl, ho0, hb⟩; have HO207 := sd (Kd.R_lower (Kd.R_new' ho0 (Kd.R_lt zq127)) (below_size zq34)); replace HO_2 := sd (Kd.R_elder' zq127 (Kd.R_base ho0) hb); replace HB := hbm HB hb; clear hb; (try clear ho0))))
    (try simp only [Act.put, List.setIfInBounds_toArray, List.set_cons_zero, List.set_cons_succ])
    go_cut [43] (fun v43 wc => ∃ (kq : Nat) (x43_16 : Bool), v43 = .bool x43_16 ∧ Aside0 (frac_split.j1 kq t196 t197 t204 x43_16 = some (r1, r2, r3)) ∧ Aside0 (kq ≤ kj2) ∧ Aside0 (Kd.R (Kd.int .u8) 5 wc w.heap.size (fun k_ => some k_ ≠ (v206 : Value).ownBlock) v198 t196) ∧ Aside0 (Kd.R (Kd.int .u8) 5 wc w.heap.size (fun k_ => some k_ ≠ (v198 : Value).ownBlock) v206 t204) ∧ Aside0 (Below w.heap.size w wc))
    case first =>
     have H := HC17.out
     clear HC17
     replace H := ifI H
     rcases H with ⟨c19, H⟩ | ⟨c19, H⟩
     ·obtain ⟨c19b0, c19b1⟩ := eqI c19
      clear c19
      (first | rw [c19b0] | (simp only [i64_w, i32_w]; rw [c19b0]) | skip)
      have H' := sd H
      clear H
      obtain ⟨Ao20, co20, eo20⟩ := Kd.R_slice HO207.out
      subst eo20
      go_wp2
      repeat (go_quiet (fail); try go_wp2)
      go_meet
      case rel => exact ⟨_, (true), zq1, H', ⟨zq73⟩, ⟨zq135⟩, ⟨by (with_reducible repeat (first | apply Kd.R_alloc | apply Kd.R_drewN | apply Kd.R_drew)); exact Kd.R_mono HO207.out (fun _ hk => hk.2)⟩, ⟨zq34⟩⟩
     obtain ⟨c19b0, c19b1⟩ := neI c19
     have c19b2 : ¬ (t204 = []) := fun h_ => c19 (by rw [h_]; rfl)
     (first | rw [c19b0] | (simp only [i64_w, i32_w]; rw [c19b0]) | skip)
     have H' := sd H
     clear H
     obtain ⟨Ao21, co21, eo21⟩ := Kd.R_slice HO207.out
     subst eo21
     go_wp2
     repeat (go_quiet (fail); try go_wp2)
     go_meet
     case rel => exact ⟨_, ((t205.toList != ([] : List UInt8))), zq1, H', ⟨zq73⟩, ⟨zq135⟩, ⟨by (with_reducible repeat (first | apply Kd.R_alloc | apply Kd.R_drewN | apply Kd.R_drew)); exact Kd.R_mono HO207.out (fun _ hk => hk.2)⟩, ⟨zq34⟩⟩
    case rest =>
     clear HC17
     try clear c1
     try clear p2
     try clear q2
     try clear hx2
     try clear qi2
     try clear c5
     try clear c5b0
     try clear c5b1
     try clear c5b2
     try clear c7
     try clear c7b0
     try clear c7b1
     try clear c8
     try clear c8b0
     try clear c8b1
     try clear c11
     try clear c12
     try clear c12b0
     try clear c12b1
     try clear c15
     try clear c15b0
     try clear c15b1
     try clear c19
     try clear c19b0
     try clear c19b1
     try clear c19b2
     try clear p20
     try clear q20
     try clear hx20
     try clear qi20
     try clear hx200_0
     try clear p2
     try clear p200
     try clear q2
     try clear q200
     obtain ⟨kq, x43_16, rfl, HA, HJ16, HO_2, HO_6, HB⟩ := hcut
     cases kq with
     | zero => exact absurd HA.out (by simp [frac_split.j1])
     | succ kj16 =>
      have H := HA.out
      clear HA
      simp only [frac_split.j1] at H
      by_cases c22 : x43_16 = true
      ·subst c22
       rw [if_pos rfl] at H
       simp only [Option.some.injEq, Prod.mk.injEq] at H
       obtain ⟨rfl, rfl, rfl⟩ := H
       go_wp2
       repeat (go_quiet (fail); try go_wp2)
       go_ret3
       exact ⟨_, _, zq8, zq43, zq43, zq34⟩
      replace c22 := Bool.eq_false_iff.mpr c22
      subst c22
      rw [if_neg Bool.false_ne_true] at H
      replace H := ifI H
      rcases H with ⟨c23, H⟩ | ⟨c23, H⟩
      ·have c23b0 : decide (0 < (t197.size : Int)) = true := decide_eq_true c23
       have c23b1 : decide (0 < t197.size) = true := decide_eq_true (by omega)
       clear c23
       replace H := ifI H
       rcases H with ⟨c25, H⟩ | ⟨c25, H⟩
       ·obtain ⟨c25b0, c25b1⟩ := eqI c25
        clear c25
        replace H := ifI H
        rcases H with ⟨c26, H⟩ | ⟨c26, H⟩
        ·have c26b0 : decide (0 < (t204.length : Int)) = true := decide_eq_true c26
         have c26b1 : decide (0 < t204.length) = true := decide_eq_true (by omega)
         clear c26
         simp only [Option.some.injEq, Prod.mk.injEq] at H
         obtain ⟨rfl, rfl, rfl⟩ := H
         have p24 : 0 ≤ (0 : Int) := (by omega)
         have q24 : 0 < t197.size := (by have : (0 : Int) < (t197.size : Int) := od; omega)
         have hx24 : ∀ h : 0 < t197.size, ((t197[0]'h).toNat : Int) = bt t197 0 := bt_at t197 0
         clear p24
         have qi24 : (0 < (t197.size : Int)) = True := eq_true (od)
         replace q24 := eq_true q24
         obtain ⟨Ao27, co27, eo27⟩ := Kd.R_slice HO_6.out
         subst eo27
         have p208 : 0 ≤ (0 : Int) := (by omega)
         have q208 : 0 < (t204.length : Int) := od
         obtain ⟨ad208, e208, hx208_0⟩ := Kd.at_int (Kd.R_reads' HO_6.out).2.2 0 p208 q208
         cases e208
         have qi208 : (0 < t204.length) = True := eq_true (by omega)
         (try rw [show ((0 : Int)).toNat = 0 from rfl] at hx208_0)
         (try rw [Addr.add_zero'] at hx208_0)
         replace p208 := eq_true p208
         replace q208 := eq_true q208
         go_wp2
         repeat (go_quiet (fail); try go_wp2)
         go_ret3
         exact ⟨_, _, zq8, zq127, zq10, zq34⟩
        exact absurd H (by simp)
       obtain ⟨c25b0, c25b1⟩ := neI c25
       replace H := ifI H
       rcases H with ⟨c28, H⟩ | ⟨c28, H⟩
       ·obtain ⟨c28b0, c28b1⟩ := eqI c28
        clear c28
        obtain ⟨y209, hy209⟩ : ∃ y_ : List Int, y_ = (([1] : List Int)) := ⟨_, rfl⟩
        replace H : (frac_split.l0 kj16 t196 y209 t204 (t204.length : Int) 0) = some (r1, r2, r3) := by first | (rw [hy209]; with_reducible exact H) | (have H2_ := (Option.bind_some _ _).symm.trans H; rw [hy209]; with_reducible exact H2_) | (have H2_ := (Option.bind_some _ _).symm.trans H; with_reducible exact H2_) | with_reducible exact H | (rw [hy209]; exact H) | exact H
        have Ny209 := sd hy209
        clear hy209
        have H' := sd H
        clear H
        have p24 : 0 ≤ (0 : Int) := (by omega)
        have q24 : 0 < t197.size := (by have : (0 : Int) < (t197.size : Int) := od; omega)
        have hx24 : ∀ h : 0 < t197.size, ((t197[0]'h).toNat : Int) = bt t197 0 := bt_at t197 0
        clear p24
        have qi24 : (0 < (t197.size : Int)) = True := eq_true (od)
        replace q24 := eq_true q24
        go_wp2_with (first | ((with_reducible refine gate_dst (N := 56) rfl ?_); (try (refine gate_guard (by rfl) ?_; dsimp only)); refine Kd.R_lit (Kd.int .u8) _ 5 ?hg (N := 56) ?hd (xs := ([1] : List Int)) (inner := [.int .u8 1]) (ok := fun _ => True) (okp := fun _ => True) ?hr ?hp (fun _ hk => hk) trivial (Below.refl _ _) (Nat.le_refl _) (by simp) ?_; (case hd => rfl); (case hg => rfl); (case hr => first | (go_simp; done) | (go_simp; rfl)); (case hp => exact (Reps.one (show Kd.M (Kd.int .u8) _ _ _ 1 [.int .u8 1] from rfl) (Reps.none _ _))); intro v210 w29 ho30 hb hg_ hnew_; clear hg_ hnew_; (first | rw [← Ny209.out] at ho30 | (simp only [Int.reduceToNat] at ho30; rw [← Ny209.out] at ho30)); have HO211 := sd (Kd.R_lower (Kd.R_new' (Kd.R_new' ho30 (Kd.R_lt zq127)) (Kd.R_lt zq10)) (below_size zq34)); replace HO_2 := sd (Kd.R_elder' zq127 (Kd.R_base ho30) hb); replace HO_6 := sd (Kd.R_elder' zq10 (Kd.R_base ho30) hb); replace HB := hbm HB hb; clear hb ho30; obtain ⟨Ao31, co31, eo31⟩ := Kd.R_slice HO_6.out; subst eo31))
        repeat (go_quiet (first | ((with_reducible refine gate_dst (N := 56) rfl ?_); (try (refine gate_guard (by rfl) ?_; dsimp only)); refine Kd.R_lit (Kd.int .u8) _ 5 ?hg (N := 56) ?hd (xs := ([1] : List Int)) (inner := [.int .u8 1]) (ok := fun _ => True) (okp := fun _ => True) ?hr ?hp (fun _ hk => hk) trivial (Below.refl _ _) (Nat.le_refl _) (by simp) ?_; (case hd => rfl); (case hg => rfl); (case hr => first | (go_simp; done) | (go_simp; rfl)); (case hp => exact (Reps.one (show Kd.M (Kd.int .u8) _ _ _ 1 [.int .u8 1] from rfl) (Reps.none _ _))); intro v210 w29 ho30 hb hg_ hnew_; clear hg_ hnew_; (first | rw [← Ny209.out] at ho30 | (simp only [Int.reduceToNat] at ho30; rw [← Ny209.out] at ho30)); have HO211 := sd (Kd.R_lower (Kd.R_new' (Kd.R_new' ho30 (Kd.R_lt zq127)) (Kd.R_lt zq10)) (below_size zq34)); replace HO_2 := sd (Kd.R_elder' zq127 (Kd.R_base ho30) hb); replace HO_6 := sd (Kd.R_elder' zq10 (Kd.R_base ho30) hb); replace HB := hbm HB hb; clear hb ho30; obtain ⟨Ao31, co31, eo31⟩ := Kd.R_slice HO_6.out; subst eo31)); try go_wp2_with (first | ((with_reducible refine gate_dst (N := 56) rfl ?_); (try (refine gate_guard (by rfl) ?_; dsimp only)); refine Kd.R_lit (Kd.int .u8) _ 5 ?hg (N := 56) ?hd (xs := ([1] : List Int)) (inner := [.int .u8 1]) (ok := fun _ => True) (okp := fun _ => True) ?hr ?hp (fun _ hk => hk) trivial (Below.refl _ _) (Nat.le_refl _) (by simp) ?_; (case hd => rfl); (case hg => rfl); (case hr => first | (go_simp; done) | (go_simp; rfl)); (case hp => exact (Reps.one (show Kd.M (Kd.int .u8) _ _ _ 1 [.int .u8 1] from rfl) (Reps.none _ _))); intro v210 w29 ho30 hb hg_ hnew_; clear hg_ hnew_; (first | rw [← Ny209.out] at ho30 | (simp only [Int.reduceToNat] at ho30; rw [← Ny209.out] at ho30)); have HO211 := sd (Kd.R_lower (Kd.R_new' (Kd.R_new' ho30 (Kd.R_lt zq127)) (Kd.R_lt zq10)) (below_size zq34)); replace HO_2 := sd (Kd.R_elder' zq127 (Kd.R_base ho30) hb); replace HO_6 := sd (Kd.R_elder' zq10 (Kd.R_base ho30) hb); replace HB := hbm HB hb; clear hb ho30; obtain ⟨Ao31, co31, eo31⟩ := Kd.R_slice HO_6.out; subst eo31)))
        go_loopg [3, 59] kj16 (fun kq v3 v59 w' => ∃ (x3_3 : List Int) (x59_3 : Int), v59 = .int .i64 x59_3 ∧ Aside0 (frac_split.l0 kq t196 x3_3 t204 (t204.length : Int) x59_3 = some (r1, r2, r3)) ∧ Aside0 (kq ≤ kj16) ∧ Aside0 (Kd.R (Kd.int .u8) 5 w' w.heap.size (fun k_ => some k_ ≠ (v3 : Value).ownBlock ∧ some k_ ≠ ((.slice Ao31 t204.length co31) : Value).ownBlock) v198 t196) ∧ Aside0 (Kd.R (Kd.int .u8) 5 w' w.heap.size (fun k_ => some k_ ≠ (v198 : Value).ownBlock ∧ some k_ ≠ ((.slice Ao31 t204.length co31) : Value).ownBlock) v3 x3_3) ∧ Aside0 (Kd.R (Kd.int .u8) 5 w' w.heap.size (fun k_ => some k_ ≠ (v198 : Value).ownBlock ∧ some k_ ≠ (v3 : Value).ownBlock) (.slice Ao31 t204.length co31) t204) ∧ Aside0 (Below w.heap.size w w'))
        case atStart => exact ⟨(y209), (0), zq1, H', ⟨Nat.le_refl _⟩, ⟨zq136⟩, ⟨by (with_reducible repeat (first | apply Kd.R_alloc | apply Kd.R_drewN | apply Kd.R_drew)); exact Kd.R_mono HO211.out (fun _ hk => ⟨hk.1.2, hk.2⟩)⟩, ⟨zq10⟩, ⟨zq34⟩⟩
        case round =>
         clear H'
         try clear c1
         try clear c2
         try clear p2
         try clear q2
         try clear hx2
         try clear qi2
         try clear c5
         try clear c5b0
         try clear c5b1
         try clear c5b2
         try clear c7
         try clear c7b0
         try clear c7b1
         try clear c8
         try clear c8b0
         try clear c8b1
         try clear c11
         try clear c12
         try clear c12b0
         try clear c12b1
         try clear c15
         try clear c15b0
         try clear c15b1
         try clear c19
         try clear c19b0
         try clear c19b1
         try clear c19b2
         try clear p20
         try clear q20
         try clear hx20
         try clear qi20
         try clear c22
         try clear c23
         try clear c23b0
         try clear c23b1
         try clear p24
         try clear q24
         try clear hx24
         try clear qi24
         try clear c25
         try clear c25b0
         try clear c25b1
         try clear c26
         try clear c26b0
         try clear c26b1
         try clear c28
         try clear c28b0
         try clear c28b1
         try clear hx200_0
         try clear hx208_0
         try clear p2
         try clear p20
         try clear p200
         try clear p208
         try clear p24
         try clear q2
         try clear q20
         try clear q200
         try clear q208
         try clear q24
         obtain ⟨x3_3, x59_3, rfl, HA, HK3, HO_2, HO_3, HO_6, HB⟩ := hrel
         cases gk with
         | zero => exact absurd HA.out (by simp [frac_split.l0])
         | succ k3 =>
          have H := HA.out
          clear HA
          simp only [frac_split.l0] at H
          replace H := ifI H
          rcases H with ⟨c32, H⟩ | ⟨c32, H⟩
          ·have c32b0 : decide (x59_3 < (t204.length : Int)) = true := decide_eq_true c32
           clear c32
           replace H := ifI H
           rcases H with ⟨c33, H⟩ | ⟨c33, H⟩
           ·have LMc33 := sd c33
            clear c33
            obtain ⟨y212, hy212⟩ : ∃ y_ : List Int, y_ = (x3_3 ++ [0]) := ⟨_, rfl⟩
            replace H : (frac_split.l0 k3 t196 y212 t204 (t204.length : Int) (wrap64 (x59_3 + 1))) = some (r1, r2, r3) := by first | (rw [hy212]; with_reducible exact H) | (have H2_ := (Option.bind_some _ _).symm.trans H; rw [hy212]; with_reducible exact H2_) | (have H2_ := (Option.bind_some _ _).symm.trans H; with_reducible exact H2_) | with_reducible exact H | (rw [hy212]; exact H) | exact H
            have Ny212 := sd hy212
            clear hy212
            have H' := sd H
            clear H
            go_wp2_with (first | ((with_reducible refine gate_builtin (b := .append) (xs := #[.tmp 61, .tmp 62]) rfl ?_); (try (refine gate_guard (by rfl) ?_; dsimp only)); at_builtin; refine Kd.R_append (Kd.int .u8) (w0 := w) w.heap.size rfl (.tmp 61) (.tmp 62) 123 5 (.int .u8 0) 1 rfl Tryd.underlying123 info5 rfl (by decide) (by omega) u3 x3_3 0 [.int .u8 0] (fun k_ => some k_ ≠ (v198 : Value).ownBlock ∧ some k_ ≠ (.slice Ao31 t204.length co31 : Value).ownBlock) (fun _ => False) rfl rfl ?aP (fun _ hk => hk.elim) ?aF ?aO ?aB ?aS ?aL ?_; (case aP => exact rfl); (case aB => exact zq34); (case aF => exact (fun k_ hk => ⟨Kd.fresh' (Kd.R_lt zq127) k_ hk, Kd.fresh' (Kd.R_lt zq10) k_ hk⟩)); (case aO => exact zq44); (case aS => exact (below_size zq34)); (case aL => have := LMc33.out; omega); intro v213 w34 ho hb hg hat; rw [← Ny212.out] at ho; have HO214 := sd (ho); replace HO_2 := sd (Kd.R_after (ok := (fun k_ => some k_ ≠ (.slice Ao31 t204.length co31 : Value).ownBlock)) zq136 hg hat); replace HO_6 := sd (Kd.R_after (ok := (fun k_ => some k_ ≠ (v198 : Value).ownBlock)) zq10 hg hat); replace HB := sd (hb); clear HO_3; clear ho hb hg hat))
            repeat (go_quiet (first | ((with_reducible refine gate_builtin (b := .append) (xs := #[.tmp 61, .tmp 62]) rfl ?_); (try (refine gate_guard (by rfl) ?_; dsimp only)); at_builtin; refine Kd.R_append (Kd.int .u8) (w0 := w) w.heap.size rfl (.tmp 61) (.tmp 62) 123 5 (.int .u8 0) 1 rfl Tryd.underlying123 info5 rfl (by decide) (by omega) u3 x3_3 0 [.int .u8 0] (fun k_ => some k_ ≠ (v198 : Value).ownBlock ∧ some k_ ≠ (.slice Ao31 t204.length co31 : Value).ownBlock) (fun _ => False) rfl rfl ?aP (fun _ hk => hk.elim) ?aF ?aO ?aB ?aS ?aL ?_; (case aP => exact rfl); (case aB => exact zq34); (case aF => exact (fun k_ hk => ⟨Kd.fresh' (Kd.R_lt zq127) k_ hk, Kd.fresh' (Kd.R_lt zq10) k_ hk⟩)); (case aO => exact zq44); (case aS => exact (below_size zq34)); (case aL => have := LMc33.out; omega); intro v213 w34 ho hb hg hat; rw [← Ny212.out] at ho; have HO214 := sd (ho); replace HO_2 := sd (Kd.R_after (ok := (fun k_ => some k_ ≠ (.slice Ao31 t204.length co31 : Value).ownBlock)) zq136 hg hat); replace HO_6 := sd (Kd.R_after (ok := (fun k_ => some k_ ≠ (v198 : Value).ownBlock)) zq10 hg hat); replace HB := sd (hb); clear HO_3; clear ho hb hg hat)); try go_wp2_with (first | ((with_reducible refine gate_builtin (b := .append) (xs := #[.tmp 61, .tmp 62]) rfl ?_); (try (refine gate_guard (by rfl) ?_; dsimp only)); at_builtin; refine Kd.R_append (Kd.int .u8) (w0 := w) w.heap.size rfl (.tmp 61) (.tmp 62) 123 5 (.int .u8 0) 1 rfl Tryd.underlying123 info5 rfl (by decide) (by omega) u3 x3_3 0 [.int .u8 0] (fun k_ => some k_ ≠ (v198 : Value).ownBlock ∧ some k_ ≠ (.slice Ao31 t204.length co31 : Value).ownBlock) (fun _ => False) rfl rfl ?aP (fun _ hk => hk.elim) ?aF ?aO ?aB ?aS ?aL ?_; (case aP => exact rfl); (case aB => exact zq34); (case aF => exact (fun k_ hk => ⟨Kd.fresh' (Kd.R_lt zq127) k_ hk, Kd.fresh' (Kd.R_lt zq10) k_ hk⟩)); (case aO => exact zq44); (case aS => exact (below_size zq34)); (case aL => have := LMc33.out; omega); intro v213 w34 ho hb hg hat; rw [← Ny212.out] at ho; have HO214 := sd (ho); replace HO_2 := sd (Kd.R_after (ok := (fun k_ => some k_ ≠ (.slice Ao31 t204.length co31 : Value).ownBlock)) zq136 hg hat); replace HO_6 := sd (Kd.R_after (ok := (fun k_ => some k_ ≠ (v198 : Value).ownBlock)) zq10 hg hat); replace HB := sd (hb); clear HO_3; clear ho hb hg hat)))
            go_roundg k3
            case measure => have := HJ2.out; have := HJ16.out; have := HK3.out; omega
            case rel => exact ⟨(y212), (wrap64 (x59_3 + 1)), zq1, H', ⟨by have := HJ2.out; have := HJ16.out; have := HK3.out; omega⟩, ⟨zq136⟩, ⟨by (with_reducible repeat (first | apply Kd.R_alloc | apply Kd.R_drewN | apply Kd.R_drew)); exact HO214.out⟩, ⟨zq10⟩, ⟨zq34⟩⟩
           exact absurd H (by simp)
          have c32b0 : decide (x59_3 < (t204.length : Int)) = false := decide_eq_false c32
          clear c32
          replace H := ifI H
          rcases H with ⟨c35, H⟩ | ⟨c35, H⟩
          ·have LMc35 := sd c35
           clear c35
           obtain ⟨y215, hy215⟩ : ∃ y_ : List Int, y_ = (t196 ++ t204) := ⟨_, rfl⟩
           replace H : (some (y215, x3_3, decide ((t204.length : Int) ≤ 6))) = some (r1, r2, r3) := by first | (rw [hy215]; with_reducible exact H) | (have H2_ := (Option.bind_some _ _).symm.trans H; rw [hy215]; with_reducible exact H2_) | (have H2_ := (Option.bind_some _ _).symm.trans H; with_reducible exact H2_) | with_reducible exact H | (rw [hy215]; exact H) | exact H
           have Ny215 := sd hy215
           clear hy215
           simp only [Option.some.injEq, Prod.mk.injEq] at H
           obtain ⟨rfl, rfl, rfl⟩ := H
           go_wp2_with (first | ((with_reducible refine gate_builtin (b := .append) (xs := #[.tmp 65, .tmp 66]) rfl ?_); (try (refine gate_guard (by rfl) ?_; dsimp only)); at_builtin; refine Kd.R_append_rows (Kd.int .u8) (w0 := w) w.heap.size rfl (.tmp 65) (.tmp 66) 123 5 (.int .u8 0) 1 rfl Tryd.underlying123 info5 rfl (by decide) (by omega) v198 t196 t204 _ _ _ (fun k_ => some k_ ≠ (u3 : Value).ownBlock ∧ some k_ ≠ (.slice Ao31 t204.length co31 : Value).ownBlock) (fun _ => False) rfl rfl ?aO ?aR (fun _ _ h => h) (fun _ h => h.elim) ?aF ?aB ?aS ?aL ?_; (case aR => repeat (first | exact (Kd.R_reads' HO_6.out).2.2 | (with_reducible refine Kd.C_alloc ?_ _) | (with_reducible refine Kd.C_drewN ?_ _) | (with_reducible refine Kd.C_drew ?_))); (case aB => exact zq34); (case aF => exact (fun k_ hk => ⟨Kd.fresh' (Kd.R_lt zq44) k_ hk, Kd.fresh' (Kd.R_lt zq10) k_ hk⟩)); (case aO => exact zq127); (case aS => exact (below_size zq34)); (case aL => have := LMc35.out; omega); intro v216 w36 ho hb hg hat; rw [← Ny215.out] at ho; have HO217 := sd (ho); replace HO_3 := sd (Kd.R_after (ok := (fun k_ => some k_ ≠ (.slice Ao31 t204.length co31 : Value).ownBlock)) zq137 hg hat); replace HO_6 := sd (Kd.R_after (ok := (fun k_ => some k_ ≠ (u3 : Value).ownBlock)) zq138 hg hat); replace HB := sd (hb); clear HO_2; clear ho hb hg hat))
           repeat (go_quiet (first | ((with_reducible refine gate_builtin (b := .append) (xs := #[.tmp 65, .tmp 66]) rfl ?_); (try (refine gate_guard (by rfl) ?_; dsimp only)); at_builtin; refine Kd.R_append_rows (Kd.int .u8) (w0 := w) w.heap.size rfl (.tmp 65) (.tmp 66) 123 5 (.int .u8 0) 1 rfl Tryd.underlying123 info5 rfl (by decide) (by omega) v198 t196 t204 _ _ _ (fun k_ => some k_ ≠ (u3 : Value).ownBlock ∧ some k_ ≠ (.slice Ao31 t204.length co31 : Value).ownBlock) (fun _ => False) rfl rfl ?aO ?aR (fun _ _ h => h) (fun _ h => h.elim) ?aF ?aB ?aS ?aL ?_; (case aR => repeat (first | exact (Kd.R_reads' HO_6.out).2.2 | (with_reducible refine Kd.C_alloc ?_ _) | (with_reducible refine Kd.C_drewN ?_ _) | (with_reducible refine Kd.C_drew ?_))); (case aB => exact zq34); (case aF => exact (fun k_ hk => ⟨Kd.fresh' (Kd.R_lt zq44) k_ hk, Kd.fresh' (Kd.R_lt zq10) k_ hk⟩)); (case aO => exact zq127); (case aS => exact (below_size zq34)); (case aL => have := LMc35.out; omega); intro v216 w36 ho hb hg hat; rw [← Ny215.out] at ho; have HO217 := sd (ho); replace HO_3 := sd (Kd.R_after (ok := (fun k_ => some k_ ≠ (.slice Ao31 t204.length co31 : Value).ownBlock)) zq137 hg hat); replace HO_6 := sd (Kd.R_after (ok := (fun k_ => some k_ ≠ (u3 : Value).ownBlock)) zq138 hg hat); replace HB := sd (hb); clear HO_2; clear ho hb hg hat)); try go_wp2_with (first | ((with_reducible refine gate_builtin (b := .append) (xs := #[.tmp 65, .tmp 66]) rfl ?_); (try (refine gate_guard (by rfl) ?_; dsimp only)); at_builtin; refine Kd.R_append_rows (Kd.int .u8) (w0 := w) w.heap.size rfl (.tmp 65) (.tmp 66) 123 5 (.int .u8 0) 1 rfl Tryd.underlying123 info5 rfl (by decide) (by omega) v198 t196 t204 _ _ _ (fun k_ => some k_ ≠ (u3 : Value).ownBlock ∧ some k_ ≠ (.slice Ao31 t204.length co31 : Value).ownBlock) (fun _ => False) rfl rfl ?aO ?aR (fun _ _ h => h) (fun _ h => h.elim) ?aF ?aB ?aS ?aL ?_; (case aR => repeat (first | exact (Kd.R_reads' HO_6.out).2.2 | (with_reducible refine Kd.C_alloc ?_ _) | (with_reducible refine Kd.C_drewN ?_ _) | (with_reducible refine Kd.C_drew ?_))); (case aB => exact zq34); (case aF => exact (fun k_ hk => ⟨Kd.fresh' (Kd.R_lt zq44) k_ hk, Kd.fresh' (Kd.R_lt zq10) k_ hk⟩)); (case aO => exact zq127); (case aS => exact (below_size zq34)); (case aL => have := LMc35.out; omega); intro v216 w36 ho hb hg hat; rw [← Ny215.out] at ho; have HO217 := sd (ho); replace HO_3 := sd (Kd.R_after (ok := (fun k_ => some k_ ≠ (.slice Ao31 t204.length co31 : Value).ownBlock)) zq137 hg hat); replace HO_6 := sd (Kd.R_after (ok := (fun k_ => some k_ ≠ (u3 : Value).ownBlock)) zq138 hg hat); replace HB := sd (hb); clear HO_2; clear ho hb hg hat)))
           go_ret3
           exact ⟨_, _, zq8, by (with_reducible repeat (first | apply Kd.R_alloc | apply Kd.R_drewN | apply Kd.R_drew)); exact Kd.R_mono HO217.out (fun _ hk => hk.1), by (with_reducible repeat (first | apply Kd.R_alloc | apply Kd.R_drewN | apply Kd.R_drew)); exact Kd.R_mono HO_3.out (fun _ hk => hk.2), zq34⟩
          exact absurd H (by simp)
       obtain ⟨c28b0, c28b1⟩ := neI c28
       simp only [Option.some.injEq, Prod.mk.injEq] at H
       obtain ⟨rfl, rfl, rfl⟩ := H
       have p24 : 0 ≤ (0 : Int) := (by omega)
       have q24 : 0 < t197.size := (by have : (0 : Int) < (t197.size : Int) := od; omega)
       have hx24 : ∀ h : 0 < t197.size, ((t197[0]'h).toNat : Int) = bt t197 0 := bt_at t197 0
       clear p24
       have qi24 : (0 < (t197.size : Int)) = True := eq_true (od)
       replace q24 := eq_true q24
       go_wp2
       repeat (go_quiet (fail); try go_wp2)
       go_ret3
       exact ⟨_, _, zq8, zq43, zq43, zq34⟩
      exact absurd H (by simp)
   exact absurd H (by simp)
def frac_digits_trim.l0 : Nat → List Int → Option (List Int)
 | 0, _ => none
 | k + 1, x0 => if (x0.length : Int) > 0 then (if 0 < (x0.length : Int) then (if (rd x0 0) = 0 then (if 1 ≤ (x0.length : Int) then (frac_digits_trim.l0 k (x0.drop 1)) else (none)) else (some x0)) else (none)) else (some x0)
def frac_digits_trim.f (k : Nat) (l0 : List Int) : Option (List Int) := frac_digits_trim.l0 k l0
theorem frac_digits_trim.mono_l : ∀ k, (∀ y0, LeO (frac_digits_trim.l0 k y0) (frac_digits_trim.l0 (k + 1) y0))
 | 0 => fun _ r h => by simp [frac_digits_trim.l0] at h
 | k + 1 => by
  have ih0 := frac_digits_trim.mono_l k
  ·intro y0
   unfold frac_digits_trim.l0
   repeat' (with_reducible first | exact ih0 _ | exact LeO.refl _ | exact LeO.none _ | refine LeO.ite ?_ ?_ | refine LeO.bind ?_ (fun _ => ?_))
theorem frac_digits_trim.mono : ∀ a0 k, LeO (frac_digits_trim.f k a0) (frac_digits_trim.f (k + 1) a0) := by
 intro a0 k
 have ih0 := frac_digits_trim.mono_l k
 unfold frac_digits_trim.f
 repeat' (with_reducible first | exact ih0 _ | exact LeO.refl _ | exact LeO.none _ | refine LeO.ite ?_ ?_ | refine LeO.bind ?_ (fun _ => ?_))
end Go.Proofs.YtelfiofnhchmbaaDoor.A
