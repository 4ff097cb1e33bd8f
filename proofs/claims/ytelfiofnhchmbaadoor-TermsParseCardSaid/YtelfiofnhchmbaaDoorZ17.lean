-- By pack.py, a program of this session's: declarations of this seat's texts, put together for a claim.
import Derived.Test.YtelfiofnhchmbaaDoorZ7
import Derived.Test.YtelfiofnhchmbaaDoorZ10
import Derived.Test.YtelfiofnhchmbaaDoorZ13
namespace Go.Proofs.YtelfiofnhchmbaaDoorW.PrintWords
set_option linter.unusedVariables false
set_option linter.unusedSimpArgs false
open Go.RowKit
namespace Kd
section
variable {w W : World} {A : Option Addr} {n : Nat}
theorem at_string {xs : List ByteArray} (h : Kd.string.C w A n xs) (i : Int) (h0 : 0 ≤ i) (h1 : i < n) : ∃ ad, A = some ad ∧ w.cell? (ad.add i.toNat) = some (.string (rdOf ByteArray.empty xs i)) :=
  ReadsOf.at_ (reads_of_C (enc := Value.string) (d := ByteArray.empty) (h1 := fun _ => rfl) h) i h0 h1
end
end Kd
end Go.Proofs.YtelfiofnhchmbaaDoorW.PrintWords
namespace Go.Proofs.YtelfiofnhchmbaaDoorW.PrintWords
set_option linter.unusedVariables false
set_option linter.unusedSimpArgs false
open Go.RowKit
namespace Kd
section
variable {α : Type} {d : Kd α} {e e' : Nat} {w w1 W : World} {base : Nat} {ok : Nat → Prop} {u v : Value} {xs : List α}
theorem R_typed (h : d.R e w base ok v xs) : ∀ k, v.ownBlock = some k → ∃ cells, w.heap[k]? = some (.cells cells e (0, 0)) := by
  obtain ⟨inner, ho⟩ := R_own h
  exact fun k hk => own_typed ho k hk
theorem R_over' (h : d.R e W base ok u xs) (hty : ∀ k, v.ownBlock = some k → ∃ cells, W.heap[k]? = some (.cells cells e' (0, 0))) (ht : ∀ q, q ∈ e :: d.E → q ≠ e') (hg : W.grownBy w1 v.ownBlock) : d.R e w1 base ok u xs := by
  refine R_mono (R_move (R_bound h) (fun k hk => hg.block k hk.2.2.1 (fun he => ?_))) (fun _ hk => hk.1)
  obtain ⟨_, _, _, q, hq, cells, hc⟩ := hk
  obtain ⟨cells', hc'⟩ := hty k he.symm
  rw [hc] at hc'
  injection hc' with hc'
  injection hc' with _ hc'
  exact ht q hq hc'
end
end Kd
end Go.Proofs.YtelfiofnhchmbaaDoorW.PrintWords
namespace Go.Proofs.YtelfiofnhchmbaaDoorW.PrintWords
set_option linter.unusedVariables false
set_option linter.unusedSimpArgs false
open Go.RowKit
theorem cell_far {W : World} {p a : Addr} (h : a.block ≠ p.block) (u : Value) : (W.setCell p u).cell? a = W.cell? a := by
  have := Below.heap_setCell W p u a.block h
  simp [World.cell?, this]
theorem own_blk {W : World} {base n c : Nat} {e : TypeId} {size g : Nat} {ad : Addr} {xs : List Value} (_ : W.ownsRow base e size (.slice (some ad) n c) n xs) (hne : some g ≠ (Value.slice (some ad) n c).ownBlock) : ad.block ≠ g := by
  rintro rfl
  exact hne (by simp [Value.ownBlock])
end Go.Proofs.YtelfiofnhchmbaaDoorW.PrintWords
namespace Go.Proofs.YtelfiofnhchmbaaDoorW.PrintWords
set_option linter.unusedVariables false
set_option linter.unusedSimpArgs false
open Go.RowKit
namespace Kd
section
variable {α β : Type} {d : Kd α} {d' : Kd β} {e e' base base' n : Nat} {ok ok' : Nat → Prop} {w W w1 W1 : World} {v u : Value} {xs : List α} {ys : List β} {A : Option Addr} {c : Nat}
theorem own_blk {ad : Addr} {g : Nat} (hne : some g ≠ (Value.slice (some ad) n c).ownBlock) : ad.block ≠ g := by
  rintro rfl
  exact hne (by simp [Value.ownBlock])
end
end Kd
end Go.Proofs.YtelfiofnhchmbaaDoorW.PrintWords
namespace Go.Proofs.YtelfiofnhchmbaaDoorW.PrintWords
open Go.RowKit
def mx (a b : Int) : Int := if a < b then b else a
end Go.Proofs.YtelfiofnhchmbaaDoorW.PrintWords
namespace Go.Proofs.YtelfiofnhchmbaaDoor.B
open Go.Lib Go.RowKit Go.Proofs.YtelfiofnhchmbaaDoorW.PrintWords Go.Proofs.YtelfiofnhchmbaaDoorW.PrintLast Go.Proofs.YtelfiofnhchmbaaDoorW.PrintMore
def makeS (n d : Int) : Int × Int × Int := if d = 0 then (0, 0, 2) else
  if 1000000 < n.natAbs / Nat.gcd n.natAbs d.natAbs ∨ 1000000 < d.natAbs / Nat.gcd n.natAbs d.natAbs then (0, 0, 4) else
  (if (decide (n < 0) != decide (d < 0)) = true then -((n.natAbs / Nat.gcd n.natAbs d.natAbs : Nat) : Int) else ((n.natAbs / Nat.gcd n.natAbs d.natAbs : Nat) : Int), ((d.natAbs / Nat.gcd n.natAbs d.natAbs : Nat) : Int), 0)
theorem tdiv_nat (x y : Nat) : Int.tdiv (x : Int) (y : Int) = ((x / y : Nat) : Int) := by
  rw [Int.tdiv_eq_ediv_of_nonneg (by omega), Int.natCast_ediv]
theorem gcd_pos_of {n d : Nat} (h : d ≠ 0) : 0 < Nat.gcd n d := Nat.gcd_pos_of_pos_right _ (by omega)
theorem div_u64 (a b : Nat) (h : a ≤ 9223372036854775808) : IntKind.u64.wrap (Int.tdiv (a : Int) (b : Int)) = ((a / b : Nat) : Int) := by
  rw [tdiv_nat, wu64]
  have := Nat.div_le_self a b
  generalize a / b = q at *
  omega
def mnDigit (a b : ByteArray) (br i : Int) : Int := bt a ((a.size : Int) - i) - 48 - br - (if i ≤ (b.size : Int) then bt b ((b.size : Int) - i) - 48 else 0)
theorem bytesRow_le (s : ByteArray) (cap : Nat) : s.size ≤ (bytesRow s cap).size := by
  unfold bytesRow
  rw [Array.size_append, Array.size_map]
  exact Nat.le_add_right _ _
end Go.Proofs.YtelfiofnhchmbaaDoor.B
namespace Go.Proofs.YtelfiofnhchmbaaDoor.B
open Go.RowKit
theorem quiet_add {P : Program} {f : FuncId} {args : Array Value} {w : World} {a n : Nat} {v : Value}
    (h : Calls P f args (w.drewN (a + n)) fun e w' => e = .returned v ∧ ∃ m, w' = (w.drewN (a + n)).drewN m) :
    Calls P f args (w.drewN (a + n)) fun e w'' => e = .returned v ∧ ∃ m, w'' = w.drewN (a + m) :=
  h.mono fun _ _ ⟨he, m, hm⟩ => ⟨he, n + m, by rw [hm, World.drewN_drewN, Nat.add_assoc]⟩
theorem toList_nil {s : ByteArray} (h : s.size = 0) : s.toList = [] := by
  have : s.data = #[] := Array.eq_empty_of_size_eq_zero h
  rw [ByteArray.toList_eq, this]
theorem toList_nil' {s : ByteArray} (h : s.toList = []) : s.size = 0 := by
  rw [ByteArray.toList_eq] at h
  show s.data.size = 0
  rw [← Array.length_toList, h]; rfl
end Go.Proofs.YtelfiofnhchmbaaDoor.B
namespace Go.Proofs.YtelfiofnhchmbaaDoor.A
open Go.RowKit Go.Proofs.YtelfiofnhchmbaaDoor.B Go.Proofs.YtelfiofnhchmbaaDoorW.PrintWords Go.Proofs.YtelfiofnhchmbaaDoorW.PrintLast Go.Proofs.YtelfiofnhchmbaaDoorW.PrintMore
attribute [local go_sem] max2_int min2_int max_two min_two max_three min_three max_four min_four
set_option linter.unusedVariables false
set_option linter.unusedSimpArgs false
theorem info9 : (Tryd.prog.info? 9).map (fun i => (i.zero, i.size, i.bytes)) = some (some (.string ⟨#[]⟩), 1, 16) := by kernel_rfl
end Go.Proofs.YtelfiofnhchmbaaDoor.A
namespace Go.Proofs.YtelfiofnhchmbaaDoor.A
open Go.RowKit Go.Proofs.YtelfiofnhchmbaaDoor.B Go.Proofs.YtelfiofnhchmbaaDoorW.PrintWords Go.Proofs.YtelfiofnhchmbaaDoorW.PrintLast Go.Proofs.YtelfiofnhchmbaaDoorW.PrintMore
theorem zq46 {P : Prop} (h : P := by have := HJ3.out; have := HJ7.out; first | omega | exact Nat.le_refl _) : P := h
theorem zq47 {P : Prop} (h : P := by repeat (first | (with_reducible first | exact HB.out | apply below_alloc | apply pw_below_drewN | apply below_drew1 | refine below_set ?_ GE400.out) | exact HB.out)) : P := h
theorem zq48 {P : Prop} (h : P := by repeat (first | (with_reducible first | exact HB.out | apply below_alloc | apply pw_below_drewN | apply below_drew1 | refine below_set ?_ GE426.out) | exact HB.out)) : P := h
theorem zq49 {P : Prop} (h : P := by (with_reducible repeat (first | apply Kd.R_alloc | apply Kd.R_drewN | apply Kd.R_drew)); exact HO429.out) : P := h
theorem zq50 {P : Prop} (h : P := by (with_reducible repeat (first | refine blk_drewN ?_ _ | refine blk_drew ?_ | refine blk_alloc ?_ _)); exact BK426.out) : P := h
theorem zq51 {P : Prop} (h : P := by (with_reducible repeat (first | refine blk_drewN ?_ _ | refine blk_drew ?_ | refine blk_alloc ?_ _)); refine blk_put (cs := #[.int .i64 0, .bool false, .slice none 0 0]) ?_ 2 _ rfl; (with_reducible repeat (first | refine blk_drewN ?_ _ | refine blk_drew ?_ | refine blk_alloc ?_ _)); refine blk_put (cs := #[.int .i64 0, .bool false, .slice none 0 0]) ?_ 1 _ rfl; (with_reducible repeat (first | refine blk_drewN ?_ _ | refine blk_drew ?_ | refine blk_alloc ?_ _)); refine blk_put (cs := #[.int .i64 0, .bool false, .slice none 0 0]) ?_ 0 _ rfl; (with_reducible repeat (first | refine blk_drewN ?_ _ | refine blk_drew ?_ | refine blk_alloc ?_ _)); exact BK426.out) : P := h
theorem zq53 {P : Prop} (h : P := by repeat (first | (with_reducible first | exact HB.out | apply below_alloc | apply pw_below_drewN | apply below_drew1 | refine below_set ?_ GE426.out | refine below_set ?_ GE434.out) | exact HB.out)) : P := h
theorem zq55 {P : Prop} (h : P := by repeat (first | (with_reducible first | exact HB.out | apply below_alloc | apply pw_below_drewN | apply below_drew1 | refine below_set ?_ GE426.out | refine below_set ?_ GE434.out | refine below_set ?_ GE439.out) | exact HB.out)) : P := h
theorem zq56 {P : Prop} (h : P := by repeat (first | exact (Kd.R_reads' HO_435002.out).2.2 | (with_reducible refine Kd.C_alloc ?_ _) | (with_reducible refine Kd.C_drewN ?_ _) | (with_reducible refine Kd.C_drew ?_))) : P := h
theorem zq57 {P : Prop} (h : P := by first | rfl | (simp [errW_none, errW_some] <;> rfl) | (simp only [← hji11, ← hji15]; first | rfl | (simp [errW_none, errW_some] <;> rfl)) | (simp [*, errW_none, errW_some] <;> rfl)) : P := h
theorem zq61 {P : Prop} (h : P := by rw [show ((p + 1 : Nat) : Int) = (p : Int) + 1 by omega]; exact HH.out) : P := h
theorem zq63 {P : Prop} (h : P := by (with_reducible repeat (first | refine blk_drewN ?_ _ | refine blk_drew ?_ | refine blk_alloc ?_ _)); exact BK409.out) : P := h
theorem zq64 {P : Prop} (h : P := by repeat (first | (with_reducible first | exact HB.out | apply below_alloc | apply pw_below_drewN | apply below_drew1 | refine below_set ?_ GE409.out) | exact HB.out)) : P := h
theorem zq65 {P : Prop} (h : P := by rw [← hq_]; exact (by (with_reducible repeat (first | refine blk_drewN ?_ _ | refine blk_drew ?_ | refine blk_alloc ?_ _)); exact BK409.out)) : P := h
theorem zq66 {P : Prop} (h : P := by rw [← hq_]; exact (by repeat (first | (with_reducible first | exact HB.out | apply below_alloc | apply pw_below_drewN | apply below_drew1 | refine below_set ?_ GE409.out) | exact HB.out))) : P := h
theorem zq67 {P : Prop} (h : P := by repeat (first | (with_reducible first | exact HB.out | apply below_alloc | apply pw_below_drewN | apply below_drew1 | refine below_set ?_ GE409.out | refine below_set ?_ GE423.out) | exact HB.out)) : P := h
theorem zq92 {P : Prop} (h : P := by repeat (first | (with_reducible first | exact HB.out | apply below_alloc | apply pw_below_drewN | apply below_drew1 | refine below_set ?_ GE455.out) | exact HB.out)) : P := h
theorem zq93 {P : Prop} (h : P := by (with_reducible repeat (first | refine blk_drewN ?_ _ | refine blk_drew ?_ | refine blk_alloc ?_ _)); refine blk_put (cs := #[.int .i64 t449, .bool t450, .slice none 0 0]) ?_ 2 _ rfl; (with_reducible repeat (first | refine blk_drewN ?_ _ | refine blk_drew ?_ | refine blk_alloc ?_ _)); refine blk_put (cs := #[.int .i64 t449, .bool false, .slice none 0 0]) ?_ 1 _ rfl; (with_reducible repeat (first | refine blk_drewN ?_ _ | refine blk_drew ?_ | refine blk_alloc ?_ _)); refine blk_put (cs := #[.int .i64 0, .bool false, .slice none 0 0]) ?_ 0 _ rfl; (with_reducible repeat (first | refine blk_drewN ?_ _ | refine blk_drew ?_ | refine blk_alloc ?_ _)); exact BK455.out) : P := h
theorem zq94 {P : Prop} (h : P := by (with_reducible repeat (first | refine blk_drewN ?_ _ | refine blk_drew ?_ | refine blk_alloc ?_ _)); refine blk_far ?_ NB455_462.out _; (with_reducible repeat (first | refine blk_drewN ?_ _ | refine blk_drew ?_ | refine blk_alloc ?_ _)); refine blk_far ?_ NB455_462.out _; (with_reducible repeat (first | refine blk_drewN ?_ _ | refine blk_drew ?_ | refine blk_alloc ?_ _)); refine blk_far ?_ NB455_462.out _; (with_reducible repeat (first | refine blk_drewN ?_ _ | refine blk_drew ?_ | refine blk_alloc ?_ _)); exact BK455.out) : P := h
theorem zq95 {P : Prop} (h : P := by (with_reducible repeat (first | refine blk_drewN ?_ _ | refine blk_drew ?_ | refine blk_alloc ?_ _)); refine blk_put (cs := #[.int .i64 t456, .bool t457, .slice none 0 0]) ?_ 2 _ rfl; (with_reducible repeat (first | refine blk_drewN ?_ _ | refine blk_drew ?_ | refine blk_alloc ?_ _)); refine blk_put (cs := #[.int .i64 t456, .bool false, .slice none 0 0]) ?_ 1 _ rfl; (with_reducible repeat (first | refine blk_drewN ?_ _ | refine blk_drew ?_ | refine blk_alloc ?_ _)); refine blk_put (cs := #[.int .i64 0, .bool false, .slice none 0 0]) ?_ 0 _ rfl; (with_reducible repeat (first | refine blk_drewN ?_ _ | refine blk_drew ?_ | refine blk_alloc ?_ _)); exact BK462.out) : P := h
theorem zq96 {P : Prop} (h : P := by repeat (first | (with_reducible first | exact HB.out | apply below_alloc | apply pw_below_drewN | apply below_drew1 | refine below_set ?_ GE455.out | refine below_set ?_ GE462.out) | exact HB.out)) : P := h
end Go.Proofs.YtelfiofnhchmbaaDoor.A
namespace Go.Proofs.YtelfiofnhchmbaaDoor.A
open Go.RowKit Go.Proofs.YtelfiofnhchmbaaDoor.B Go.Proofs.YtelfiofnhchmbaaDoorW.PrintWords Go.Proofs.YtelfiofnhchmbaaDoorW.PrintLast Go.Proofs.YtelfiofnhchmbaaDoorW.PrintMore
attribute [local go_sem] max2_int min2_int max_two min_two max_three min_three max_four min_four
set_option linter.unusedVariables false
set_option linter.unusedSimpArgs false
set_option maxHeartbeats 8000000
set_option maxRecDepth 100000
def rf03_Neg.f (a0_0 : Int) (a0_1 : Int) : Option (Int × Int) := some (wrap64 (-a0_0), a0_1)
theorem rf03_Neg.calls (a0_0 a0_1 r1 r2 : Int) (w : World) (h : rf03_Neg.f a0_0 a0_1 = some (r1, r2)) :
  Calls Tryd.prog 62 #[.agg #[.int .i64 a0_0, .int .i64 a0_1]] w fun e w' => e = .returned (.agg #[.int .i64 r1, .int .i64 r2]) ∧ Below w.heap.size w w' := by
 have hu38 := Tryd.underlying38
 have HB := sd (Below.refl w.heap.size w)
 have H := h
 clear h
 unfold rf03_Neg.f at H
 simp only [Option.some.injEq, Prod.mk.injEq] at H
 obtain ⟨rfl, rfl⟩ := H
 go_enter Tryd.func62, Tryd.ntmps62
 go_wp2_with (first | ((with_reducible refine gate_dst (N := 1) rfl ?_); refine bxA 1 #[.int .i64 a0_0, .int .i64 a0_1] 38 ?_; intro gb407 hg w2 hbox hb; have BK407 := sd (hbox); have GW407 := gem hg HB; have GE407 := GW407; replace HB := hbm HB hb; clear hb hbox hg) | ((with_reducible refine gate_dst (N := 2) rfl ?_); refine bxA 2 #[.int .i64 0, .int .i64 0] 38 ?_; intro gb408 hg w3 hbox hb; have BK408 := sd (hbox); have GW408 := gem hg HB; have GE408 := GW408; have NB407_408 := nlm hg BK407; have NB408_407 := ngm hg BK407; replace BK407 := bkm BK407 hb; replace HB := hbm HB hb; clear hb hbox hg; have hnb4 := NB407_408.out; have hnc4 := NB408_407.out; obtain ⟨_, _, _, _⟩ := bk2 BK407; obtain ⟨_, _, _, _⟩ := bk2 BK408))
 refine bodyPost_ret (results_cell_row rfl _ _ gb408 38 #[.int .i64 (wrap64 (-a0_0)), .int .i64 a0_1] (0, 0) _ rfl (by (with_reducible repeat (first | refine blk_drewN ?_ _ | refine blk_drew ?_ | refine blk_alloc ?_ _)); refine blk_put (cs := #[.int .i64 (wrap64 (-a0_0)), .int .i64 0]) ?_ 1 _ rfl; (with_reducible repeat (first | refine blk_drewN ?_ _ | refine blk_drew ?_ | refine blk_alloc ?_ _)); refine blk_put (cs := #[.int .i64 0, .int .i64 0]) ?_ 0 _ rfl; (with_reducible repeat (first | refine blk_drewN ?_ _ | refine blk_drew ?_ | refine blk_alloc ?_ _)); exact BK408.out) Tryd.underlying38 rfl (by kernel_rfl)) rfl ?_
 exact ⟨zq8, by repeat (first | (with_reducible first | exact HB.out | apply below_alloc | apply pw_below_drewN | apply below_drew1 | refine below_set ?_ GE407.out | refine below_set ?_ GE408.out) | exact HB.out)⟩
def rf24_parts.l0 : Nat → ByteArray → List ByteArray → Int → Int → Option (List ByteArray)
 | 0, _, _, _, _ => none
 | k + 1, x0, x3, x4, x5 => if x5 ≤ (x0.size : Int) then (if x5 = (x0.size : Int) then (if 0 ≤ x4 then (if x4 ≤ x5 then (if x3.length < 8796093022208 then (rf24_parts.l0 k x0 (x3 ++ [x0.extract (x4 : Int).toNat (x5 : Int).toNat]) (wrap64 (x5 + 1)) (wrap64 (x5 + 1))) else (none)) else (none)) else (none)) else (if 0 ≤ x5 then (if x5 < (x0.size : Int) then (if (bt x0 x5) = 32 then (if 0 ≤ x4 then (if x4 ≤ x5 then (if x3.length < 8796093022208 then (rf24_parts.l0 k x0 (x3 ++ [x0.extract (x4 : Int).toNat (x5 : Int).toNat]) (wrap64 (x5 + 1)) (wrap64 (x5 + 1))) else (none)) else (none)) else (none)) else (rf24_parts.l0 k x0 x3 x4 (wrap64 (x5 + 1)))) else (none)) else (none))) else (some x3)
def rf24_parts.f (k : Nat) (a0 : ByteArray) : Option (List ByteArray) := rf24_parts.l0 k a0 ([] : List ByteArray) 0 0
theorem rf24_parts.calls (k : Nat) (a0 : ByteArray) (r : List ByteArray) (w : World) (h : rf24_parts.f k a0 = some r) :
  Calls Tryd.prog 38 #[.string a0] w fun e w' => ∃ v0_ : Value, e = .returned (v0_) ∧ Kd.R Kd.string 9 w' w.heap.size (fun _ => True) v0_ r ∧ Below w.heap.size w w' := by
 have HB := sd (Below.refl w.heap.size w)
 have H := h
 clear h
 unfold rf24_parts.f at H
 have H' := sd H
 clear H
 go_enter Tryd.func38, Tryd.ntmps38
 go_wp2
 go_loopg [3, 4, 5] k (fun kq v3 v4 v5 w' => ∃ (x3_1 : List ByteArray) (x4_1 : Int) (x5_1 : Int), v4 = .int .i64 x4_1 ∧ v5 = .int .i64 x5_1 ∧ Aside0 (rf24_parts.l0 kq a0 x3_1 x4_1 x5_1 = some r) ∧ Aside0 (kq ≤ k) ∧ Aside0 (Kd.R Kd.string 9 w' w.heap.size (fun _ => True) v3 x3_1) ∧ Aside0 (Below w.heap.size w w'))
 case atStart => exact ⟨(([] : List ByteArray)), (0), (0), zq1, zq1, H', ⟨Nat.le_refl _⟩, ⟨zq43⟩, ⟨zq34⟩⟩
 case round =>
  clear H'
  obtain ⟨x3_1, x4_1, x5_1, rfl, rfl, HA, HK1, HO_3, HB⟩ := hrel
  cases gk with
  | zero => exact absurd HA.out (by simp [rf24_parts.l0])
  | succ k1 =>
   have H := HA.out
   clear HA
   simp only [rf24_parts.l0] at H
   replace H := ifI H
   rcases H with ⟨c2, H⟩ | ⟨c2, H⟩
   ·have c2b0 : decide (x5_1 ≤ (a0.size : Int)) = true := decide_eq_true c2
    clear c2
    replace H := ifI H
    rcases H with ⟨c3, H⟩ | ⟨c3, H⟩
    ·obtain ⟨c3b0, c3b1⟩ := eqI c3
     clear c3
     replace H := ifI H
     rcases H with ⟨c4, H⟩ | ⟨c4, H⟩
     ·have c4b0 := eq_true c4
      have c4b1 : decide (0 ≤ x4_1) = true := decide_eq_true c4
      clear c4
      replace H := ifI H
      rcases H with ⟨c5, H⟩ | ⟨c5, H⟩
      ·have c5b0 := eq_true c5
       have c5b1 : decide (x4_1 ≤ x5_1) = true := decide_eq_true c5
       clear c5
       have c6b0 := eq_true (od : x5_1 ≤ (a0.size : Int))
       replace H := ifI H
       rcases H with ⟨c7, H⟩ | ⟨c7, H⟩
       ·have LMc7 := sd c7
        clear c7
        obtain ⟨y376, hy376⟩ : ∃ y_ : List ByteArray, y_ = (x3_1 ++ [a0.extract (x4_1 : Int).toNat (x5_1 : Int).toNat]) := ⟨_, rfl⟩
        replace H : (rf24_parts.l0 k1 a0 y376 (wrap64 (x5_1 + 1)) (wrap64 (x5_1 + 1))) = some r := by first | (rw [hy376]; with_reducible exact H) | (have H2_ := (Option.bind_some _ _).symm.trans H; rw [hy376]; with_reducible exact H2_) | (have H2_ := (Option.bind_some _ _).symm.trans H; with_reducible exact H2_) | with_reducible exact H | (rw [hy376]; exact H) | exact H
        have Ny376 := sd hy376
        clear hy376
        have H' := sd H
        clear H
        go_wp2_with (first | ((with_reducible refine gate_builtin (b := .append) (xs := #[.tmp 22, .tmp 27]) rfl ?_); at_builtin; refine Kd.R_append Kd.string (w0 := w) w.heap.size rfl (.tmp 22) (.tmp 27) 71 9 (.string ⟨#[]⟩) 16 rfl Tryd.underlying71 info9 rfl (by decide) (by omega) u3 x3_1 (a0.extract (x4_1 : Int).toNat (x5_1 : Int).toNat) [.string (a0.extract (x4_1 : Int).toNat (x5_1 : Int).toNat)] (fun _ => True) (fun _ => False) rfl rfl ?aP (fun _ hk => hk.elim) ?aF ?aO ?aB ?aS ?aL ?_; (case aP => exact rfl); (case aB => exact zq34); (case aF => exact (fun _ _ => trivial)); (case aO => exact zq44); (case aS => exact (below_size zq34)); (case aL => have := LMc7.out; omega); intro v377 w8 ho hb hg hat; rw [← Ny376.out] at ho; have HO378 := sd (ho); replace HB := sd (hb); clear HO_3; clear ho hb hg hat))
        go_roundg k1
        case measure => have := HK1.out; omega
        case rel => exact ⟨(y376), (wrap64 (x5_1 + 1)), (wrap64 (x5_1 + 1)), zq1, zq1, H', ⟨by have := HK1.out; omega⟩, ⟨by (with_reducible repeat (first | apply Kd.R_alloc | apply Kd.R_drewN | apply Kd.R_drew)); exact HO378.out⟩, ⟨zq34⟩⟩
       exact absurd H (by simp)
      exact absurd H (by simp)
     exact absurd H (by simp)
    obtain ⟨c3b0, c3b1⟩ := neI c3
    replace H := ifI H
    rcases H with ⟨c9, H⟩ | ⟨c9, H⟩
    ·have c9b0 : decide (0 ≤ x5_1) = true := decide_eq_true c9
     clear c9
     replace H := ifI H
     rcases H with ⟨c10, H⟩ | ⟨c10, H⟩
     ·have c10b0 : decide (x5_1 < (a0.size : Int)) = true := decide_eq_true c10
      clear c10
      replace H := ifI H
      rcases H with ⟨c12, H⟩ | ⟨c12, H⟩
      ·obtain ⟨c12b0, c12b1⟩ := eqI c12
       clear c12
       replace H := ifI H
       rcases H with ⟨c13, H⟩ | ⟨c13, H⟩
       ·have c13b0 := eq_true c13
        have c13b1 : decide (0 ≤ x4_1) = true := decide_eq_true c13
        clear c13
        replace H := ifI H
        rcases H with ⟨c14, H⟩ | ⟨c14, H⟩
        ·have c14b0 := eq_true c14
         have c14b1 : decide (x4_1 ≤ x5_1) = true := decide_eq_true c14
         clear c14
         have c15b0 := eq_true (od : x5_1 ≤ (a0.size : Int))
         replace H := ifI H
         rcases H with ⟨c16, H⟩ | ⟨c16, H⟩
         ·have LMc16 := sd c16
          clear c16
          obtain ⟨y379, hy379⟩ : ∃ y_ : List ByteArray, y_ = (x3_1 ++ [a0.extract (x4_1 : Int).toNat (x5_1 : Int).toNat]) := ⟨_, rfl⟩
          replace H : (rf24_parts.l0 k1 a0 y379 (wrap64 (x5_1 + 1)) (wrap64 (x5_1 + 1))) = some r := by first | (rw [hy379]; with_reducible exact H) | (have H2_ := (Option.bind_some _ _).symm.trans H; rw [hy379]; with_reducible exact H2_) | (have H2_ := (Option.bind_some _ _).symm.trans H; with_reducible exact H2_) | with_reducible exact H | (rw [hy379]; exact H) | exact H
          have Ny379 := sd hy379
          clear hy379
          have H' := sd H
          clear H
          have p11 : 0 ≤ (x5_1 : Int) := od
          have q11 : x5_1 < (a0.size : Int) := od
          have hx11 := bt_at a0 x5_1
          replace p11 := eq_true p11
          replace q11 := eq_true q11
          go_wp2_with (first | ((with_reducible refine gate_builtin (b := .append) (xs := #[.tmp 22, .tmp 27]) rfl ?_); at_builtin; refine Kd.R_append Kd.string (w0 := w) w.heap.size rfl (.tmp 22) (.tmp 27) 71 9 (.string ⟨#[]⟩) 16 rfl Tryd.underlying71 info9 rfl (by decide) (by omega) u3 x3_1 (a0.extract (x4_1 : Int).toNat (x5_1 : Int).toNat) [.string (a0.extract (x4_1 : Int).toNat (x5_1 : Int).toNat)] (fun _ => True) (fun _ => False) rfl rfl ?aP (fun _ hk => hk.elim) ?aF ?aO ?aB ?aS ?aL ?_; (case aP => exact rfl); (case aB => exact zq34); (case aF => exact (fun _ _ => trivial)); (case aO => exact zq44); (case aS => exact (below_size zq34)); (case aL => have := LMc16.out; omega); intro v380 w17 ho hb hg hat; rw [← Ny379.out] at ho; have HO381 := sd (ho); replace HB := sd (hb); clear HO_3; clear ho hb hg hat))
          go_roundg k1
          case measure => have := HK1.out; omega
          case rel => exact ⟨(y379), (wrap64 (x5_1 + 1)), (wrap64 (x5_1 + 1)), zq1, zq1, H', ⟨by have := HK1.out; omega⟩, ⟨by (with_reducible repeat (first | apply Kd.R_alloc | apply Kd.R_drewN | apply Kd.R_drew)); exact HO381.out⟩, ⟨zq34⟩⟩
         exact absurd H (by simp)
        exact absurd H (by simp)
       exact absurd H (by simp)
      obtain ⟨c12b0, c12b1⟩ := neI c12
      have H' := sd H
      clear H
      have p11 : 0 ≤ (x5_1 : Int) := od
      have q11 : x5_1 < (a0.size : Int) := od
      have hx11 := bt_at a0 x5_1
      replace p11 := eq_true p11
      replace q11 := eq_true q11
      go_wp2
      go_roundg k1
      case measure => have := HK1.out; omega
      case rel => exact ⟨(x3_1), (x4_1), (wrap64 (x5_1 + 1)), zq1, zq1, H', ⟨by have := HK1.out; omega⟩, ⟨zq44⟩, ⟨zq34⟩⟩
     exact absurd H (by simp)
    exact absurd H (by simp)
   have c2b0 : decide (x5_1 ≤ (a0.size : Int)) = false := decide_eq_false c2
   clear c2
   obtain rfl := Option.some.inj H
   go_wp2
   go_ret
   exact ⟨_, zq8, zq44, zq34⟩
def rf01_Digits.l0 : Nat → ByteArray → Int → Option (Bool)
 | 0, _, _ => none
 | k + 1, x0, x3 => if x3 < (x0.size : Int) then (if 0 ≤ x3 then (if (bt x0 x3) < 48 then (some false) else (if (bt x0 x3) > 57 then (some false) else (rf01_Digits.l0 k x0 (wrap64 (x3 + 1))))) else (none)) else (some (x0.toList != ([] : List UInt8)))
def rf01_Digits.f (k : Nat) (a0 : ByteArray) : Option (Bool) := rf01_Digits.l0 k a0 0
theorem rf01_Digits.calls (k : Nat) (a0 : ByteArray) (r : Bool) (w : World) (h : rf01_Digits.f k a0 = some r) :
  Calls Tryd.prog 54 #[.string a0] w fun e w' => e = .returned (.bool r) ∧ Drawn0 w w' := by
 have H := h
 clear h
 unfold rf01_Digits.f at H
 have H' := sd H
 clear H
 go_enter Tryd.func54, Tryd.ntmps54
 go_wp2
 go_loopg [3] k (fun kq v3 w' => ∃ (x3_1 : Int), v3 = .int .i64 x3_1 ∧ Aside0 (rf01_Digits.l0 kq a0 x3_1 = some r) ∧ Aside0 (kq ≤ k) ∧ Drawn0 w w')
 case atStart => exact ⟨(0), zq1, H', ⟨Nat.le_refl _⟩, zq23⟩
 case round =>
  clear H'
  obtain ⟨x3_1, rfl, HA, HK1, ⟨m1, rfl⟩⟩ := hrel
  cases gk with
  | zero => exact absurd HA.out (by simp [rf01_Digits.l0])
  | succ k1 =>
   have H := HA.out
   clear HA
   simp only [rf01_Digits.l0] at H
   replace H := ifI H
   rcases H with ⟨c2, H⟩ | ⟨c2, H⟩
   ·have c2b0 : decide (x3_1 < (a0.size : Int)) = true := decide_eq_true c2
    clear c2
    replace H := ifI H
    rcases H with ⟨c3, H⟩ | ⟨c3, H⟩
    ·have c3b0 : decide (0 ≤ x3_1) = true := decide_eq_true c3
     clear c3
     replace H := ifI H
     rcases H with ⟨c5, H⟩ | ⟨c5, H⟩
     ·have c5b0 : decide ((bt a0 x3_1) < 48) = true := decide_eq_true c5
      clear c5
      obtain rfl := Option.some.inj H
      have p4 : 0 ≤ (x3_1 : Int) := od
      have q4 : x3_1 < (a0.size : Int) := od
      have hx4 := bt_at a0 x3_1
      replace p4 := eq_true p4
      replace q4 := eq_true q4
      go_wp2
      go_ret
      exact ⟨zq1, zq23⟩
     have c5b0 : decide ((bt a0 x3_1) < 48) = false := decide_eq_false c5
     clear c5
     replace H := ifI H
     rcases H with ⟨c7, H⟩ | ⟨c7, H⟩
     ·have c7b0 : decide (57 < (bt a0 x3_1)) = true := decide_eq_true c7
      clear c7
      obtain rfl := Option.some.inj H
      have p4 : 0 ≤ (x3_1 : Int) := od
      have q4 : x3_1 < (a0.size : Int) := od
      have hx4 := bt_at a0 x3_1
      replace p4 := eq_true p4
      replace q4 := eq_true q4
      have p6 : 0 ≤ (x3_1 : Int) := od
      have q6 : x3_1 < (a0.size : Int) := od
      have hx6 := bt_at a0 x3_1
      replace p6 := eq_true p6
      replace q6 := eq_true q6
      go_wp2
      go_ret
      exact ⟨zq1, zq23⟩
     have c7b0 : decide (57 < (bt a0 x3_1)) = false := decide_eq_false c7
     clear c7
     have H' := sd H
     clear H
     have p4 : 0 ≤ (x3_1 : Int) := od
     have q4 : x3_1 < (a0.size : Int) := od
     have hx4 := bt_at a0 x3_1
     replace p4 := eq_true p4
     replace q4 := eq_true q4
     have p6 : 0 ≤ (x3_1 : Int) := od
     have q6 : x3_1 < (a0.size : Int) := od
     have hx6 := bt_at a0 x3_1
     replace p6 := eq_true p6
     replace q6 := eq_true q6
     go_wp2
     go_roundg k1
     case measure => have := HK1.out; omega
     case rel => exact ⟨(wrap64 (x3_1 + 1)), zq1, H', ⟨by have := HK1.out; omega⟩, zq23⟩
    exact absurd H (by simp)
   have c2b0 : decide (x3_1 < (a0.size : Int)) = false := decide_eq_false c2
   clear c2
   obtain rfl := Option.some.inj H
   go_wp2
   go_ret
   exact ⟨zq1, zq23⟩
def rf01_size.f (a0 : Int) : Option (Int) := if a0 < 0 then (some (IntKind.u64.wrap ((IntKind.u64.wrap (18446744073709551615 - (IntKind.u64.wrap (a0)))) + 1))) else (some (IntKind.u64.wrap (a0)))
theorem rf01_size.calls (a0 r : Int) (w : World) (h : rf01_size.f a0 = some r) :
  Calls Tryd.prog 87 #[.int .i64 a0] w fun e w' => e = .returned (.int .u64 r) ∧ Drawn0 w w' := by
 have H := h
 clear h
 unfold rf01_size.f at H
 replace H := ifI H
 rcases H with ⟨c2, H⟩ | ⟨c2, H⟩
 ·have c2b0 : decide (a0 < 0) = true := decide_eq_true c2
  clear c2
  obtain rfl := Option.some.inj H
  go_enter Tryd.func87, Tryd.ntmps87
  go_wp2
  go_ret
  exact ⟨zq1, zq23⟩
 have c2b0 : decide (a0 < 0) = false := decide_eq_false c2
 clear c2
 obtain rfl := Option.some.inj H
 go_enter Tryd.func87, Tryd.ntmps87
 go_wp2
 go_ret
 exact ⟨zq1, zq23⟩
mutual
def rf01_Mul.j0 : Nat → Int → Int → Bool → Option (Int × Bool)
 | 0, _, _, _ => none
 | k + 1, x6, x7, x8 => if x8 = true then (rf01_Mul.j1 k x6 x7 x8 9223372036854775808) else (rf01_Mul.j1 k x6 x7 x8 9223372036854775807)
def rf01_Mul.j1 : Nat → Int → Int → Bool → Int → Option (Int × Bool)
 | 0, _, _, _, _ => none
 | k + 1, x6, x7, x8, x9 => if x7 > 0 then (if x7 = 0 then (none) else (rf01_Mul.j2 k x6 x7 x8 (decide (x6 > (IntKind.u64.wrap (Int.tdiv x9 x7)))))) else (rf01_Mul.j2 k x6 x7 x8 false)
def rf01_Mul.j2 : Nat → Int → Int → Bool → Bool → Option (Int × Bool)
 | 0, _, _, _, _ => none
 | k + 1, x6, x7, x8, x37 => if x37 = true then (some (0, false)) else (if x8 = true then (some (wrap64 (-(wrap64 (IntKind.u64.wrap (x6 * x7)))), true)) else (some (wrap64 (IntKind.u64.wrap (x6 * x7)), true)))
end
def rf01_Mul.f (k : Nat) (a0 : Int) (a1 : Int) : Option (Int × Bool) := (rf01_size.f a0).bind fun t382 => ((rf01_size.f a1).bind fun t383 => (if a0 < 0 then (if a1 > 0 then (rf01_Mul.j0 k t382 t383 true) else (if a0 > 0 then (rf01_Mul.j0 k t382 t383 (decide (a1 < 0))) else (rf01_Mul.j0 k t382 t383 false))) else (if a0 > 0 then (rf01_Mul.j0 k t382 t383 (decide (a1 < 0))) else (rf01_Mul.j0 k t382 t383 false))))
theorem rf01_Mul.calls (k : Nat) (a0 a1 r1 : Int) (r2 : Bool) (w : World) (h : rf01_Mul.f k a0 a1 = some (r1, r2)) :
  Calls Tryd.prog 55 #[.int .i64 a0, .int .i64 a1] w fun e w' => e = .returned (.tuple #[.int .i64 r1, .bool r2]) ∧ Drawn0 w w' := by
 have H := h
 clear h
 unfold rf01_Mul.f at H
 replace H := bdI H
 obtain ⟨t382, A3, H⟩ := H
 (try dsimp only at H)
 replace H := bdI H
 obtain ⟨t383, A4, H⟩ := H
 (try dsimp only at H)
 have HC5 := sd H
 clear H
 go_enter Tryd.func55, Tryd.ntmps55
 go_upto_region 2 with (first | ((with_reducible refine gate_callee (f := 87) rfl ?_); refine gL 11 Tryd.func87 #[.int .i64 a0] ?_; (with_reducible refine (rf01_size.calls a0 t382 _ A3.out).mono ?_); rintro e w' ⟨rfl, ⟨nd, rfl⟩⟩; refine ⟨_, rfl, ?_⟩) | ((with_reducible refine gate_callee (f := 87) rfl ?_); refine gL 13 Tryd.func87 #[.int .i64 a1] ?_; (with_reducible refine (rf01_size.calls a1 t383 _ A4.out).mono ?_); rintro e w' ⟨rfl, ⟨nd, rfl⟩⟩; refine ⟨_, rfl, ?_⟩))
 (try simp only [Act.put, List.setIfInBounds_toArray, List.set_cons_zero, List.set_cons_succ])
 go_cut [8] (fun v8 wc => ∃ (kq : Nat) (x8_4 : Bool), v8 = .bool x8_4 ∧ Aside0 (rf01_Mul.j0 kq t382 t383 x8_4 = some (r1, r2)) ∧ Aside0 (kq ≤ k) ∧ Drawn0 w wc)
 case first =>
  have H := HC5.out
  clear HC5
  replace H := ifI H
  rcases H with ⟨c6, H⟩ | ⟨c6, H⟩
  ·have c6b0 : decide (a0 < 0) = true := decide_eq_true c6
   clear c6
   (first | rw [c6b0] | (simp only [i64_w, i32_w]; rw [c6b0]) | skip)
   replace H := ifI H
   rcases H with ⟨c7, H⟩ | ⟨c7, H⟩
   ·have c7b0 : decide (0 < a1) = true := decide_eq_true c7
    clear c7
    have H' := sd H
    clear H
    go_wp2
    go_meet
    case rel => exact ⟨_, (true), zq1, H', ⟨by first | omega | exact Nat.le_refl _⟩, zq23⟩
   have c7b0 : decide (0 < a1) = false := decide_eq_false c7
   clear c7
   replace H := ifI H
   rcases H with ⟨c8, H⟩ | ⟨c8, H⟩
   ·have c8b0 : decide (0 < a0) = true := decide_eq_true c8
    clear c8
    have H' := sd H
    clear H
    go_wp2
    go_meet
    case rel => exact ⟨_, (decide (a1 < 0)), zq1, H', ⟨by first | omega | exact Nat.le_refl _⟩, zq23⟩
   have c8b0 : decide (0 < a0) = false := decide_eq_false c8
   clear c8
   have H' := sd H
   clear H
   go_wp2
   go_meet
   case rel => exact ⟨_, (false), zq1, H', ⟨by first | omega | exact Nat.le_refl _⟩, zq23⟩
  have c6b0 : decide (a0 < 0) = false := decide_eq_false c6
  clear c6
  (first | rw [c6b0] | (simp only [i64_w, i32_w]; rw [c6b0]) | skip)
  replace H := ifI H
  rcases H with ⟨c9, H⟩ | ⟨c9, H⟩
  ·have c9b0 : decide (0 < a0) = true := decide_eq_true c9
   clear c9
   have H' := sd H
   clear H
   go_wp2
   go_meet
   case rel => exact ⟨_, (decide (a1 < 0)), zq1, H', ⟨by first | omega | exact Nat.le_refl _⟩, zq23⟩
  have c9b0 : decide (0 < a0) = false := decide_eq_false c9
  clear c9
  have H' := sd H
  clear H
  go_wp2
  go_meet
  case rel => exact ⟨_, (false), zq1, H', ⟨by first | omega | exact Nat.le_refl _⟩, zq23⟩
 case rest =>
  clear HC5
  try clear p2
  try clear c5
  try clear c6
  try clear c6b0
  try clear c7
  try clear c7b0
  try clear c8
  try clear c8b0
  try clear c9
  try clear c9b0
  obtain ⟨kq, x8_4, rfl, HA, HJ4, ⟨mc4, rfl⟩⟩ := hcut
  cases kq with
  | zero => exact absurd HA.out (by simp [rf01_Mul.j0])
  | succ kj4 =>
   have H := HA.out
   clear HA
   simp only [rf01_Mul.j0] at H
   have HC10 := sd H
   clear H
   go_upto_if 28 with (fail)
   go_cut [9] (fun v9 wc => ∃ (kq : Nat) (x9_9 : Int), v9 = .int .u64 x9_9 ∧ Aside0 (rf01_Mul.j1 kq t382 t383 x8_4 x9_9 = some (r1, r2)) ∧ Aside0 (kq ≤ kj4) ∧ Drawn0 w wc)
   case first =>
    have H := HC10.out
    clear HC10
    by_cases c11 : x8_4 = true
    ·subst c11
     rw [if_pos rfl] at H
     have H' := sd H
     clear H
     go_wp2
     go_meet
     case rel => exact ⟨_, (9223372036854775808), zq1, H', ⟨by have := HJ4.out; first | omega | exact Nat.le_refl _⟩, zq23⟩
    replace c11 := Bool.eq_false_iff.mpr c11
    subst c11
    rw [if_neg Bool.false_ne_true] at H
    have H' := sd H
    clear H
    go_wp2
    go_meet
    case rel => exact ⟨_, (9223372036854775807), zq1, H', ⟨by have := HJ4.out; first | omega | exact Nat.le_refl _⟩, zq23⟩
   case rest =>
    clear HC10
    try clear c1
    try clear p2
    try clear c4
    try clear c5
    try clear c6
    try clear c6b0
    try clear c7
    try clear c7b0
    try clear c8
    try clear c8b0
    try clear c9
    try clear c9b0
    try clear c11
    try clear p2
    obtain ⟨kq, x9_9, rfl, HA, HJ9, ⟨mc9, rfl⟩⟩ := hcut
    cases kq with
    | zero => exact absurd HA.out (by simp [rf01_Mul.j1])
    | succ kj9 =>
     have H := HA.out
     clear HA
     simp only [rf01_Mul.j1] at H
     have HC12 := sd H
     clear H
     go_upto_region 6 with (fail)
     go_cut [37] (fun v37 wc => ∃ (kq : Nat) (x37_11 : Bool), v37 = .bool x37_11 ∧ Aside0 (rf01_Mul.j2 kq t382 t383 x8_4 x37_11 = some (r1, r2)) ∧ Aside0 (kq ≤ kj9) ∧ Drawn0 w wc)
     case first =>
      have H := HC12.out
      clear HC12
      replace H := ifI H
      rcases H with ⟨c13, H⟩ | ⟨c13, H⟩
      ·have c13b0 : decide (0 < t383) = true := decide_eq_true c13
       clear c13
       (first | rw [c13b0] | (simp only [i64_w, i32_w]; rw [c13b0]) | skip)
       replace H := ifI H
       rcases H with ⟨c14, H⟩ | ⟨c14, H⟩
       ·exact absurd H (by simp)
       obtain ⟨c14b0, c14b1⟩ := neI c14
       have H' := sd H
       clear H
       go_wp2
       go_meet
       case rel => exact ⟨_, (decide (t382 > (IntKind.u64.wrap (Int.tdiv x9_9 t383)))), zq1, H', ⟨by have := HJ4.out; have := HJ9.out; first | omega | exact Nat.le_refl _⟩, zq23⟩
      have c13b0 : decide (0 < t383) = false := decide_eq_false c13
      clear c13
      (first | rw [c13b0] | (simp only [i64_w, i32_w]; rw [c13b0]) | skip)
      have H' := sd H
      clear H
      go_wp2
      go_meet
      case rel => exact ⟨_, (false), zq1, H', ⟨by have := HJ4.out; have := HJ9.out; first | omega | exact Nat.le_refl _⟩, zq23⟩
     case rest =>
      clear HC12
      try clear c1
      try clear p2
      try clear c4
      try clear c5
      try clear c6
      try clear c6b0
      try clear c7
      try clear c7b0
      try clear c8
      try clear c8b0
      try clear c9
      try clear c9b0
      try clear c11
      try clear c13
      try clear c13b0
      try clear c14
      try clear c14b0
      try clear c14b1
      try clear p2
      obtain ⟨kq, x37_11, rfl, HA, HJ11, ⟨mc11, rfl⟩⟩ := hcut
      cases kq with
      | zero => exact absurd HA.out (by simp [rf01_Mul.j2])
      | succ kj11 =>
       have H := HA.out
       clear HA
       simp only [rf01_Mul.j2] at H
       by_cases c15 : x37_11 = true
       ·subst c15
        rw [if_pos rfl] at H
        simp only [Option.some.injEq, Prod.mk.injEq] at H
        obtain ⟨rfl, rfl⟩ := H
        go_wp2
        go_ret2
        exact ⟨zq1, zq23⟩
       replace c15 := Bool.eq_false_iff.mpr c15
       subst c15
       rw [if_neg Bool.false_ne_true] at H
       by_cases c16 : x8_4 = true
       ·subst c16
        rw [if_pos rfl] at H
        simp only [Option.some.injEq, Prod.mk.injEq] at H
        obtain ⟨rfl, rfl⟩ := H
        go_wp2
        go_ret2
        exact ⟨zq1, zq23⟩
       replace c16 := Bool.eq_false_iff.mpr c16
       subst c16
       rw [if_neg Bool.false_ne_true] at H
       simp only [Option.some.injEq, Prod.mk.injEq] at H
       obtain ⟨rfl, rfl⟩ := H
       go_wp2
       go_ret2
       exact ⟨zq1, zq23⟩
def rf01_Add.f (a0 : Int) (a1 : Int) : Option (Int × Bool) := if a1 > 0 then (if a0 > (wrap64 (9223372036854775807 - a1)) then (some (0, false)) else (if a1 < 0 then (if a0 < (wrap64 ((-9223372036854775808) - a1)) then (some (0, false)) else (some (wrap64 (a0 + a1), true))) else (some (wrap64 (a0 + a1), true)))) else (if a1 < 0 then (if a0 < (wrap64 ((-9223372036854775808) - a1)) then (some (0, false)) else (some (wrap64 (a0 + a1), true))) else (some (wrap64 (a0 + a1), true)))
theorem rf01_Add.calls (a0 a1 r1 : Int) (r2 : Bool) (w : World) (h : rf01_Add.f a0 a1 = some (r1, r2)) :
  Calls Tryd.prog 56 #[.int .i64 a0, .int .i64 a1] w fun e w' => e = .returned (.tuple #[.int .i64 r1, .bool r2]) ∧ Drawn0 w w' := by
 have H := h
 clear h
 unfold rf01_Add.f at H
 replace H := ifI H
 rcases H with ⟨c3, H⟩ | ⟨c3, H⟩
 ·have c3b0 : decide (0 < a1) = true := decide_eq_true c3
  clear c3
  replace H := ifI H
  rcases H with ⟨c4, H⟩ | ⟨c4, H⟩
  ·have c4b0 : decide ((wrap64 (9223372036854775807 - a1)) < a0) = true := decide_eq_true c4
   clear c4
   simp only [Option.some.injEq, Prod.mk.injEq] at H
   obtain ⟨rfl, rfl⟩ := H
   go_enter Tryd.func56, Tryd.ntmps56
   go_wp2
   go_ret2
   exact ⟨zq1, zq23⟩
  have c4b0 : decide ((wrap64 (9223372036854775807 - a1)) < a0) = false := decide_eq_false c4
  clear c4
  replace H := ifI H
  rcases H with ⟨c5, H⟩ | ⟨c5, H⟩
  ·have c5b0 : decide (a1 < 0) = true := decide_eq_true c5
   clear c5
   replace H := ifI H
   rcases H with ⟨c6, H⟩ | ⟨c6, H⟩
   ·have c6b0 : decide (a0 < (wrap64 ((-9223372036854775808) - a1))) = true := decide_eq_true c6
    clear c6
    simp only [Option.some.injEq, Prod.mk.injEq] at H
    obtain ⟨rfl, rfl⟩ := H
    go_enter Tryd.func56, Tryd.ntmps56
    go_wp2
    go_ret2
    exact ⟨zq1, zq23⟩
   have c6b0 : decide (a0 < (wrap64 ((-9223372036854775808) - a1))) = false := decide_eq_false c6
   clear c6
   simp only [Option.some.injEq, Prod.mk.injEq] at H
   obtain ⟨rfl, rfl⟩ := H
   go_enter Tryd.func56, Tryd.ntmps56
   go_wp2
   go_ret2
   exact ⟨zq1, zq23⟩
  have c5b0 : decide (a1 < 0) = false := decide_eq_false c5
  clear c5
  simp only [Option.some.injEq, Prod.mk.injEq] at H
  obtain ⟨rfl, rfl⟩ := H
  go_enter Tryd.func56, Tryd.ntmps56
  go_wp2
  go_ret2
  exact ⟨zq1, zq23⟩
 have c3b0 : decide (0 < a1) = false := decide_eq_false c3
 clear c3
 replace H := ifI H
 rcases H with ⟨c7, H⟩ | ⟨c7, H⟩
 ·have c7b0 : decide (a1 < 0) = true := decide_eq_true c7
  clear c7
  replace H := ifI H
  rcases H with ⟨c8, H⟩ | ⟨c8, H⟩
  ·have c8b0 : decide (a0 < (wrap64 ((-9223372036854775808) - a1))) = true := decide_eq_true c8
   clear c8
   simp only [Option.some.injEq, Prod.mk.injEq] at H
   obtain ⟨rfl, rfl⟩ := H
   go_enter Tryd.func56, Tryd.ntmps56
   go_wp2
   go_ret2
   exact ⟨zq1, zq23⟩
  have c8b0 : decide (a0 < (wrap64 ((-9223372036854775808) - a1))) = false := decide_eq_false c8
  clear c8
  simp only [Option.some.injEq, Prod.mk.injEq] at H
  obtain ⟨rfl, rfl⟩ := H
  go_enter Tryd.func56, Tryd.ntmps56
  go_wp2
  go_ret2
  exact ⟨zq1, zq23⟩
 have c7b0 : decide (a1 < 0) = false := decide_eq_false c7
 clear c7
 simp only [Option.some.injEq, Prod.mk.injEq] at H
 obtain ⟨rfl, rfl⟩ := H
 go_enter Tryd.func56, Tryd.ntmps56
 go_wp2
 go_ret2
 exact ⟨zq1, zq23⟩
mutual
def rf01_Parse.j0 : Nat → ByteArray → Int → Int → ByteArray → Bool → Option (Int × Int)
 | 0, _, _, _, _, _ => none
 | k + 1, x0, x1, x2, x8, x9 => if x9 = true then (if 1 ≤ (x0.size : Int) then (rf01_Parse.j1 k x1 x2 (x0.extract 1 x0.size) x9) else (none)) else (rf01_Parse.j1 k x1 x2 x8 x9)
def rf01_Parse.j1 : Nat → Int → Int → ByteArray → Bool → Option (Int × Int)
 | 0, _, _, _, _ => none
 | k + 1, x1, x2, x8, x9 => (rf01_Digits.f k x8).bind fun t384 => (if t384 = true then (if 0 < (x8.size : Int) then (if (bt x8 0) = 48 then (if (x8.size : Int) > 1 then (rf01_Parse.j2 k x1 x2 x8 x9 true) else (rf01_Parse.j2 k x1 x2 x8 x9 x9)) else (rf01_Parse.j2 k x1 x2 x8 x9 false)) else (none)) else (rf01_Parse.j2 k x1 x2 x8 x9 true))
def rf01_Parse.j2 : Nat → Int → Int → ByteArray → Bool → Bool → Option (Int × Int)
 | 0, _, _, _, _, _ => none
 | k + 1, x1, x2, x8, x9, x41 => if x41 = true then (some (0, 5)) else (rf01_Parse.l0 k x1 x2 x8 x9 0 0)
def rf01_Parse.l0 : Nat → Int → Int → ByteArray → Bool → Int → Int → Option (Int × Int)
 | 0, _, _, _, _, _, _ => none
 | k + 1, x1, x2, x8, x9, x10, x11 => if x11 < (x8.size : Int) then ((rf01_Mul.f k x10 10).bind fun bt385 => (if bt385.2 = true then (if 0 ≤ x11 then (if x9 = true then ((rf01_Add.f bt385.1 (-(((bt x8 x11) - 48) % 256))).bind fun bt387 => (if bt387.2 = true then (rf01_Parse.l0 k x1 x2 x8 x9 bt387.1 (wrap64 (x11 + 1))) else (some (0, 3)))) else ((rf01_Add.f bt385.1 (((bt x8 x11) - 48) % 256)).bind fun bt389 => (if bt389.2 = true then (rf01_Parse.l0 k x1 x2 x8 x9 bt389.1 (wrap64 (x11 + 1))) else (some (0, 3))))) else (none)) else (some (0, 3)))) else (if x10 < x1 then (some (0, 3)) else (if x10 > x2 then (some (0, 3)) else (some (x10, 0))))
end
def rf01_Parse.f (k : Nat) (a0 : ByteArray) (a1 : Int) (a2 : Int) : Option (Int × Int) := if a0.toList = ([] : List UInt8) then (rf01_Parse.j0 k a0 a1 a2 a0 false) else (if 0 < (a0.size : Int) then (rf01_Parse.j0 k a0 a1 a2 a0 ((bt a0 0) == 45)) else (none))
theorem rf01_Parse.calls (k : Nat) (a0 : ByteArray) (a1 a2 r1 r2 : Int) (w : World) (h : rf01_Parse.f k a0 a1 a2 = some (r1, r2)) :
  Calls Tryd.prog 39 #[.string a0, .int .i64 a1, .int .i64 a2] w fun e w' => e = .returned (.tuple #[.int .i64 r1, .int .i64 r2]) ∧ Drawn0 w w' := by
 have H := h
 clear h
 unfold rf01_Parse.f at H
 have HC4 := sd H
 clear H
 go_enter Tryd.func39, Tryd.ntmps39
 go_upto_region 2 with (fail)
 go_cut [9] (fun v9 wc => ∃ (kq : Nat) (x9_3 : Bool), v9 = .bool x9_3 ∧ Aside0 (rf01_Parse.j0 kq a0 a1 a2 a0 x9_3 = some (r1, r2)) ∧ Aside0 (kq ≤ k) ∧ Drawn0 w wc)
 case first =>
  have H := HC4.out
  clear HC4
  replace H := ifI H
  rcases H with ⟨c5, H⟩ | ⟨c5, H⟩
  ·obtain ⟨c5b0, c5b1⟩ := eqI c5
   clear c5
   (first | rw [c5b0] | (simp only [i64_w, i32_w]; rw [c5b0]) | skip)
   have H' := sd H
   clear H
   go_wp2
   go_meet
   case rel => exact ⟨_, (false), zq1, H', ⟨by first | omega | exact Nat.le_refl _⟩, zq23⟩
  obtain ⟨c5b0, c5b1⟩ := neI c5
  (first | rw [c5b0] | (simp only [i64_w, i32_w]; rw [c5b0]) | skip)
  replace H := ifI H
  rcases H with ⟨c6, H⟩ | ⟨c6, H⟩
  ·have c6b0 : decide (0 < (a0.size : Int)) = true := decide_eq_true c6
   have c6b1 : decide (0 < a0.size) = true := decide_eq_true (by omega)
   clear c6
   have H' := sd H
   clear H
   have p7 : 0 ≤ (0 : Int) := (by omega)
   have q7 : 0 < a0.size := (by have : (0 : Int) < (a0.size : Int) := od; omega)
   have hx7 : ∀ h : 0 < a0.size, ((a0[0]'h).toNat : Int) = bt a0 0 := bt_at a0 0
   clear p7
   have qi7 : (0 < (a0.size : Int)) = True := eq_true (od)
   replace q7 := eq_true q7
   go_wp2
   go_meet
   case rel => exact ⟨_, (((bt a0 0) == 45)), zq1, H', ⟨by first | omega | exact Nat.le_refl _⟩, zq23⟩
  exact absurd H (by simp)
 case rest =>
  clear HC4
  try clear p2
  try clear c3
  try clear c5
  try clear c5b0
  try clear c5b1
  try clear c6
  try clear c6b0
  try clear c6b1
  try clear p7
  try clear q7
  try clear hx7
  try clear qi7
  try clear p7
  try clear q7
  obtain ⟨kq, x9_3, rfl, HA, HJ3, ⟨mc3, rfl⟩⟩ := hcut
  cases kq with
  | zero => exact absurd HA.out (by simp [rf01_Parse.j0])
  | succ kj3 =>
   have H := HA.out
   clear HA
   simp only [rf01_Parse.j0] at H
   have HC8 := sd H
   clear H
   go_upto_if 23 with (fail)
   go_cut [8] (fun v8 wc => ∃ (kq : Nat) (x8_7 : ByteArray), v8 = .string x8_7 ∧ Aside0 (rf01_Parse.j1 kq a1 a2 x8_7 x9_3 = some (r1, r2)) ∧ Aside0 (kq ≤ kj3) ∧ Drawn0 w wc)
   case first =>
    have H := HC8.out
    clear HC8
    by_cases c9 : x9_3 = true
    ·subst c9
     rw [if_pos rfl] at H
     replace H := ifI H
     rcases H with ⟨c10, H⟩ | ⟨c10, H⟩
     ·have c10b0 := eq_true c10
      have c10b1 : decide (1 ≤ (a0.size : Int)) = true := decide_eq_true c10
      clear c10
      have H' := sd H
      clear H
      go_wp2
      go_meet
      case rel => exact ⟨_, (a0.extract 1 a0.size), zq1, H', ⟨zq45⟩, zq23⟩
     exact absurd H (by simp)
    replace c9 := Bool.eq_false_iff.mpr c9
    subst c9
    rw [if_neg Bool.false_ne_true] at H
    have H' := sd H
    clear H
    go_wp2
    go_meet
    case rel => exact ⟨_, (a0), zq1, H', ⟨zq45⟩, zq23⟩
   case rest =>
    clear HC8
    try clear c1
    try clear p2
    try clear c3
    try clear c5
    try clear c5b0
    try clear c5b1
    try clear c6
    try clear c6b0
    try clear c6b1
    try clear p7
    try clear q7
    try clear hx7
    try clear qi7
    try clear c9
    try clear c10
    try clear c10b0
    try clear c10b1
    try clear p2
    try clear p7
    try clear q7
    obtain ⟨kq, x8_7, rfl, HA, HJ7, ⟨mc7, rfl⟩⟩ := hcut
    cases kq with
    | zero => exact absurd HA.out (by simp [rf01_Parse.j1])
    | succ kj7 =>
     have H := HA.out
     clear HA
     simp only [rf01_Parse.j1] at H
     have HC11 := sd H
     clear H
     go_upto_region 5 with (fail)
     go_cut [41] (fun v41 wc => ∃ (kq : Nat) (x41_10 : Bool), v41 = .bool x41_10 ∧ Aside0 (rf01_Parse.j2 kq a1 a2 x8_7 x9_3 x41_10 = some (r1, r2)) ∧ Aside0 (kq ≤ kj7) ∧ Drawn0 w wc)
     case first =>
      have H := HC11.out
      clear HC11
      replace H := bdI H
      obtain ⟨t384, A12, H⟩ := H
      (try dsimp only at H)
      by_cases c13 : t384 = true
      ·subst c13
       rw [if_pos rfl] at H
       replace H := ifI H
       rcases H with ⟨c14, H⟩ | ⟨c14, H⟩
       ·have c14b0 : decide (0 < (x8_7.size : Int)) = true := decide_eq_true c14
        have c14b1 : decide (0 < x8_7.size) = true := decide_eq_true (by omega)
        clear c14
        (first | rw [c14b0] | (simp only [i64_w, i32_w]; rw [c14b0]) | skip)
        replace H := ifI H
        rcases H with ⟨c16, H⟩ | ⟨c16, H⟩
        ·obtain ⟨c16b0, c16b1⟩ := eqI c16
         clear c16
         replace H := ifI H
         rcases H with ⟨c17, H⟩ | ⟨c17, H⟩
         ·have c17b0 : decide (1 < (x8_7.size : Int)) = true := decide_eq_true c17
          have c17b1 : decide (1 < x8_7.size) = true := decide_eq_true (by omega)
          clear c17
          have H' := sd H
          clear H
          go_wp2_with (first | ((with_reducible refine gate_callee (f := 54) rfl ?_); refine gL 27 Tryd.func54 #[.string x8_7] ?_; (with_reducible refine (rf01_Digits.calls kj7 x8_7 true _ A12.out).mono ?_); rintro e w' ⟨rfl, ⟨nd, rfl⟩⟩; refine ⟨_, rfl, ?_⟩; have p15 : 0 ≤ (0 : Int) := (by omega); have q15 : 0 < x8_7.size := (by have : (0 : Int) < (x8_7.size : Int) := od; omega); have hx15 : ∀ h : 0 < x8_7.size, ((x8_7[0]'h).toNat : Int) = bt x8_7 0 := bt_at x8_7 0; clear p15; have qi15 : (0 < (x8_7.size : Int)) = True := eq_true (od); replace q15 := eq_true q15))
          go_meet
          case rel => exact ⟨_, (true), zq1, H', ⟨zq46⟩, zq23⟩
         have c17b0 : decide (1 < (x8_7.size : Int)) = false := decide_eq_false c17
         have c17b1 : decide (1 < x8_7.size) = false := decide_eq_false (by omega)
         clear c17
         have H' := sd H
         clear H
         go_wp2_with (first | ((with_reducible refine gate_callee (f := 54) rfl ?_); refine gL 27 Tryd.func54 #[.string x8_7] ?_; (with_reducible refine (rf01_Digits.calls kj7 x8_7 true _ A12.out).mono ?_); rintro e w' ⟨rfl, ⟨nd, rfl⟩⟩; refine ⟨_, rfl, ?_⟩; have p15 : 0 ≤ (0 : Int) := (by omega); have q15 : 0 < x8_7.size := (by have : (0 : Int) < (x8_7.size : Int) := od; omega); have hx15 : ∀ h : 0 < x8_7.size, ((x8_7[0]'h).toNat : Int) = bt x8_7 0 := bt_at x8_7 0; clear p15; have qi15 : (0 < (x8_7.size : Int)) = True := eq_true (od); replace q15 := eq_true q15))
         go_meet
         case rel => exact ⟨_, (x9_3), zq1, H', ⟨zq46⟩, zq23⟩
        obtain ⟨c16b0, c16b1⟩ := neI c16
        have H' := sd H
        clear H
        go_wp2_with (first | ((with_reducible refine gate_callee (f := 54) rfl ?_); refine gL 27 Tryd.func54 #[.string x8_7] ?_; (with_reducible refine (rf01_Digits.calls kj7 x8_7 true _ A12.out).mono ?_); rintro e w' ⟨rfl, ⟨nd, rfl⟩⟩; refine ⟨_, rfl, ?_⟩; have p15 : 0 ≤ (0 : Int) := (by omega); have q15 : 0 < x8_7.size := (by have : (0 : Int) < (x8_7.size : Int) := od; omega); have hx15 : ∀ h : 0 < x8_7.size, ((x8_7[0]'h).toNat : Int) = bt x8_7 0 := bt_at x8_7 0; clear p15; have qi15 : (0 < (x8_7.size : Int)) = True := eq_true (od); replace q15 := eq_true q15))
        go_meet
        case rel => exact ⟨_, (false), zq1, H', ⟨zq46⟩, zq23⟩
       exact absurd H (by simp)
      replace c13 := Bool.eq_false_iff.mpr c13
      subst c13
      rw [if_neg Bool.false_ne_true] at H
      have H' := sd H
      clear H
      go_wp2_with (first | ((with_reducible refine gate_callee (f := 54) rfl ?_); refine gL 27 Tryd.func54 #[.string x8_7] ?_; (with_reducible refine (rf01_Digits.calls kj7 x8_7 false _ A12.out).mono ?_); rintro e w' ⟨rfl, ⟨nd, rfl⟩⟩; refine ⟨_, rfl, ?_⟩))
      go_meet
      case rel => exact ⟨_, (true), zq1, H', ⟨zq46⟩, zq23⟩
     case rest =>
      clear HC11
      try clear c1
      try clear p1
      try clear q1
      try clear hx1
      try clear qi1
      try clear p2
      try clear c3
      try clear c5
      try clear c5b0
      try clear c5b1
      try clear c6
      try clear c6b0
      try clear c6b1
      try clear c7
      try clear p7
      try clear q7
      try clear hx7
      try clear qi7
      try clear c9
      try clear c10
      try clear c10b0
      try clear c10b1
      try clear c13
      try clear c14
      try clear c14b0
      try clear c14b1
      try clear p15
      try clear q15
      try clear hx15
      try clear qi15
      try clear c16
      try clear c16b0
      try clear c16b1
      try clear c17
      try clear c17b0
      try clear c17b1
      try clear p15
      try clear p2
      try clear p7
      try clear q15
      try clear q7
      obtain ⟨kq, x41_10, rfl, HA, HJ10, ⟨mc10, rfl⟩⟩ := hcut
      cases kq with
      | zero => exact absurd HA.out (by simp [rf01_Parse.j2])
      | succ kj10 =>
       have H := HA.out
       clear HA
       simp only [rf01_Parse.j2] at H
       by_cases c18 : x41_10 = true
       ·subst c18
        rw [if_pos rfl] at H
        simp only [Option.some.injEq, Prod.mk.injEq] at H
        obtain ⟨rfl, rfl⟩ := H
        go_wp2
        go_ret2
        exact ⟨zq1, zq23⟩
       replace c18 := Bool.eq_false_iff.mpr c18
       subst c18
       rw [if_neg Bool.false_ne_true] at H
       have H' := sd H
       clear H
       go_wp2
       go_loopg [10, 11] kj10 (fun kq v10 v11 w' => ∃ (x10_4 : Int) (x11_4 : Int), v10 = .int .i64 x10_4 ∧ v11 = .int .i64 x11_4 ∧ Aside0 (rf01_Parse.l0 kq a1 a2 x8_7 x9_3 x10_4 x11_4 = some (r1, r2)) ∧ Aside0 (kq ≤ kj10) ∧ Drawn0 w w')
       case atStart => exact ⟨(0), (0), zq1, zq1, H', ⟨Nat.le_refl _⟩, zq23⟩
       case round =>
        clear H'
        try clear c1
        try clear p1
        try clear q1
        try clear hx1
        try clear qi1
        try clear p2
        try clear c3
        try clear c5
        try clear c5b0
        try clear c5b1
        try clear c6
        try clear c6b0
        try clear c6b1
        try clear c7
        try clear p7
        try clear q7
        try clear hx7
        try clear qi7
        try clear c9
        try clear c10
        try clear c10b0
        try clear c10b1
        try clear c13
        try clear c14
        try clear c14b0
        try clear c14b1
        try clear p15
        try clear q15
        try clear hx15
        try clear qi15
        try clear c16
        try clear c16b0
        try clear c16b1
        try clear c17
        try clear c17b0
        try clear c17b1
        try clear c18
        try clear p1
        try clear p15
        try clear p2
        try clear p7
        try clear q1
        try clear q15
        try clear q7
        obtain ⟨x10_4, x11_4, rfl, rfl, HA, HK4, ⟨m4, rfl⟩⟩ := hrel
        cases gk with
        | zero => exact absurd HA.out (by simp [rf01_Parse.l0])
        | succ k4 =>
         have H := HA.out
         clear HA
         simp only [rf01_Parse.l0] at H
         replace H := ifI H
         rcases H with ⟨c19, H⟩ | ⟨c19, H⟩
         ·have c19b0 : decide (x11_4 < (x8_7.size : Int)) = true := decide_eq_true c19
          clear c19
          replace H := bdI H
          obtain ⟨⟨t385, t386⟩, A20, H⟩ := H
          (try dsimp only at H)
          by_cases c21 : t386 = true
          ·subst c21
           rw [if_pos rfl] at H
           replace H := ifI H
           rcases H with ⟨c22, H⟩ | ⟨c22, H⟩
           ·have c22b0 : decide (0 ≤ x11_4) = true := decide_eq_true c22
            clear c22
            by_cases c24 : x9_3 = true
            ·subst c24
             rw [if_pos rfl] at H
             replace H := bdI H
             obtain ⟨⟨t387, t388⟩, A25, H⟩ := H
             (try dsimp only at H)
             by_cases c26 : t388 = true
             ·subst c26
              rw [if_pos rfl] at H
              have H' := sd H
              clear H
              go_wp2_with (first | ((with_reducible refine gate_callee (f := 55) rfl ?_); refine gL 50 Tryd.func55 #[.int .i64 x10_4, .int .i64 10] ?_; (with_reducible refine (rf01_Mul.calls k4 x10_4 10 t385 true _ A20.out).mono ?_); rintro e w' ⟨rfl, ⟨nd, rfl⟩⟩; refine ⟨_, rfl, ?_⟩; have p23 : 0 ≤ (x11_4 : Int) := od; have q23 : x11_4 < (x8_7.size : Int) := od; have hx23 := bt_at x8_7 x11_4; replace p23 := eq_true p23; replace q23 := eq_true q23) | ((with_reducible refine gate_callee (f := 56) rfl ?_); refine gL 66 Tryd.func56 #[.int .i64 t385, .int .i64 (-(((bt x8_7 x11_4) - 48) % 256))] ?_; (with_reducible refine (rf01_Add.calls t385 (-(((bt x8_7 x11_4) - 48) % 256)) t387 true _ A25.out).mono ?_); rintro e w' ⟨rfl, ⟨nd, rfl⟩⟩; refine ⟨_, rfl, ?_⟩))
              go_roundg k4
              case measure => have := HJ3.out; have := HJ7.out; have := HJ10.out; have := HK4.out; omega
              case rel => exact ⟨(t387), (wrap64 (x11_4 + 1)), zq1, zq1, H', ⟨by have := HJ3.out; have := HJ7.out; have := HJ10.out; have := HK4.out; omega⟩, zq23⟩
             replace c26 := Bool.eq_false_iff.mpr c26
             subst c26
             rw [if_neg Bool.false_ne_true] at H
             simp only [Option.some.injEq, Prod.mk.injEq] at H
             obtain ⟨rfl, rfl⟩ := H
             go_wp2_with (first | ((with_reducible refine gate_callee (f := 55) rfl ?_); refine gL 50 Tryd.func55 #[.int .i64 x10_4, .int .i64 10] ?_; (with_reducible refine (rf01_Mul.calls k4 x10_4 10 t385 true _ A20.out).mono ?_); rintro e w' ⟨rfl, ⟨nd, rfl⟩⟩; refine ⟨_, rfl, ?_⟩; have p23 : 0 ≤ (x11_4 : Int) := od; have q23 : x11_4 < (x8_7.size : Int) := od; have hx23 := bt_at x8_7 x11_4; replace p23 := eq_true p23; replace q23 := eq_true q23) | ((with_reducible refine gate_callee (f := 56) rfl ?_); refine gL 66 Tryd.func56 #[.int .i64 t385, .int .i64 (-(((bt x8_7 x11_4) - 48) % 256))] ?_; (with_reducible refine (rf01_Add.calls t385 (-(((bt x8_7 x11_4) - 48) % 256)) t387 false _ A25.out).mono ?_); rintro e w' ⟨rfl, ⟨nd, rfl⟩⟩; refine ⟨_, rfl, ?_⟩))
             go_ret2
             exact ⟨zq1, zq23⟩
            replace c24 := Bool.eq_false_iff.mpr c24
            subst c24
            rw [if_neg Bool.false_ne_true] at H
            replace H := bdI H
            obtain ⟨⟨t389, t390⟩, A27, H⟩ := H
            (try dsimp only at H)
            by_cases c28 : t390 = true
            ·subst c28
             rw [if_pos rfl] at H
             have H' := sd H
             clear H
             go_wp2_with (first | ((with_reducible refine gate_callee (f := 55) rfl ?_); refine gL 50 Tryd.func55 #[.int .i64 x10_4, .int .i64 10] ?_; (with_reducible refine (rf01_Mul.calls k4 x10_4 10 t385 true _ A20.out).mono ?_); rintro e w' ⟨rfl, ⟨nd, rfl⟩⟩; refine ⟨_, rfl, ?_⟩; have p23 : 0 ≤ (x11_4 : Int) := od; have q23 : x11_4 < (x8_7.size : Int) := od; have hx23 := bt_at x8_7 x11_4; replace p23 := eq_true p23; replace q23 := eq_true q23) | ((with_reducible refine gate_callee (f := 56) rfl ?_); refine gL 66 Tryd.func56 #[.int .i64 t385, .int .i64 (((bt x8_7 x11_4) - 48) % 256)] ?_; (with_reducible refine (rf01_Add.calls t385 (((bt x8_7 x11_4) - 48) % 256) t389 true _ A27.out).mono ?_); rintro e w' ⟨rfl, ⟨nd, rfl⟩⟩; refine ⟨_, rfl, ?_⟩))
             go_roundg k4
             case measure => have := HJ3.out; have := HJ7.out; have := HJ10.out; have := HK4.out; omega
             case rel => exact ⟨(t389), (wrap64 (x11_4 + 1)), zq1, zq1, H', ⟨by have := HJ3.out; have := HJ7.out; have := HJ10.out; have := HK4.out; omega⟩, zq23⟩
            replace c28 := Bool.eq_false_iff.mpr c28
            subst c28
            rw [if_neg Bool.false_ne_true] at H
            simp only [Option.some.injEq, Prod.mk.injEq] at H
            obtain ⟨rfl, rfl⟩ := H
            go_wp2_with (first | ((with_reducible refine gate_callee (f := 55) rfl ?_); refine gL 50 Tryd.func55 #[.int .i64 x10_4, .int .i64 10] ?_; (with_reducible refine (rf01_Mul.calls k4 x10_4 10 t385 true _ A20.out).mono ?_); rintro e w' ⟨rfl, ⟨nd, rfl⟩⟩; refine ⟨_, rfl, ?_⟩; have p23 : 0 ≤ (x11_4 : Int) := od; have q23 : x11_4 < (x8_7.size : Int) := od; have hx23 := bt_at x8_7 x11_4; replace p23 := eq_true p23; replace q23 := eq_true q23) | ((with_reducible refine gate_callee (f := 56) rfl ?_); refine gL 66 Tryd.func56 #[.int .i64 t385, .int .i64 (((bt x8_7 x11_4) - 48) % 256)] ?_; (with_reducible refine (rf01_Add.calls t385 (((bt x8_7 x11_4) - 48) % 256) t389 false _ A27.out).mono ?_); rintro e w' ⟨rfl, ⟨nd, rfl⟩⟩; refine ⟨_, rfl, ?_⟩))
            go_ret2
            exact ⟨zq1, zq23⟩
           exact absurd H (by simp)
          replace c21 := Bool.eq_false_iff.mpr c21
          subst c21
          rw [if_neg Bool.false_ne_true] at H
          simp only [Option.some.injEq, Prod.mk.injEq] at H
          obtain ⟨rfl, rfl⟩ := H
          go_wp2_with (first | ((with_reducible refine gate_callee (f := 55) rfl ?_); refine gL 50 Tryd.func55 #[.int .i64 x10_4, .int .i64 10] ?_; (with_reducible refine (rf01_Mul.calls k4 x10_4 10 t385 false _ A20.out).mono ?_); rintro e w' ⟨rfl, ⟨nd, rfl⟩⟩; refine ⟨_, rfl, ?_⟩))
          go_ret2
          exact ⟨zq1, zq23⟩
         have c19b0 : decide (x11_4 < (x8_7.size : Int)) = false := decide_eq_false c19
         clear c19
         replace H := ifI H
         rcases H with ⟨c29, H⟩ | ⟨c29, H⟩
         ·have c29b0 : decide (x10_4 < a1) = true := decide_eq_true c29
          clear c29
          simp only [Option.some.injEq, Prod.mk.injEq] at H
          obtain ⟨rfl, rfl⟩ := H
          go_wp2
          go_ret2
          exact ⟨zq1, zq23⟩
         have c29b0 : decide (x10_4 < a1) = false := decide_eq_false c29
         clear c29
         replace H := ifI H
         rcases H with ⟨c30, H⟩ | ⟨c30, H⟩
         ·have c30b0 : decide (a2 < x10_4) = true := decide_eq_true c30
          clear c30
          simp only [Option.some.injEq, Prod.mk.injEq] at H
          obtain ⟨rfl, rfl⟩ := H
          go_wp2
          go_ret2
          exact ⟨zq1, zq23⟩
         have c30b0 : decide (a2 < x10_4) = false := decide_eq_false c30
         clear c30
         simp only [Option.some.injEq, Prod.mk.injEq] at H
         obtain ⟨rfl, rfl⟩ := H
         go_wp2
         go_ret2
         exact ⟨zq1, zq23⟩
def rf03_Make.j0 : Nat → Int → Int → Int → Int → Bool → Option (Int × Int × Int)
 | 0, _, _, _, _, _ => none
 | k + 1, x0, x1, x7, x8, x31 => if x31 = true then (some (0, 0, 4)) else (if ((decide (x0 < 0)) != (decide (x1 < 0))) = true then (some (wrap64 (-(wrap64 (x7))), wrap64 (x8), 0)) else (some (wrap64 (x7), wrap64 (x8), 0)))
def rf03_Make.f (k : Nat) (a0 : Int) (a1 : Int) : Option (Int × Int × Int) := if a1 = 0 then (some (0, 0, 2)) else ((rf03_size.f a0).bind fun t401 => ((rf03_size.f a1).bind fun t402 => ((rf03_divisor.f k t401 t402).bind fun t403 => ((rf03_size.f a0).bind fun t404 => (if t403 = 0 then (none) else ((rf03_size.f a1).bind fun t405 => (if (IntKind.u64.wrap (Int.tdiv t404 t403)) > 1000000 then (rf03_Make.j0 k a0 a1 (IntKind.u64.wrap (Int.tdiv t404 t403)) (IntKind.u64.wrap (Int.tdiv t405 t403)) true) else (rf03_Make.j0 k a0 a1 (IntKind.u64.wrap (Int.tdiv t404 t403)) (IntKind.u64.wrap (Int.tdiv t405 t403)) (decide ((IntKind.u64.wrap (Int.tdiv t405 t403)) > 1000000))))))))))
theorem rf03_Make.calls (k : Nat) (a0 a1 r1 r2 r3 : Int) (w : World) (h : rf03_Make.f k a0 a1 = some (r1, r2, r3)) :
  Calls Tryd.prog 60 #[.int .i64 a0, .int .i64 a1] w fun e w' => e = .returned (.tuple #[.agg #[.int .i64 r1, .int .i64 r2], .int .i64 r3]) ∧ Below w.heap.size w w' := by
 have hu38 := Tryd.underlying38
 have HB := sd (Below.refl w.heap.size w)
 have H := h
 clear h
 unfold rf03_Make.f at H
 replace H := ifI H
 rcases H with ⟨c3, H⟩ | ⟨c3, H⟩
 ·obtain ⟨c3b0, c3b1⟩ := eqI c3
  clear c3
  simp only [Option.some.injEq, Prod.mk.injEq] at H
  obtain ⟨rfl, rfl, rfl⟩ := H
  go_enter Tryd.func60, Tryd.ntmps60
  go_wp2_with (first | ((with_reducible refine gate_dst (N := 4) rfl ?_); refine bxA 4 #[.int .i64 0, .int .i64 0] 38 ?_; intro gb400 hg w4 hbox hb; have BK400 := sd (hbox); have GW400 := gem hg HB; have GE400 := GW400; replace HB := hbm HB hb; clear hb hbox hg; obtain ⟨_, _, _, _⟩ := bk2 BK400))
  repeat (go_quiet (first | ((with_reducible refine gate_dst (N := 4) rfl ?_); refine bxA 4 #[.int .i64 0, .int .i64 0] 38 ?_; intro gb400 hg w4 hbox hb; have BK400 := sd (hbox); have GW400 := gem hg HB; have GE400 := GW400; replace HB := hbm HB hb; clear hb hbox hg; obtain ⟨_, _, _, _⟩ := bk2 BK400)); try go_wp2_with (first | ((with_reducible refine gate_dst (N := 4) rfl ?_); refine bxA 4 #[.int .i64 0, .int .i64 0] 38 ?_; intro gb400 hg w4 hbox hb; have BK400 := sd (hbox); have GW400 := gem hg HB; have GE400 := GW400; replace HB := hbm HB hb; clear hb hbox hg; obtain ⟨_, _, _, _⟩ := bk2 BK400)))
  refine bodyPost_ret (results_ct rfl _ _ gb400 38 #[.int .i64 0, .int .i64 0] (0, 0) _ rfl (by (with_reducible repeat (first | refine blk_drewN ?_ _ | refine blk_drew ?_ | refine blk_alloc ?_ _)); refine blk_put (cs := #[.int .i64 0, .int .i64 0]) ?_ 1 _ rfl; (with_reducible repeat (first | refine blk_drewN ?_ _ | refine blk_drew ?_ | refine blk_alloc ?_ _)); refine blk_put (cs := #[.int .i64 0, .int .i64 0]) ?_ 0 _ rfl; (with_reducible repeat (first | refine blk_drewN ?_ _ | refine blk_drew ?_ | refine blk_alloc ?_ _)); exact BK400.out) Tryd.underlying38 rfl (by kernel_rfl)) rfl ?_
  exact ⟨zq8, zq47⟩
 obtain ⟨c3b0, c3b1⟩ := neI c3
 replace H := bdI H
 obtain ⟨t401, A6, H⟩ := H
 (try dsimp only at H)
 replace H := bdI H
 obtain ⟨t402, A7, H⟩ := H
 (try dsimp only at H)
 replace H := bdI H
 obtain ⟨t403, A8, H⟩ := H
 (try dsimp only at H)
 replace H := Option.bind_eq_some_iff.mp H
 obtain ⟨t404, A90, H⟩ := H
 obtain rfl : t401 = t404 := Option.some.inj (A6.out.symm.trans A90)
 replace H : (if t403 = 0 then (none) else ((rf03_size.f a1).bind fun t405 => (if (IntKind.u64.wrap (Int.tdiv t401 t403)) > 1000000 then (rf03_Make.j0 k a0 a1 (IntKind.u64.wrap (Int.tdiv t401 t403)) (IntKind.u64.wrap (Int.tdiv t405 t403)) true) else (rf03_Make.j0 k a0 a1 (IntKind.u64.wrap (Int.tdiv t401 t403)) (IntKind.u64.wrap (Int.tdiv t405 t403)) (decide ((IntKind.u64.wrap (Int.tdiv t405 t403)) > 1000000)))))) = some (r1, r2, r3) := H
 have A9 := sd A90
 clear A90
 replace H := ifI H
 rcases H with ⟨c10, H⟩ | ⟨c10, H⟩
 ·exact absurd H (by simp)
 obtain ⟨c10b0, c10b1⟩ := neI c10
 replace H := Option.bind_eq_some_iff.mp H
 obtain ⟨t405, A110, H⟩ := H
 obtain rfl : t402 = t405 := Option.some.inj (A7.out.symm.trans A110)
 replace H : (if (IntKind.u64.wrap (Int.tdiv t401 t403)) > 1000000 then (rf03_Make.j0 k a0 a1 (IntKind.u64.wrap (Int.tdiv t401 t403)) (IntKind.u64.wrap (Int.tdiv t402 t403)) true) else (rf03_Make.j0 k a0 a1 (IntKind.u64.wrap (Int.tdiv t401 t403)) (IntKind.u64.wrap (Int.tdiv t402 t403)) (decide ((IntKind.u64.wrap (Int.tdiv t402 t403)) > 1000000)))) = some (r1, r2, r3) := H
 have A11 := sd A110
 clear A110
 have HC12 := sd H
 clear H
 go_enter Tryd.func60, Tryd.ntmps60
 go_upto_region 5 with (first | ((with_reducible refine gate_dst (N := 4) rfl ?_); refine bxA 4 #[.int .i64 0, .int .i64 0] 38 ?_; intro gb400 hg w13 hbox hb; have BK400 := sd (hbox); have GW400 := gem hg HB; have GE400 := GW400; replace HB := hbm HB hb; clear hb hbox hg) | (go_at_call 66; (with_reducible refine (rf03_size.calls a0 t401 _ A6.out).mono ?_); rintro e w' ⟨rfl, ⟨nd, rfl⟩⟩; (try first | exact ⟨rfl, _, World.drewN_drewN _ _ _⟩ | exact ⟨rfl, _, Eq.trans (World.drewN_drewN _ _ _) (congrArg (World.drewN _) (Nat.add_assoc _ _ _))⟩)) | (go_at_call 66; (with_reducible refine (rf03_size.calls a1 t402 _ A7.out).mono ?_); rintro e w' ⟨rfl, ⟨nd, rfl⟩⟩; (try first | exact ⟨rfl, _, World.drewN_drewN _ _ _⟩ | exact ⟨rfl, _, Eq.trans (World.drewN_drewN _ _ _) (congrArg (World.drewN _) (Nat.add_assoc _ _ _))⟩)) | (go_at_call 65; (with_reducible refine (rf03_divisor.calls k t401 t402 t403 _ A8.out).mono ?_); rintro e w' ⟨rfl, ⟨nd, rfl⟩⟩; (try first | exact ⟨rfl, _, World.drewN_drewN _ _ _⟩ | exact ⟨rfl, _, Eq.trans (World.drewN_drewN _ _ _) (congrArg (World.drewN _) (Nat.add_assoc _ _ _))⟩)) | (go_at_call 66; (with_reducible refine (rf03_size.calls a0 t401 _ A9.out).mono ?_); rintro e w' ⟨rfl, ⟨nd, rfl⟩⟩; (try first | exact ⟨rfl, _, World.drewN_drewN _ _ _⟩ | exact ⟨rfl, _, Eq.trans (World.drewN_drewN _ _ _) (congrArg (World.drewN _) (Nat.add_assoc _ _ _))⟩)) | (go_at_call 66; (with_reducible refine (rf03_size.calls a1 t402 _ A11.out).mono ?_); rintro e w' ⟨rfl, ⟨nd, rfl⟩⟩; (try first | exact ⟨rfl, _, World.drewN_drewN _ _ _⟩ | exact ⟨rfl, _, Eq.trans (World.drewN_drewN _ _ _) (congrArg (World.drewN _) (Nat.add_assoc _ _ _))⟩)))
 repeat (go_quiet (first | ((with_reducible refine gate_dst (N := 4) rfl ?_); refine bxA 4 #[.int .i64 0, .int .i64 0] 38 ?_; intro gb400 hg w13 hbox hb; have BK400 := sd (hbox); have GW400 := gem hg HB; have GE400 := GW400; replace HB := hbm HB hb; clear hb hbox hg) | (go_at_call 66; (with_reducible refine (rf03_size.calls a0 t401 _ A6.out).mono ?_); rintro e w' ⟨rfl, ⟨nd, rfl⟩⟩; (try first | exact ⟨rfl, _, World.drewN_drewN _ _ _⟩ | exact ⟨rfl, _, Eq.trans (World.drewN_drewN _ _ _) (congrArg (World.drewN _) (Nat.add_assoc _ _ _))⟩)) | (go_at_call 66; (with_reducible refine (rf03_size.calls a1 t402 _ A7.out).mono ?_); rintro e w' ⟨rfl, ⟨nd, rfl⟩⟩; (try first | exact ⟨rfl, _, World.drewN_drewN _ _ _⟩ | exact ⟨rfl, _, Eq.trans (World.drewN_drewN _ _ _) (congrArg (World.drewN _) (Nat.add_assoc _ _ _))⟩)) | (go_at_call 65; (with_reducible refine (rf03_divisor.calls k t401 t402 t403 _ A8.out).mono ?_); rintro e w' ⟨rfl, ⟨nd, rfl⟩⟩; (try first | exact ⟨rfl, _, World.drewN_drewN _ _ _⟩ | exact ⟨rfl, _, Eq.trans (World.drewN_drewN _ _ _) (congrArg (World.drewN _) (Nat.add_assoc _ _ _))⟩)) | (go_at_call 66; (with_reducible refine (rf03_size.calls a0 t401 _ A9.out).mono ?_); rintro e w' ⟨rfl, ⟨nd, rfl⟩⟩; (try first | exact ⟨rfl, _, World.drewN_drewN _ _ _⟩ | exact ⟨rfl, _, Eq.trans (World.drewN_drewN _ _ _) (congrArg (World.drewN _) (Nat.add_assoc _ _ _))⟩)) | (go_at_call 66; (with_reducible refine (rf03_size.calls a1 t402 _ A11.out).mono ?_); rintro e w' ⟨rfl, ⟨nd, rfl⟩⟩; (try first | exact ⟨rfl, _, World.drewN_drewN _ _ _⟩ | exact ⟨rfl, _, Eq.trans (World.drewN_drewN _ _ _) (congrArg (World.drewN _) (Nat.add_assoc _ _ _))⟩))); go_upto_region 5 with (first | ((with_reducible refine gate_dst (N := 4) rfl ?_); refine bxA 4 #[.int .i64 0, .int .i64 0] 38 ?_; intro gb400 hg w13 hbox hb; have BK400 := sd (hbox); have GW400 := gem hg HB; have GE400 := GW400; replace HB := hbm HB hb; clear hb hbox hg) | (go_at_call 66; (with_reducible refine (rf03_size.calls a0 t401 _ A6.out).mono ?_); rintro e w' ⟨rfl, ⟨nd, rfl⟩⟩; (try first | exact ⟨rfl, _, World.drewN_drewN _ _ _⟩ | exact ⟨rfl, _, Eq.trans (World.drewN_drewN _ _ _) (congrArg (World.drewN _) (Nat.add_assoc _ _ _))⟩)) | (go_at_call 66; (with_reducible refine (rf03_size.calls a1 t402 _ A7.out).mono ?_); rintro e w' ⟨rfl, ⟨nd, rfl⟩⟩; (try first | exact ⟨rfl, _, World.drewN_drewN _ _ _⟩ | exact ⟨rfl, _, Eq.trans (World.drewN_drewN _ _ _) (congrArg (World.drewN _) (Nat.add_assoc _ _ _))⟩)) | (go_at_call 65; (with_reducible refine (rf03_divisor.calls k t401 t402 t403 _ A8.out).mono ?_); rintro e w' ⟨rfl, ⟨nd, rfl⟩⟩; (try first | exact ⟨rfl, _, World.drewN_drewN _ _ _⟩ | exact ⟨rfl, _, Eq.trans (World.drewN_drewN _ _ _) (congrArg (World.drewN _) (Nat.add_assoc _ _ _))⟩)) | (go_at_call 66; (with_reducible refine (rf03_size.calls a0 t401 _ A9.out).mono ?_); rintro e w' ⟨rfl, ⟨nd, rfl⟩⟩; (try first | exact ⟨rfl, _, World.drewN_drewN _ _ _⟩ | exact ⟨rfl, _, Eq.trans (World.drewN_drewN _ _ _) (congrArg (World.drewN _) (Nat.add_assoc _ _ _))⟩)) | (go_at_call 66; (with_reducible refine (rf03_size.calls a1 t402 _ A11.out).mono ?_); rintro e w' ⟨rfl, ⟨nd, rfl⟩⟩; (try first | exact ⟨rfl, _, World.drewN_drewN _ _ _⟩ | exact ⟨rfl, _, Eq.trans (World.drewN_drewN _ _ _) (congrArg (World.drewN _) (Nat.add_assoc _ _ _))⟩))))
 (try simp only [Act.put, List.setIfInBounds_toArray, List.set_cons_zero, List.set_cons_succ])
 go_cut [31] (fun v31 wc => ∃ (kq : Nat) (x31_11 : Bool), v31 = .bool x31_11 ∧ Aside0 (rf03_Make.j0 kq a0 a1 (IntKind.u64.wrap (Int.tdiv t401 t403)) (IntKind.u64.wrap (Int.tdiv t402 t403)) x31_11 = some (r1, r2, r3)) ∧ Aside0 (kq ≤ k) ∧ Aside0 (wc.heap[gb400]? = some (.cells #[.int .i64 0, .int .i64 0] 38 (0, 0))) ∧ Aside0 (Below w.heap.size w wc))
 case first =>
  have H := HC12.out
  clear HC12
  replace H := ifI H
  rcases H with ⟨c14, H⟩ | ⟨c14, H⟩
  ·have c14b0 : decide (1000000 < (IntKind.u64.wrap (Int.tdiv t401 t403))) = true := decide_eq_true c14
   clear c14
   (first | rw [c14b0] | (simp only [i64_w, i32_w]; rw [c14b0]) | skip)
   have H' := sd H
   clear H
   go_wp2
   repeat (go_quiet (fail); try go_wp2)
   go_meet
   case rel => exact ⟨_, (true), zq1, H', ⟨by first | omega | exact Nat.le_refl _⟩, ⟨by (with_reducible repeat (first | refine blk_drewN ?_ _ | refine blk_drew ?_ | refine blk_alloc ?_ _)); exact BK400.out⟩, ⟨zq47⟩⟩
  have c14b0 : decide (1000000 < (IntKind.u64.wrap (Int.tdiv t401 t403))) = false := decide_eq_false c14
  clear c14
  (first | rw [c14b0] | (simp only [i64_w, i32_w]; rw [c14b0]) | skip)
  have H' := sd H
  clear H
  go_wp2
  repeat (go_quiet (fail); try go_wp2)
  go_meet
  case rel => exact ⟨_, (decide ((IntKind.u64.wrap (Int.tdiv t402 t403)) > 1000000)), zq1, H', ⟨by first | omega | exact Nat.le_refl _⟩, ⟨by (with_reducible repeat (first | refine blk_drewN ?_ _ | refine blk_drew ?_ | refine blk_alloc ?_ _)); exact BK400.out⟩, ⟨zq47⟩⟩
 case rest =>
  clear HC12
  try clear c1
  try clear p2
  try clear c3
  try clear c3b0
  try clear c3b1
  try clear c6
  try clear c10
  try clear c10b0
  try clear c10b1
  try clear c14
  try clear c14b0
  try clear hcz5_0
  try clear hcz5_1
  try clear hfz5_0
  try clear hfz5_1
  obtain ⟨kq, x31_11, rfl, HA, HJ11, BK400, HB⟩ := hcut
  cases kq with
  | zero => exact absurd HA.out (by simp [rf03_Make.j0])
  | succ kj11 =>
   have H := HA.out
   clear HA
   simp only [rf03_Make.j0] at H
   by_cases c15 : x31_11 = true
   ·subst c15
    rw [if_pos rfl] at H
    simp only [Option.some.injEq, Prod.mk.injEq] at H
    obtain ⟨rfl, rfl, rfl⟩ := H
    obtain ⟨_, _, _, _⟩ := bk2 BK400
    go_wp2
    repeat (go_quiet (fail); try go_wp2)
    refine bodyPost_ret (results_ct rfl _ _ gb400 38 #[.int .i64 0, .int .i64 0] (0, 0) _ rfl (by (with_reducible repeat (first | refine blk_drewN ?_ _ | refine blk_drew ?_ | refine blk_alloc ?_ _)); refine blk_put (cs := #[.int .i64 0, .int .i64 0]) ?_ 1 _ rfl; (with_reducible repeat (first | refine blk_drewN ?_ _ | refine blk_drew ?_ | refine blk_alloc ?_ _)); refine blk_put (cs := #[.int .i64 0, .int .i64 0]) ?_ 0 _ rfl; (with_reducible repeat (first | refine blk_drewN ?_ _ | refine blk_drew ?_ | refine blk_alloc ?_ _)); exact BK400.out) Tryd.underlying38 rfl (by kernel_rfl)) rfl ?_
    exact ⟨zq8, zq47⟩
   replace c15 := Bool.eq_false_iff.mpr c15
   subst c15
   rw [if_neg Bool.false_ne_true] at H
   replace H := ifI H
   rcases H with ⟨c17, H⟩ | ⟨c17, H⟩
   ·have c17b0 : ((decide (a0 < 0)) != (decide (a1 < 0))) = true := c17
    (try (have c17b1 : decide ((decide (a0 < 0)) = (decide (a1 < 0))) = false := by simpa using c17))
    (try (have c17b2 : ((decide (a0 < 0)) == (decide (a1 < 0))) = false := by simpa using c17))
    (try (have c17b3 : ¬ ((decide (a0 < 0)) = (decide (a1 < 0))) := by simpa using c17))
    clear c17
    simp only [Option.some.injEq, Prod.mk.injEq] at H
    obtain ⟨rfl, rfl, rfl⟩ := H
    go_wp2_with (first | ((with_reducible refine gate_dst (N := 9) rfl ?_); refine bxA 9 #[.int .i64 0, .int .i64 0] 38 ?_; intro gb406 hg w18 hbox hb; have BK406 := sd (hbox); have GW406 := gem hg HB; have GE406 := GW406; have NB400_406 := nlm hg BK400; have NB406_400 := ngm hg BK400; replace BK400 := bkm BK400 hb; replace HB := hbm HB hb; clear hb hbox hg; have hnb19 := NB406_400.out; have hnc19 := NB400_406.out; obtain ⟨_, _, _, _⟩ := bk2 BK406; obtain ⟨_, _, _, _⟩ := bk2 BK400))
    repeat (go_quiet (first | ((with_reducible refine gate_dst (N := 9) rfl ?_); refine bxA 9 #[.int .i64 0, .int .i64 0] 38 ?_; intro gb406 hg w18 hbox hb; have BK406 := sd (hbox); have GW406 := gem hg HB; have GE406 := GW406; have NB400_406 := nlm hg BK400; have NB406_400 := ngm hg BK400; replace BK400 := bkm BK400 hb; replace HB := hbm HB hb; clear hb hbox hg; have hnb19 := NB406_400.out; have hnc19 := NB400_406.out; obtain ⟨_, _, _, _⟩ := bk2 BK406; obtain ⟨_, _, _, _⟩ := bk2 BK400)); try go_wp2_with (first | ((with_reducible refine gate_dst (N := 9) rfl ?_); refine bxA 9 #[.int .i64 0, .int .i64 0] 38 ?_; intro gb406 hg w18 hbox hb; have BK406 := sd (hbox); have GW406 := gem hg HB; have GE406 := GW406; have NB400_406 := nlm hg BK400; have NB406_400 := ngm hg BK400; replace BK400 := bkm BK400 hb; replace HB := hbm HB hb; clear hb hbox hg; have hnb19 := NB406_400.out; have hnc19 := NB400_406.out; obtain ⟨_, _, _, _⟩ := bk2 BK406; obtain ⟨_, _, _, _⟩ := bk2 BK400)))
    refine bodyPost_ret (results_ct rfl _ _ gb400 38 #[.int .i64 (wrap64 (-(wrap64 ((IntKind.u64.wrap (Int.tdiv t401 t403)))))), .int .i64 (wrap64 ((IntKind.u64.wrap (Int.tdiv t402 t403))))] (0, 0) _ rfl (by (with_reducible repeat (first | refine blk_drewN ?_ _ | refine blk_drew ?_ | refine blk_alloc ?_ _)); refine blk_put (cs := #[.int .i64 (wrap64 (-(wrap64 ((IntKind.u64.wrap (Int.tdiv t401 t403)))))), .int .i64 0]) ?_ 1 _ rfl; (with_reducible repeat (first | refine blk_drewN ?_ _ | refine blk_drew ?_ | refine blk_alloc ?_ _)); refine blk_put (cs := #[.int .i64 0, .int .i64 0]) ?_ 0 _ rfl; (with_reducible repeat (first | refine blk_drewN ?_ _ | refine blk_drew ?_ | refine blk_alloc ?_ _)); refine blk_far ?_ NB400_406.out _; (with_reducible repeat (first | refine blk_drewN ?_ _ | refine blk_drew ?_ | refine blk_alloc ?_ _)); refine blk_far ?_ NB400_406.out _; (with_reducible repeat (first | refine blk_drewN ?_ _ | refine blk_drew ?_ | refine blk_alloc ?_ _)); refine blk_far ?_ NB400_406.out _; (with_reducible repeat (first | refine blk_drewN ?_ _ | refine blk_drew ?_ | refine blk_alloc ?_ _)); exact BK400.out) Tryd.underlying38 rfl (by kernel_rfl)) rfl ?_
    exact ⟨zq8, by repeat (first | (with_reducible first | exact HB.out | apply below_alloc | apply pw_below_drewN | apply below_drew1 | refine below_set ?_ GE400.out | refine below_set ?_ GE406.out) | exact HB.out)⟩
   have c17b0 : ((decide (a0 < 0)) != (decide (a1 < 0))) = false := by simpa using c17
   (try (have c17b1 : decide ((decide (a0 < 0)) = (decide (a1 < 0))) = true := by simpa using c17))
   (try (have c17b2 : ((decide (a0 < 0)) == (decide (a1 < 0))) = true := by simpa using c17))
   clear c17
   simp only [Option.some.injEq, Prod.mk.injEq] at H
   obtain ⟨rfl, rfl, rfl⟩ := H
   go_wp2_with (first | ((with_reducible refine gate_dst (N := 9) rfl ?_); refine bxA 9 #[.int .i64 0, .int .i64 0] 38 ?_; intro gb406 hg w22 hbox hb; have BK406 := sd (hbox); have GW406 := gem hg HB; have GE406 := GW406; have NB400_406 := nlm hg BK400; have NB406_400 := ngm hg BK400; replace BK400 := bkm BK400 hb; replace HB := hbm HB hb; clear hb hbox hg; have hnb23 := NB406_400.out; have hnc23 := NB400_406.out; obtain ⟨_, _, _, _⟩ := bk2 BK406; obtain ⟨_, _, _, _⟩ := bk2 BK400))
   repeat (go_quiet (first | ((with_reducible refine gate_dst (N := 9) rfl ?_); refine bxA 9 #[.int .i64 0, .int .i64 0] 38 ?_; intro gb406 hg w22 hbox hb; have BK406 := sd (hbox); have GW406 := gem hg HB; have GE406 := GW406; have NB400_406 := nlm hg BK400; have NB406_400 := ngm hg BK400; replace BK400 := bkm BK400 hb; replace HB := hbm HB hb; clear hb hbox hg; have hnb23 := NB406_400.out; have hnc23 := NB400_406.out; obtain ⟨_, _, _, _⟩ := bk2 BK406; obtain ⟨_, _, _, _⟩ := bk2 BK400)); try go_wp2_with (first | ((with_reducible refine gate_dst (N := 9) rfl ?_); refine bxA 9 #[.int .i64 0, .int .i64 0] 38 ?_; intro gb406 hg w22 hbox hb; have BK406 := sd (hbox); have GW406 := gem hg HB; have GE406 := GW406; have NB400_406 := nlm hg BK400; have NB406_400 := ngm hg BK400; replace BK400 := bkm BK400 hb; replace HB := hbm HB hb; clear hb hbox hg; have hnb23 := NB406_400.out; have hnc23 := NB400_406.out; obtain ⟨_, _, _, _⟩ := bk2 BK406; obtain ⟨_, _, _, _⟩ := bk2 BK400)))
   refine bodyPost_ret (results_ct rfl _ _ gb400 38 #[.int .i64 (wrap64 ((IntKind.u64.wrap (Int.tdiv t401 t403)))), .int .i64 (wrap64 ((IntKind.u64.wrap (Int.tdiv t402 t403))))] (0, 0) _ rfl (by (with_reducible repeat (first | refine blk_drewN ?_ _ | refine blk_drew ?_ | refine blk_alloc ?_ _)); refine blk_put (cs := #[.int .i64 (wrap64 ((IntKind.u64.wrap (Int.tdiv t401 t403)))), .int .i64 0]) ?_ 1 _ rfl; (with_reducible repeat (first | refine blk_drewN ?_ _ | refine blk_drew ?_ | refine blk_alloc ?_ _)); refine blk_put (cs := #[.int .i64 0, .int .i64 0]) ?_ 0 _ rfl; (with_reducible repeat (first | refine blk_drewN ?_ _ | refine blk_drew ?_ | refine blk_alloc ?_ _)); refine blk_far ?_ NB400_406.out _; (with_reducible repeat (first | refine blk_drewN ?_ _ | refine blk_drew ?_ | refine blk_alloc ?_ _)); refine blk_far ?_ NB400_406.out _; (with_reducible repeat (first | refine blk_drewN ?_ _ | refine blk_drew ?_ | refine blk_alloc ?_ _)); exact BK400.out) Tryd.underlying38 rfl (by kernel_rfl)) rfl ?_
   exact ⟨zq8, by repeat (first | (with_reducible first | exact HB.out | apply below_alloc | apply pw_below_drewN | apply below_drew1 | refine below_set ?_ GE400.out | refine below_set ?_ GE406.out) | exact HB.out)⟩
end Go.Proofs.YtelfiofnhchmbaaDoor.A
namespace Go.Proofs.YtelfiofnhchmbaaDoor.A
open Go.RowKit Go.Proofs.YtelfiofnhchmbaaDoor.B Go.Proofs.YtelfiofnhchmbaaDoorW.PrintWords Go.Proofs.YtelfiofnhchmbaaDoorW.PrintLast Go.Proofs.YtelfiofnhchmbaaDoorW.PrintMore
theorem ref01_Add (a b : Int) (ha : I64 a) (hb : I64 b) : rf01_Add.f a b = some (fit (a + b)) := by
  unfold rf01_Add.f
  unfold I64 at ha hb
  by_cases h1 : b > 0
  · rw [if_pos h1]
    have e : wrap64 (9223372036854775807 - b) = 9223372036854775807 - b := by unfold wrap64; omega
    rw [e]
    by_cases h2 : a > 9223372036854775807 - b
    · rw [if_pos h2, fit_no (by unfold I64; omega)]
    · rw [if_neg h2, if_neg (by omega), fit_yes (by unfold I64; omega)]
      congr 2; unfold wrap64; omega
  · rw [if_neg h1]
    by_cases h3 : b < 0
    · rw [if_pos h3]
      have e : wrap64 ((-9223372036854775808) - b) = (-9223372036854775808) - b := by unfold wrap64; omega
      rw [e]
      by_cases h2 : a < (-9223372036854775808) - b
      · rw [if_pos h2, fit_no (by unfold I64; omega)]
      · rw [if_neg h2, fit_yes (by unfold I64; omega)]
        congr 2; unfold wrap64; omega
    · rw [if_neg h3, fit_yes (by unfold I64; omega)]
      congr 2; unfold wrap64; omega
theorem ref01_size (a : Int) (ha : I64 a) : rf01_size.f a = some (a.natAbs : Int) := by
  unfold rf01_size.f
  unfold I64 at ha
  simp only [wu64]
  by_cases h : a < 0
  · rw [if_pos h]; congr 1; omega
  · rw [if_neg h]; congr 1; omega
theorem wrap64_neg_wrap (p : Int) (h0 : 0 ≤ p) (h1 : p ≤ 9223372036854775808) : wrap64 (-(wrap64 p)) = -p := by
  by_cases h : p = 9223372036854775808
  · subst h; rw [show wrap64 9223372036854775808 = -9223372036854775808 by unfold wrap64; omega]; unfold wrap64; omega
  · rw [wrap64_in (x := p) ⟨by omega, by omega⟩, wrap64_in ⟨by omega, by omega⟩]
theorem of_natAbs_nonneg {z : Int} {p : Nat} (h : z.natAbs = p) (hz : 0 ≤ z) : (p : Int) = z := by omega
theorem of_natAbs_nonpos {z : Int} {p : Nat} (h : z.natAbs = p) (hz : z ≤ 0) : -(p : Int) = z := by omega
theorem div_wrap (L y : Nat) (h : L ≤ 9223372036854775808) : IntKind.u64.wrap (Int.tdiv (L : Int) (y : Int)) = ((L / y : Nat) : Int) := by
  rw [Int.tdiv_eq_ediv_of_nonneg (by omega), ← Int.natCast_ediv, wu64]
  have := Nat.div_le_self L y
  generalize L / y = q at *
  omega
theorem ref01_Mul_sign (a b : Int) (ha : I64 a) (hb : I64 b) (s : Bool) (hs : s = true ↔ (a < 0 ∧ b > 0 ∨ a > 0 ∧ b < 0)) : Ev (fun k => rf01_Mul.j0 k (a.natAbs : Int) (b.natAbs : Int) s) (fit (a * b)) := by
  unfold I64 at ha hb
  have hp := natAbs_mul' a b
  have hsg : (s = true → a * b ≤ 0) ∧ (s = false → 0 ≤ a * b) := by
    constructor
    · intro h
      rcases hs.mp h with ⟨h1, h2⟩ | ⟨h1, h2⟩
      · exact Int.mul_nonpos_of_nonpos_of_nonneg (by omega) (by omega)
      · exact Int.mul_nonpos_of_nonneg_of_nonpos (by omega) (by omega)
    · intro h
      have hn : ¬ (a < 0 ∧ b > 0 ∨ a > 0 ∧ b < 0) := by rw [← hs, h]; decide
      rcases Int.lt_trichotomy a 0 with h1 | h1 | h1
      · exact Int.mul_nonneg_of_nonpos_of_nonpos (by omega) (by omega)
      · rw [h1]; simp
      · exact Int.mul_nonneg (by omega) (by omega)
  obtain ⟨x, hx⟩ : ∃ x : Nat, x = a.natAbs := ⟨_, rfl⟩
  obtain ⟨y, hy⟩ : ∃ y : Nat, y = b.natAbs := ⟨_, rfl⟩
  rw [← hx, ← hy] at hp ⊢
  have hxb : x ≤ 9223372036854775808 := by omega
  have hyb : y ≤ 9223372036854775808 := by omega
  have last : ∀ L : Nat, L ≤ 9223372036854775808 → (s = true → L = 9223372036854775808) → (s = false → L = 9223372036854775807) →
      Ev (fun k => rf01_Mul.j1 k (x : Int) (y : Int) s (L : Int)) (fit (a * b)) := by
    intro L hL hL1 hL2
    have fin : ∀ t : Bool, (t = true ↔ ¬ x * y ≤ L) → Ev (fun k => rf01_Mul.j2 k (x : Int) (y : Int) s t) (fit (a * b)) := by
      intro t ht
      refine Ev.step (fun k => by rw [rf01_Mul.j2]) ?_
      refine Ev.both (fun h => Ev.is ?_) (fun h => ?_)
      · have h2 := ht.mp h
        rw [fit_no]
        unfold I64
        cases s
        · have := hsg.2 rfl; have := hL2 rfl; omega
        · have := hsg.1 rfl; have := hL1 rfl; omega
      · have h2 : x * y ≤ L := by
          rcases Nat.lt_or_ge L (x * y) with h3 | h3
          · exact absurd (ht.mpr (by omega)) h
          · exact h3
        have e1 : IntKind.u64.wrap ((x : Int) * (y : Int)) = ((x * y : Nat) : Int) := by rw [wu64, ← Int.natCast_mul]; omega
        rw [e1]
        generalize x * y = p at *
        cases s
        · have h3 := of_natAbs_nonneg hp (hsg.2 rfl)
          have h4 := hL2 rfl
          refine Ev.no (by decide) (Ev.is ?_)
          have hI : I64 (p : Int) := ⟨by omega, by omega⟩
          rw [wrap64_in hI, ← h3, fit_yes hI]
        · have h3 := of_natAbs_nonpos hp (hsg.1 rfl)
          have h4 := hL1 rfl
          refine Ev.yes rfl (Ev.is ?_)
          rw [wrap64_neg_wrap p (by omega) (by omega), h3, fit_yes (by rw [← h3]; exact ⟨by omega, by omega⟩)]
    refine Ev.step (fun k => by rw [rf01_Mul.j1]) ?_
    refine Ev.both (fun h => ?_) (fun h => ?_)
    · refine Ev.no (by omega) ?_
      have e2 := div_wrap L y hL
      rw [e2]
      refine fin _ ?_
      rw [decide_eq_true_iff]
      have key : x ≤ L / y ↔ x * y ≤ L := Nat.le_div_iff_mul_le (by omega)
      rw [← key]; omega
    · have hy0 : y = 0 := by omega
      refine fin false ?_
      simp [hy0]
  refine Ev.step (fun k => by rw [rf01_Mul.j0]) ?_
  refine Ev.both (fun h => ?_) (fun h => ?_)
  · exact last 9223372036854775808 (by omega) (fun _ => rfl) (fun h2 => by rw [h2] at h; cases h)
  · rw [Bool.not_eq_true] at h
    exact last 9223372036854775807 (by omega) (fun h2 => by rw [h2] at h; cases h) (fun _ => rfl)
theorem ref01_Mul (a b : Int) (ha : I64 a) (hb : I64 b) : Ev (fun k => rf01_Mul.f k a b) (fit (a * b)) := by
  have key := ref01_Mul_sign a b ha hb
  unfold rf01_Mul.f
  rw [ref01_size a ha, ref01_size b hb]
  simp only [Option.bind_some]
  refine Ev.both (fun h1 => Ev.both (fun h2 => key true (by simp; omega)) (fun h2 => Ev.both (fun h3 => by omega) (fun h3 => key false (by simp; omega)))) (fun h1 => Ev.both (fun h2 => key _ (by rw [decide_eq_true_iff]; omega)) (fun h2 => key false (by simp; omega)))
theorem ref01_Digits_l0 (s : ByteArray) (hs : s.size ≤ 140737488351232) (d : Nat) : ∀ i : Nat, i + d = s.size → Ev (fun k => rf01_Digits.l0 k s (i : Int)) ((s.data.toList.drop i).all isDig && s.data.toList != []) := by
  induction d with
  | zero =>
    intro i hi
    refine Ev.step (fun k => by rw [rf01_Digits.l0]) ?_
    refine Ev.no (by omega) (Ev.is ?_)
    rw [List.drop_eq_nil_of_le (by rw [← size_eq']; omega), ByteArray.toList_eq]; rfl
  | succ d ih =>
    intro i hi
    have hl : i < s.data.toList.length := by rw [← size_eq']; omega
    have hd : s.data.toList.drop i = s.data.toList[i] :: s.data.toList.drop (i + 1) := List.drop_eq_getElem_cons hl
    have hb : bt s (i : Int) = (s.data.toList[i].toNat : Int) := by rw [bt_eq, Int.toNat_natCast, List.getD_eq_getElem?_getD, List.getElem?_eq_getElem hl]; rfl
    have hc := isDig_iff s.data.toList[i]
    rw [← hb] at hc
    refine Ev.step (fun k => by rw [rf01_Digits.l0]) ?_
    refine Ev.yes (by omega) (Ev.yes (by omega) (Ev.both (fun h => Ev.is ?_) (fun h => Ev.both (fun h2 => Ev.is ?_) (fun h2 => ?_))))
    · rw [hd, List.all_cons]
      have : isDig s.data.toList[i] = false := by rw [← Bool.not_eq_true, hc]; omega
      rw [this]; rfl
    · rw [hd, List.all_cons]
      have : isDig s.data.toList[i] = false := by rw [← Bool.not_eq_true, hc]; omega
      rw [this]; rfl
    · rw [hd, List.all_cons, hc.mpr ⟨by omega, by omega⟩, Bool.true_and, show wrap64 ((i : Int) + 1) = ((i + 1 : Nat) : Int) by unfold wrap64; omega]
      exact ih (i + 1) (by omega)
theorem ref01_Digits (s : ByteArray) (hs : s.size ≤ 140737488351232) : Ev (fun k => rf01_Digits.f k s) (s.data.toList.all isDig && s.data.toList != []) :=
  ref01_Digits_l0 s hs s.size 0 (by omega)
theorem ref01_Parse_l0 (lo hi : Int) (m : ByteArray) (hs : m.size ≤ 140737488351232) (neg : Bool) (hall : m.data.toList.all isDig = true) (d : Nat) : ∀ (i : Nat) (n : Int), i + d = m.size → I64 n → n = sgn neg (dval (m.data.toList.take i)) →
    Ev (fun k => rf01_Parse.l0 k lo hi m neg n (i : Int)) (if I64 (sgn neg (dval m.data.toList)) ∧ lo ≤ sgn neg (dval m.data.toList) ∧ sgn neg (dval m.data.toList) ≤ hi then (sgn neg (dval m.data.toList), 0) else (0, 3)) := by
  induction d with
  | zero =>
    intro i n hi hn he
    rw [List.take_of_length_le (by rw [← size_eq']; omega)] at he
    rw [← he]
    refine Ev.step (fun k => by rw [rf01_Parse.l0]) ?_
    refine Ev.no (by omega) (Ev.both (fun h => Ev.is ?_) (fun h => Ev.both (fun h2 => Ev.is ?_) (fun h2 => Ev.is ?_)))
    · rw [if_neg (fun hh => by omega)]
    · rw [if_neg (fun hh => by omega)]
    · rw [if_pos ⟨hn, by omega, by omega⟩]
  | succ d ih =>
    intro i n hi hn he
    have hl : i < m.data.toList.length := by rw [← size_eq']; omega
    have hb : bt m (i : Int) = (m.data.toList[i].toNat : Int) := by rw [bt_eq, Int.toNat_natCast, List.getD_eq_getElem?_getD, List.getElem?_eq_getElem hl]; rfl
    have hdig := (isDig_iff _).mp (List.all_eq_true.mp hall _ (List.getElem_mem hl))
    have hmod : (bt m (i : Int) - 48) % 256 = ((m.data.toList[i].toNat : Int) - 48) := by rw [hb]; omega
    have hw : wrap64 ((i : Int) + 1) = ((i + 1 : Nat) : Int) := by unfold wrap64; omega
    have hP : PInv neg m.data.toList i n true := .inl ⟨rfl, he, hn⟩
    refine Ev.step (fun k => by rw [rf01_Parse.l0]) ?_
    refine Ev.yes (by omega) ?_
    refine Ev.bind (ref01_Mul n 10 hn (by unfold I64; omega)) ?_
    by_cases hm : I64 (n * 10)
    · rw [fit_yes hm]
      refine Ev.yes rfl (Ev.yes (by omega) ?_)
      rw [hmod, hw]
      cases neg
      · refine Ev.no (by decide) ?_
        simp only [ref01_Add (n * 10) _ hm (show I64 ((m.data.toList[i].toNat : Int) - 48) by unfold I64; omega), Option.bind_some]
        have hN := PInv.next hP hl (List.all_eq_true.mp hall _ (List.getElem_mem hl)) (x := n * 10 + ((m.data.toList[i].toNat : Int) - 48)) rfl
        rcases hN with ⟨h1, h2, h3⟩ | ⟨h1, h2, h3⟩
        · rw [h1]
          exact Ev.yes rfl (ih (i + 1) _ (by omega) h3 h2)
        · rw [h1]
          refine Ev.no (by decide) (Ev.is ?_)
          rw [if_neg]
          intro hh
          have := sgn_big_append false (m.data.toList.take (i + 1)) (m.data.toList.drop (i + 1)) h3
          rw [List.take_append_drop] at this
          exact this hh.1
      · refine Ev.yes rfl ?_
        simp only [ref01_Add (n * 10) _ hm (show I64 (-((m.data.toList[i].toNat : Int) - 48)) by unfold I64; omega), Option.bind_some]
        have hN := PInv.next hP hl (List.all_eq_true.mp hall _ (List.getElem_mem hl)) (x := n * 10 + -((m.data.toList[i].toNat : Int) - 48)) (by rw [← Int.sub_eq_add_neg]; rfl)
        rcases hN with ⟨h1, h2, h3⟩ | ⟨h1, h2, h3⟩
        · rw [h1]
          exact Ev.yes rfl (ih (i + 1) _ (by omega) h3 h2)
        · rw [h1]
          refine Ev.no (by decide) (Ev.is ?_)
          rw [if_neg]
          intro hh
          have := sgn_big_append true (m.data.toList.take (i + 1)) (m.data.toList.drop (i + 1)) h3
          rw [List.take_append_drop] at this
          exact this hh.1
    · rw [fit_no hm]
      refine Ev.no (by decide) (Ev.is ?_)
      have h3 := PInv.over hP hl hm
      rw [if_neg]
      intro hh
      exact h3.stop hh.1
theorem ref01_Parse_j1 (lo hi : Int) (m : ByteArray) (hs : m.size ≤ 140737488351232) (neg : Bool) :
    Ev (fun k => rf01_Parse.j1 k lo hi m neg) (if formedM m.data.toList neg = true then (if I64 (sgn neg (dval m.data.toList)) ∧ lo ≤ sgn neg (dval m.data.toList) ∧ sgn neg (dval m.data.toList) ≤ hi then (sgn neg (dval m.data.toList), 0) else (0, 3)) else (0, 5)) := by
  have hj2 : ∀ t : Bool, (m.data.toList.all isDig = true ∨ t = true) → Ev (fun k => rf01_Parse.j2 k lo hi m neg t) (if t = true then (0, 5) else (if I64 (sgn neg (dval m.data.toList)) ∧ lo ≤ sgn neg (dval m.data.toList) ∧ sgn neg (dval m.data.toList) ≤ hi then (sgn neg (dval m.data.toList), 0) else (0, 3))) := by
    intro t ht
    refine Ev.step (fun k => by rw [rf01_Parse.j2]) ?_
    cases t
    · refine Ev.no (by decide) ?_
      exact ref01_Parse_l0 lo hi m hs neg (by simpa using ht) m.size 0 0 (by omega) (by unfold I64; omega) (by cases neg <;> rfl)
    · exact Ev.yes rfl (Ev.now _)
  have hsz := size_eq' m
  refine Ev.step (fun k => by rw [rf01_Parse.j1]) ?_
  refine Ev.bind (ref01_Digits m hs) ?_
  have hb : bt m 0 = ((m.data.toList.getD 0 0).toNat : Int) := bt_eq m 0
  cases hl : m.data.toList with
  | nil =>
    rw [hl] at hj2
    exact Ev.no (by simp) (hj2 true (.inr rfl))
  | cons c r =>
    rw [hl] at hj2 hsz hb
    rw [List.length_cons] at hsz
    have hne : ((c :: r) != ([] : List UInt8)) = true := rfl
    rw [hne, Bool.and_true]
    have ef : formedM (c :: r) neg = (!(c == 48 && (neg || decide (1 < (c :: r).length))) && (c :: r).all isDig) := by simp [formedM]
    rw [ef]
    have h48 : bt m 0 = 48 ↔ (c == 48) = true := by rw [hb, beq_iff_eq]; exact byte_is c 48
    refine Ev.both (fun h => ?_) (fun h => ?_)
    · rw [h, Bool.and_true]
      refine Ev.yes (by omega) (Ev.both (fun h0 => ?_) (fun h0 => ?_))
      · rw [h48.mp h0]
        refine Ev.both (fun h1 => ?_) (fun h1 => ?_)
        · have := hj2 true (.inr rfl)
          rw [show decide (1 < (c :: r).length) = true by rw [decide_eq_true_iff, List.length_cons]; omega]
          simpa using this
        · have := hj2 neg (.inl h)
          rw [show decide (1 < (c :: r).length) = false by rw [decide_eq_false_iff_not, List.length_cons]; omega]
          cases neg <;> simpa using this
      · have := hj2 false (.inl h)
        rw [Bool.not_eq_true _ |>.mp (fun hh => h0 (h48.mpr hh))]
        simpa using this
    · have := hj2 true (.inr rfl)
      rw [Bool.not_eq_true _ |>.mp h]
      simpa using this
theorem ref01_Parse (s : ByteArray) (lo hi : Int) (hs : s.size ≤ 140737488351232) : Ev (fun k => rf01_Parse.f k s lo hi) (parseL s.data.toList lo hi) := by
  have hx := Lib.extract_to_end s 1
  have hsz := size_eq' s
  have hxs : (s.extract 1 s.size).size ≤ 140737488351232 := by rw [size_eq', hx, List.length_drop]; omega
  have key : Ev (fun k => rf01_Parse.j0 k s lo hi s (negOf s.data.toList)) (parseL s.data.toList lo hi) := by
    refine Ev.step (fun k => by rw [rf01_Parse.j0]) ?_
    refine Ev.both (fun h => ?_) (fun h => ?_)
    · have hp : 1 ≤ s.size := by
        rw [hsz]; cases hl : s.data.toList with
        | nil => rw [hl] at h; simp [negOf] at h
        | cons c r => simp
      refine Ev.yes (by omega) ?_
      have := ref01_Parse_j1 lo hi (s.extract 1 s.size) hxs (negOf s.data.toList)
      rw [hx] at this
      have hm : magOf s.data.toList = s.data.toList.drop 1 := by simp [magOf, h]
      rw [parseL_eq, hm]
      exact this
    · have := ref01_Parse_j1 lo hi s hs (negOf s.data.toList)
      have hm : magOf s.data.toList = s.data.toList := by simp [magOf, h]
      rw [parseL_eq, hm]
      exact this
  unfold rf01_Parse.f
  rw [ByteArray.toList_eq]
  cases hl : s.data.toList with
  | nil =>
    refine Ev.yes rfl ?_
    rw [hl] at key
    exact key
  | cons c r =>
    refine Ev.no (by simp) (Ev.yes (by rw [hsz, hl, List.length_cons]; omega) ?_)
    have hb : bt s 0 = (c.toNat : Int) := by rw [bt_eq, hl]; rfl
    have e : (bt s 0 == 45) = negOf (c :: r) := by
      rw [hb]
      simp only [negOf, List.head?_cons]
      rw [Bool.eq_iff_iff, beq_iff_eq, beq_iff_eq, Option.some_inj]
      exact byte_is c 45
    rw [hl] at key
    rw [e]
    exact key
end Go.Proofs.YtelfiofnhchmbaaDoor.A
namespace Go.Proofs.YtelfiofnhchmbaaDoor.A
open Go.RowKit Go.Proofs.YtelfiofnhchmbaaDoor.B Go.Proofs.YtelfiofnhchmbaaDoorW.PrintWords Go.Proofs.YtelfiofnhchmbaaDoorW.PrintLast Go.Proofs.YtelfiofnhchmbaaDoorW.PrintMore
set_option linter.unusedVariables false
set_option linter.unusedSimpArgs false
theorem ref03_Make_ev (n d : Int) (hn : I64 n) (hd : I64 d) : Ev (fun k => rf03_Make.f k n d) (makeS n d) := by
  unfold rf03_Make.f makeS
  refine Ev.both (fun h => Ev.is (by rw [if_pos h])) (fun h => ?_)
  rw [if_neg h, ref03_size_eq n hn, ref03_size_eq d hd]
  simp only [Option.bind_some]
  refine Ev.bind (ref03_divisor_ev _ _) ?_
  have hg : 0 < Nat.gcd n.natAbs d.natAbs := gcd_pos_of (by omega)
  refine Ev.no (by omega) ?_
  unfold I64 at hn hd
  rw [div_u64 _ _ (by omega), div_u64 _ _ (by omega)]
  generalize n.natAbs / Nat.gcd n.natAbs d.natAbs = a
  generalize d.natAbs / Nat.gcd n.natAbs d.natAbs = b
  have e : ∀ b' : Bool, b' = true → Ev (fun k => rf03_Make.j0 k n d (a : Int) (b : Int) b') (0, 0, 4) := fun b' hb => Ev.step (fun k => by rw [rf03_Make.j0]) (Ev.yes hb (Ev.is rfl))
  refine Ev.both (fun h1 => ?_) (fun h1 => ?_)
  · rw [if_pos (.inl (by omega))]; exact e _ rfl
  · by_cases h2 : 1000000 < b
    · rw [if_pos (.inr h2)]; exact e _ (decide_eq_true (by omega))
    · rw [if_neg (by omega)]
      refine Ev.step (fun k => by rw [rf03_Make.j0]) (Ev.no (by rw [decide_eq_false (by omega)]; decide) ?_)
      have w1 : wrap64 (a : Int) = a := by unfold wrap64; omega
      have w2 : wrap64 (b : Int) = b := by unfold wrap64; omega
      have w3 : wrap64 (-(a : Int)) = -(a : Int) := by unfold wrap64; omega
      rw [w1, w2, w3]
      refine Ev.both (fun h3 => Ev.is (by rw [if_pos h3])) (fun h3 => Ev.is (by rw [if_neg h3]))
end Go.Proofs.YtelfiofnhchmbaaDoor.A
namespace Go.Proofs.YtelfiofnhchmbaaDoor.A
open Go.RowKit Go.Proofs.YtelfiofnhchmbaaDoor.B Go.Proofs.YtelfiofnhchmbaaDoorW.PrintWords Go.Proofs.YtelfiofnhchmbaaDoorW.PrintLast Go.Proofs.YtelfiofnhchmbaaDoorW.PrintMore
attribute [local go_sem] max2_int min2_int max_two min_two max_three min_three max_four min_four
set_option linter.unusedVariables false
set_option linter.unusedSimpArgs false
set_option maxHeartbeats 8000000
set_option maxRecDepth 100000
def rf03_digits.l0 : Nat → ByteArray → Int → Option (Int)
 | 0, _, _ => none
 | k + 1, x0, x3 => if x3 < (x0.size : Int) then (if 0 ≤ x3 then (if (bt x0 x3) ≥ 48 then (if (bt x0 x3) ≤ 57 then (rf03_digits.l0 k x0 (wrap64 (x3 + 1))) else (some x3)) else (some x3)) else (none)) else (some x3)
def rf03_digits.f (k : Nat) (a0 : ByteArray) : Option (Int) := rf03_digits.l0 k a0 0
theorem rf03_digits.calls (k : Nat) (a0 : ByteArray) (r : Int) (w : World) (h : rf03_digits.f k a0 = some r) :
  Calls Tryd.prog 88 #[.string a0] w fun e w' => e = .returned (.int .i64 r) ∧ Drawn0 w w' := by
 have H := h
 clear h
 unfold rf03_digits.f at H
 have H' := sd H
 clear H
 go_enter Tryd.func88, Tryd.ntmps88
 go_wp2
 go_loopg [3] k (fun kq v3 w' => ∃ (x3_1 : Int), v3 = .int .i64 x3_1 ∧ Aside0 (rf03_digits.l0 kq a0 x3_1 = some r) ∧ Aside0 (kq ≤ k) ∧ Drawn0 w w')
 case atStart => exact ⟨(0), zq1, H', ⟨Nat.le_refl _⟩, zq23⟩
 case round =>
  clear H'
  obtain ⟨x3_1, rfl, HA, HK1, ⟨m1, rfl⟩⟩ := hrel
  cases gk with
  | zero => exact absurd HA.out (by simp [rf03_digits.l0])
  | succ k1 =>
   have H := HA.out
   clear HA
   simp only [rf03_digits.l0] at H
   replace H := ifI H
   rcases H with ⟨c2, H⟩ | ⟨c2, H⟩
   ·have c2b0 : decide (x3_1 < (a0.size : Int)) = true := decide_eq_true c2
    clear c2
    replace H := ifI H
    rcases H with ⟨c3, H⟩ | ⟨c3, H⟩
    ·have c3b0 : decide (0 ≤ x3_1) = true := decide_eq_true c3
     clear c3
     replace H := ifI H
     rcases H with ⟨c5, H⟩ | ⟨c5, H⟩
     ·have c5b0 : decide (48 ≤ (bt a0 x3_1)) = true := decide_eq_true c5
      clear c5
      replace H := ifI H
      rcases H with ⟨c7, H⟩ | ⟨c7, H⟩
      ·have c7b0 : decide ((bt a0 x3_1) ≤ 57) = true := decide_eq_true c7
       clear c7
       have H' := sd H
       clear H
       have p4 : 0 ≤ (x3_1 : Int) := od
       have q4 : x3_1 < (a0.size : Int) := od
       have hx4 := bt_at a0 x3_1
       replace p4 := eq_true p4
       replace q4 := eq_true q4
       have p6 : 0 ≤ (x3_1 : Int) := od
       have q6 : x3_1 < (a0.size : Int) := od
       have hx6 := bt_at a0 x3_1
       replace p6 := eq_true p6
       replace q6 := eq_true q6
       go_wp2
       go_roundg k1
       case measure => have := HK1.out; omega
       case rel => exact ⟨(wrap64 (x3_1 + 1)), zq1, H', ⟨by have := HK1.out; omega⟩, zq23⟩
      have c7b0 : decide ((bt a0 x3_1) ≤ 57) = false := decide_eq_false c7
      clear c7
      obtain rfl := Option.some.inj H
      have p4 : 0 ≤ (x3_1 : Int) := od
      have q4 : x3_1 < (a0.size : Int) := od
      have hx4 := bt_at a0 x3_1
      replace p4 := eq_true p4
      replace q4 := eq_true q4
      have p6 : 0 ≤ (x3_1 : Int) := od
      have q6 : x3_1 < (a0.size : Int) := od
      have hx6 := bt_at a0 x3_1
      replace p6 := eq_true p6
      replace q6 := eq_true q6
      go_wp2
      go_ret
      exact ⟨zq1, zq23⟩
     have c5b0 : decide (48 ≤ (bt a0 x3_1)) = false := decide_eq_false c5
     clear c5
     obtain rfl := Option.some.inj H
     have p4 : 0 ≤ (x3_1 : Int) := od
     have q4 : x3_1 < (a0.size : Int) := od
     have hx4 := bt_at a0 x3_1
     replace p4 := eq_true p4
     replace q4 := eq_true q4
     go_wp2
     go_ret
     exact ⟨zq1, zq23⟩
    exact absurd H (by simp)
   have c2b0 : decide (x3_1 < (a0.size : Int)) = false := decide_eq_false c2
   clear c2
   obtain rfl := Option.some.inj H
   go_wp2
   go_ret
   exact ⟨zq1, zq23⟩
def rf03_trim.l0 : Nat → ByteArray → Option (ByteArray)
 | 0, _ => none
 | k + 1, x0 => if (x0.size : Int) > 0 then (if 0 < (x0.size : Int) then (if (bt x0 0) = 48 then (if 1 ≤ (x0.size : Int) then (rf03_trim.l0 k (x0.extract 1 x0.size)) else (none)) else (some x0)) else (none)) else (some x0)
def rf03_trim.f (k : Nat) (a0 : ByteArray) : Option (ByteArray) := rf03_trim.l0 k a0
theorem rf03_trim.calls (k : Nat) (a0 r : ByteArray) (w : World) (h : rf03_trim.f k a0 = some r) :
  Calls Tryd.prog 89 #[.string a0] w fun e w' => e = .returned (.string r) ∧ Drawn0 w w' := by
 have H := h
 clear h
 unfold rf03_trim.f at H
 have H' := sd H
 clear H
 go_enter Tryd.func89, Tryd.ntmps89
 go_wp2
 go_loopg [0] k (fun kq v0 w' => ∃ (x0_1 : ByteArray), v0 = .string x0_1 ∧ Aside0 (rf03_trim.l0 kq x0_1 = some r) ∧ Aside0 (kq ≤ k) ∧ Drawn0 w w')
 case atStart => exact ⟨(a0), zq1, H', ⟨Nat.le_refl _⟩, zq23⟩
 case round =>
  clear H'
  obtain ⟨x0_1, rfl, HA, HK1, ⟨m1, rfl⟩⟩ := hrel
  cases gk with
  | zero => exact absurd HA.out (by simp [rf03_trim.l0])
  | succ k1 =>
   have H := HA.out
   clear HA
   simp only [rf03_trim.l0] at H
   replace H := ifI H
   rcases H with ⟨c2, H⟩ | ⟨c2, H⟩
   ·have c2b0 : decide (0 < (x0_1.size : Int)) = true := decide_eq_true c2
    have c2b1 : decide (0 < x0_1.size) = true := decide_eq_true (by omega)
    clear c2
    replace H := ifI H
    rcases H with ⟨c3, H⟩ | ⟨c3, H⟩
    ·have c3b0 : decide (0 < (x0_1.size : Int)) = true := decide_eq_true c3
     have c3b1 : decide (0 < x0_1.size) = true := decide_eq_true (by omega)
     clear c3
     replace H := ifI H
     rcases H with ⟨c5, H⟩ | ⟨c5, H⟩
     ·obtain ⟨c5b0, c5b1⟩ := eqI c5
      clear c5
      replace H := ifI H
      rcases H with ⟨c6, H⟩ | ⟨c6, H⟩
      ·have c6b0 := eq_true c6
       have c6b1 : decide (1 ≤ (x0_1.size : Int)) = true := decide_eq_true c6
       clear c6
       have H' := sd H
       clear H
       have p4 : 0 ≤ (0 : Int) := (by omega)
       have q4 : 0 < x0_1.size := (by have : (0 : Int) < (x0_1.size : Int) := od; omega)
       have hx4 : ∀ h : 0 < x0_1.size, ((x0_1[0]'h).toNat : Int) = bt x0_1 0 := bt_at x0_1 0
       clear p4
       have qi4 : (0 < (x0_1.size : Int)) = True := eq_true (od)
       replace q4 := eq_true q4
       go_wp2
       go_roundg k1
       case measure => have := HK1.out; omega
       case rel => exact ⟨(x0_1.extract 1 x0_1.size), zq1, H', ⟨by have := HK1.out; omega⟩, zq23⟩
      exact absurd H (by simp)
     obtain ⟨c5b0, c5b1⟩ := neI c5
     obtain rfl := Option.some.inj H
     have p4 : 0 ≤ (0 : Int) := (by omega)
     have q4 : 0 < x0_1.size := (by have : (0 : Int) < (x0_1.size : Int) := od; omega)
     have hx4 : ∀ h : 0 < x0_1.size, ((x0_1[0]'h).toNat : Int) = bt x0_1 0 := bt_at x0_1 0
     clear p4
     have qi4 : (0 < (x0_1.size : Int)) = True := eq_true (od)
     replace q4 := eq_true q4
     go_wp2
     go_ret
     exact ⟨zq1, zq23⟩
    exact absurd H (by simp)
   have c2b0 : decide (0 < (x0_1.size : Int)) = false := decide_eq_false c2
   have c2b1 : decide (0 < x0_1.size) = false := decide_eq_false (by omega)
   clear c2
   obtain rfl := Option.some.inj H
   go_wp2
   go_ret
   exact ⟨zq1, zq23⟩
def rf03_split.g (k : Nat) (a0 rest : ByteArray) (n : Nat) : Option (ByteArray × ByteArray × Bool) :=
 if rest.size = 0 then some (⟨#[]⟩, ⟨#[]⟩, false) else (rf03_digits.f k rest).bind fun m =>
  if m < (rest.size : Int) then some (⟨#[]⟩, ⟨#[]⟩, false) else
  if bt a0 (n : Int) = 47 then (rf03_trim.f k (a0.extract 0 n)).bind fun t => some (t, rest, bt rest 0 != 48) else
  (rf03_trim.f k (a0.extract 0 n ++ rest)).bind fun t => some (t, (⟨#[49, 48, 48, 48, 48, 48, 48]⟩ : ByteArray).extract 0 (1 + min rest.size 6), (bt a0 (n : Int) == 46) && decide ((rest.size : Int) ≤ 6))
def rf03_split.f (k : Nat) (a0 : ByteArray) : Option (ByteArray × ByteArray × Bool) :=
 if a0.size ≤ 140737488351232 then (rf03_digits.f k a0).bind fun d =>
  if 0 ≤ d ∧ d ≤ (a0.size : Int) then
   (if d = 0 then some (⟨#[]⟩, ⟨#[]⟩, false) else if 1 < d ∧ bt a0 0 = 48 then some (⟨#[]⟩, ⟨#[]⟩, false) else
   if d = (a0.size : Int) then (rf03_trim.f k a0).bind fun t => some (t, ⟨#[49]⟩, true) else rf03_split.g k a0 (a0.extract (d.toNat + 1) a0.size) d.toNat)
  else none
 else none
theorem rf03_split.calls (k : Nat) (a0 r1 r2 : ByteArray) (r3 : Bool) (w : World) (h : rf03_split.f k a0 = some (r1, r2, r3)) :
  Calls Tryd.prog 57 #[.string a0] w fun e w' => e = .returned (.tuple #[.string r1, .string r2, .bool r3]) ∧ Drawn0 w w' := by
 have HPost : ∀ W, Drawn0 w W → (fun (e : Ending) (w' : World) => e = .returned (.tuple #[.string r1, .string r2, .bool r3]) ∧ Drawn0 w w') (.returned (.tuple #[.string r1, .string r2, .bool r3])) W := fun W hW => ⟨rfl, hW⟩
 generalize (fun (e : Ending) (w' : World) => e = .returned (.tuple #[.string r1, .string r2, .bool r3]) ∧ Drawn0 w w') = Post at HPost ⊢
 have HP := sd HPost
 clear HPost
 unfold rf03_split.f at h
 split at h
 case isFalse => cases h
 rename_i hs
 replace h := Option.bind_eq_some_iff.mp h
 obtain ⟨d, hd, h⟩ := h
 have HD := sd (fun W => rf03_digits.calls k a0 d W hd)
 clear hd
 split at h
 case isFalse => cases h
 rename_i hb
 obtain ⟨hb0, hb1⟩ := hb
 obtain ⟨n, rfl⟩ := Int.eq_ofNat_of_zero_le hb0
 have hn : n ≤ a0.size := by omega
 clear hb0 hb1
 simp only [Int.toNat_natCast] at h
 by_cases h0 : n = 0
 ·subst h0
  rw [if_pos (by rfl)] at h
  simp only [Option.some.injEq, Prod.mk.injEq] at h
  obtain ⟨rfl, rfl, rfl⟩ := h
  go_enter Tryd.func57, Tryd.ntmps57
  go_wp2_with (first | (go_at_call 88; (with_reducible refine (HD.out _).mono ?_); rintro e w' ⟨rfl, nd, rfl⟩))
  go_ret3
  exact HP.out _ zq23
 have hn0 : 1 ≤ n := by omega
 have z0 : (((n : Nat) : Int) == 0) = false := by simp; omega
 have hlt0 : 0 < a0.size := by omega
 rw [if_neg (by omega)] at h
 have hbt0 : bt a0 0 = (a0[0].toNat : Int) := (bt_at a0 0 hlt0).symm
 rw [hbt0] at h
 clear hbt0 h0
 by_cases h12 : 1 < n ∧ (a0[0].toNat : Int) = 48
 ·obtain ⟨h1, h2⟩ := h12
  rw [if_pos ⟨by omega, h2⟩] at h
  simp only [Option.some.injEq, Prod.mk.injEq] at h
  obtain ⟨rfl, rfl, rfl⟩ := h
  have h2b : ((a0[0].toNat : Int) == 48) = true := beq_iff_eq.mpr h2
  clear h2
  go_enter Tryd.func57, Tryd.ntmps57
  go_wp2_with fail
  refine (HD.out _).mono ?_
  rintro e w' ⟨rfl, nd, rfl⟩
  go_wp2_with fail
  go_ret3
  exact HP.out _ zq23
 have h12' : 1 < n → ((a0[0].toNat : Int) == 48) = false := fun h1 => beq_eq_false_iff_ne.mpr fun h2 => h12 ⟨h1, h2⟩
 rw [if_neg (fun hh => h12 ⟨by omega, hh.2⟩)] at h
 have H12 := sd h12'
 clear h12 h12'
 by_cases hlt : n = a0.size
 ·subst hlt
  rw [if_pos rfl] at h
  replace h := Option.bind_eq_some_iff.mp h
  obtain ⟨t, ht, h⟩ := h
  have HT := sd (fun W => rf03_trim.calls k a0 t W ht)
  clear ht
  simp only [Option.some.injEq, Prod.mk.injEq] at h
  obtain ⟨rfl, rfl, rfl⟩ := h
  by_cases h1 : 1 < a0.size
  ·have h2b := H12.out h1
   clear H12
   go_enter Tryd.func57, Tryd.ntmps57
   go_wp2_with (first | (go_at_call 88; (with_reducible refine (HD.out _).mono ?_); rintro e w' ⟨rfl, nd, rfl⟩) | (go_at_call 89; (with_reducible refine (HT.out _).mono ?_); rintro e w' ⟨rfl, nd, rfl⟩))
   go_ret3
   exact HP.out _ zq23
  clear H12
  have h1b : (decide ((1 : Int) < (a0.size : Int))) = false := by simp; omega
  go_enter Tryd.func57, Tryd.ntmps57
  go_wp2_with (first | (go_at_call 88; (with_reducible refine (HD.out _).mono ?_); rintro e w' ⟨rfl, nd, rfl⟩) | (go_at_call 89; (with_reducible refine (HT.out _).mono ?_); rintro e w' ⟨rfl, nd, rfl⟩))
  go_ret3
  exact HP.out _ zq23
 have hlt' : n < a0.size := by omega
 have hltb : ((n : Int) == (a0.size : Int)) = false := by simp; omega
 rw [if_neg (by omega)] at h
 have hrs : (a0.extract (n + 1) a0.size).size = a0.size - (n + 1) := by simp
 obtain ⟨rest, hrest⟩ : ∃ rest, a0.extract (n + 1) a0.size = rest := ⟨_, rfl⟩
 rw [hrest] at h hrs
 have hbt : bt a0 (n : Int) = (a0[n].toNat : Int) := (bt_at a0 n hlt').symm
 unfold rf03_split.g at h
 rw [hbt] at h
 have HR := sd hrest
 have HS := sd hrs
 have HL := sd (show rest.size ≤ 140737488351232 by omega)
 clear hrs hrest hbt hlt
 obtain ⟨c, hc⟩ : ∃ c, a0[n] = c := ⟨_, rfl⟩
 rw [hc] at h
 have HC := sd hc
 clear hc
 by_cases h1 : 1 < n
 ·have h2b := H12.out h1
  clear H12
  by_cases hr0 : rest.size = 0
  ·rw [if_pos hr0] at h
   simp only [Option.some.injEq, Prod.mk.injEq] at h
   obtain ⟨rfl, rfl, rfl⟩ := h
   have hr1 : (rest.toList.isEmpty) = true := by rw [List.isEmpty_iff]; exact toList_nil hr0
   clear hr0
   go_enter Tryd.func57, Tryd.ntmps57
   go_wp2_with (first | (go_at_call 88; (with_reducible refine (HD.out _).mono ?_); rintro e w' ⟨rfl, nd, rfl⟩) | (go_at_call 88; (with_reducible refine (HM.out _).mono ?_); rintro e w' ⟨rfl, nd, rfl⟩) | (go_at_call 89; (with_reducible refine (HT.out _).mono ?_); rintro e w' ⟨rfl, nd, rfl⟩))
   go_quiet (fail)
   rw [HR.out]
   go_wp2_with fail
   go_ret3
   exact HP.out _ zq23
  rw [if_neg hr0] at h
  replace h := Option.bind_eq_some_iff.mp h
  obtain ⟨m, hm, h⟩ := h
  have HM := sd (fun W => rf03_digits.calls k rest m W hm)
  clear hm
  have hr1 : (rest.toList.isEmpty) = false := by rw [← Bool.not_eq_true, List.isEmpty_iff]; exact fun e => hr0 (toList_nil' e)
  have hr0' : 0 < rest.size := by omega
  clear hr0
  by_cases hms : m < (rest.size : Int)
  ·rw [if_pos hms] at h
   simp only [Option.some.injEq, Prod.mk.injEq] at h
   obtain ⟨rfl, rfl, rfl⟩ := h
   go_enter Tryd.func57, Tryd.ntmps57
   go_wp2_with (first | (go_at_call 88; (with_reducible refine (HD.out _).mono ?_); rintro e w' ⟨rfl, nd, rfl⟩) | (go_at_call 88; (with_reducible refine (HM.out _).mono ?_); rintro e w' ⟨rfl, nd, rfl⟩) | (go_at_call 89; (with_reducible refine (HT.out _).mono ?_); rintro e w' ⟨rfl, nd, rfl⟩))
   go_quiet (fail)
   rw [HR.out]
   go_wp2_with (first | (go_at_call 88; (with_reducible refine (HD.out _).mono ?_); rintro e w' ⟨rfl, nd, rfl⟩) | (go_at_call 88; (with_reducible refine (HM.out _).mono ?_); rintro e w' ⟨rfl, nd, rfl⟩) | (go_at_call 89; (with_reducible refine (HT.out _).mono ?_); rintro e w' ⟨rfl, nd, rfl⟩))
   go_ret3
   exact HP.out _ zq23
  rw [if_neg hms] at h
  have hmsb : decide (m < (rest.size : Int)) = false := decide_eq_false hms
  clear hms
  by_cases hsl : (c.toNat : Int) = 47
  ·rw [if_pos hsl] at h
   have hslb : ((c.toNat : Int) == 47) = true := beq_iff_eq.mpr hsl
   clear hsl
   replace h := Option.bind_eq_some_iff.mp h
   obtain ⟨t, ht, h⟩ := h
   have HT := sd (fun W => rf03_trim.calls k (a0.extract 0 n) t W ht)
   clear ht
   rw [show bt rest 0 = (rest[0].toNat : Int) from (bt_at rest 0 hr0').symm] at h
   simp only [Option.some.injEq, Prod.mk.injEq] at h
   obtain ⟨rfl, rfl, rfl⟩ := h
   go_enter Tryd.func57, Tryd.ntmps57
   go_wp2_with (first | (go_at_call 88; (with_reducible refine (HD.out _).mono ?_); rintro e w' ⟨rfl, nd, rfl⟩) | (go_at_call 88; (with_reducible refine (HM.out _).mono ?_); rintro e w' ⟨rfl, nd, rfl⟩) | (go_at_call 89; (with_reducible refine (HT.out _).mono ?_); rintro e w' ⟨rfl, nd, rfl⟩))
   go_quiet (fail)
   rw [HR.out, HC.out]
   go_wp2_with (first | (go_at_call 88; (with_reducible refine (HD.out _).mono ?_); rintro e w' ⟨rfl, nd, rfl⟩) | (go_at_call 88; (with_reducible refine (HM.out _).mono ?_); rintro e w' ⟨rfl, nd, rfl⟩) | (go_at_call 89; (with_reducible refine (HT.out _).mono ?_); rintro e w' ⟨rfl, nd, rfl⟩))
   go_quiet ((exact quiet_add ((HT.out _).mono fun e w' h => ⟨h.1, h.2.out⟩)))
   go_wp2_with (first | (go_at_call 88; (with_reducible refine (HD.out _).mono ?_); rintro e w' ⟨rfl, nd, rfl⟩) | (go_at_call 88; (with_reducible refine (HM.out _).mono ?_); rintro e w' ⟨rfl, nd, rfl⟩) | (go_at_call 89; (with_reducible refine (HT.out _).mono ?_); rintro e w' ⟨rfl, nd, rfl⟩))
   go_ret3
   exact HP.out _ zq23
  rw [if_neg hsl] at h
  have hslb : ((c.toNat : Int) == 47) = false := beq_eq_false_iff_ne.mpr hsl
  clear hsl
  replace h := Option.bind_eq_some_iff.mp h
  obtain ⟨t, ht, h⟩ := h
  have HT := sd (fun W => rf03_trim.calls k (a0.extract 0 n ++ rest) t W ht)
  clear ht
  simp only [Option.some.injEq, Prod.mk.injEq] at h
  obtain ⟨rfl, rfl, rfl⟩ := h
  have hcat : (9223372036854775807 < n + rest.size) = False := by have := HS.out; simp; omega
  by_cases h6 : 6 < rest.size
  ·have h6b : decide ((rest.size : Int) ≤ 6) = false := by simp; omega
   have h6c : (6 : Int) < (rest.size : Int) := by omega
   rw [show min rest.size 6 = 6 by omega, h6b] at HP
   replace HP : Aside0 (∀ W, Drawn0 w W → Post (.returned (.tuple #[.string t, .string ((⟨#[49, 48, 48, 48, 48, 48, 48]⟩ : ByteArray).extract 0 7), .bool (((c.toNat : Int) == 46) && false)])) W) := HP
   rw [Bool.and_false] at HP
   by_cases hpt : (c.toNat : Int) = 46
   ·have hptb : ((c.toNat : Int) == 46) = true := beq_iff_eq.mpr hpt
    clear hpt
    go_enter Tryd.func57, Tryd.ntmps57
    go_wp2_with (first | (go_at_call 88; (with_reducible refine (HD.out _).mono ?_); rintro e w' ⟨rfl, nd, rfl⟩) | (go_at_call 88; (with_reducible refine (HM.out _).mono ?_); rintro e w' ⟨rfl, nd, rfl⟩) | (go_at_call 89; (with_reducible refine (HT.out _).mono ?_); rintro e w' ⟨rfl, nd, rfl⟩))
    go_quiet (fail)
    rw [HR.out, HC.out]
    go_wp2_with (first | (go_at_call 88; (with_reducible refine (HD.out _).mono ?_); rintro e w' ⟨rfl, nd, rfl⟩) | (go_at_call 88; (with_reducible refine (HM.out _).mono ?_); rintro e w' ⟨rfl, nd, rfl⟩) | (go_at_call 89; (with_reducible refine (HT.out _).mono ?_); rintro e w' ⟨rfl, nd, rfl⟩))
    go_quiet ((exact quiet_add ((HT.out _).mono fun e w' h => ⟨h.1, h.2.out⟩)))
    go_wp2_with (first | (go_at_call 88; (with_reducible refine (HD.out _).mono ?_); rintro e w' ⟨rfl, nd, rfl⟩) | (go_at_call 88; (with_reducible refine (HM.out _).mono ?_); rintro e w' ⟨rfl, nd, rfl⟩) | (go_at_call 89; (with_reducible refine (HT.out _).mono ?_); rintro e w' ⟨rfl, nd, rfl⟩))
    go_ret3
    exact HP.out _ zq23
   have hptb : ((c.toNat : Int) == 46) = false := beq_eq_false_iff_ne.mpr hpt
   clear hpt
   go_enter Tryd.func57, Tryd.ntmps57
   go_wp2_with (first | (go_at_call 88; (with_reducible refine (HD.out _).mono ?_); rintro e w' ⟨rfl, nd, rfl⟩) | (go_at_call 88; (with_reducible refine (HM.out _).mono ?_); rintro e w' ⟨rfl, nd, rfl⟩) | (go_at_call 89; (with_reducible refine (HT.out _).mono ?_); rintro e w' ⟨rfl, nd, rfl⟩))
   go_quiet (fail)
   rw [HR.out, HC.out]
   go_wp2_with (first | (go_at_call 88; (with_reducible refine (HD.out _).mono ?_); rintro e w' ⟨rfl, nd, rfl⟩) | (go_at_call 88; (with_reducible refine (HM.out _).mono ?_); rintro e w' ⟨rfl, nd, rfl⟩) | (go_at_call 89; (with_reducible refine (HT.out _).mono ?_); rintro e w' ⟨rfl, nd, rfl⟩))
   go_quiet ((exact quiet_add ((HT.out _).mono fun e w' h => ⟨h.1, h.2.out⟩)))
   go_wp2_with (first | (go_at_call 88; (with_reducible refine (HD.out _).mono ?_); rintro e w' ⟨rfl, nd, rfl⟩) | (go_at_call 88; (with_reducible refine (HM.out _).mono ?_); rintro e w' ⟨rfl, nd, rfl⟩) | (go_at_call 89; (with_reducible refine (HT.out _).mono ?_); rintro e w' ⟨rfl, nd, rfl⟩))
   go_ret3
   exact HP.out _ zq23
  have h6b : decide ((rest.size : Int) ≤ 6) = true := by simp; omega
  have h6c : ¬ (6 : Int) < (rest.size : Int) := by omega
  rw [show min rest.size 6 = rest.size by omega, h6b, Bool.and_true] at HP
  have hm7 : rest.size ≤ 6 := by omega
  have hm8 : 0 ≤ 1 + (rest.size : Int) := by omega
  have hm9 : 1 + (rest.size : Int) ≤ 7 := by omega
  have hmw : IntKind.i64.wrap (1 + (rest.size : Int)) = 1 + (rest.size : Int) := IntWalk.i64_in _ (by omega)
  have hmt : (1 + (rest.size : Int)).toNat = 1 + rest.size := by omega
  clear h6
  by_cases hpt : (c.toNat : Int) = 46
  ·have hptb : ((c.toNat : Int) == 46) = true := beq_iff_eq.mpr hpt
   rw [hptb] at HP
   clear hpt
   go_enter Tryd.func57, Tryd.ntmps57
   go_wp2_with (first | (go_at_call 88; (with_reducible refine (HD.out _).mono ?_); rintro e w' ⟨rfl, nd, rfl⟩) | (go_at_call 88; (with_reducible refine (HM.out _).mono ?_); rintro e w' ⟨rfl, nd, rfl⟩) | (go_at_call 89; (with_reducible refine (HT.out _).mono ?_); rintro e w' ⟨rfl, nd, rfl⟩))
   go_quiet (fail)
   rw [HR.out, HC.out]
   go_wp2_with (first | (go_at_call 88; (with_reducible refine (HD.out _).mono ?_); rintro e w' ⟨rfl, nd, rfl⟩) | (go_at_call 88; (with_reducible refine (HM.out _).mono ?_); rintro e w' ⟨rfl, nd, rfl⟩) | (go_at_call 89; (with_reducible refine (HT.out _).mono ?_); rintro e w' ⟨rfl, nd, rfl⟩))
   go_quiet ((exact quiet_add ((HT.out _).mono fun e w' h => ⟨h.1, h.2.out⟩)))
   go_wp2_with (first | (go_at_call 88; (with_reducible refine (HD.out _).mono ?_); rintro e w' ⟨rfl, nd, rfl⟩) | (go_at_call 88; (with_reducible refine (HM.out _).mono ?_); rintro e w' ⟨rfl, nd, rfl⟩) | (go_at_call 89; (with_reducible refine (HT.out _).mono ?_); rintro e w' ⟨rfl, nd, rfl⟩))
   go_ret3
   exact HP.out _ zq23
  have hptb : ((c.toNat : Int) == 46) = false := beq_eq_false_iff_ne.mpr hpt
  rw [hptb] at HP
  clear hpt
  go_enter Tryd.func57, Tryd.ntmps57
  go_wp2_with (first | (go_at_call 88; (with_reducible refine (HD.out _).mono ?_); rintro e w' ⟨rfl, nd, rfl⟩) | (go_at_call 88; (with_reducible refine (HM.out _).mono ?_); rintro e w' ⟨rfl, nd, rfl⟩) | (go_at_call 89; (with_reducible refine (HT.out _).mono ?_); rintro e w' ⟨rfl, nd, rfl⟩))
  go_quiet (fail)
  rw [HR.out, HC.out]
  go_wp2_with (first | (go_at_call 88; (with_reducible refine (HD.out _).mono ?_); rintro e w' ⟨rfl, nd, rfl⟩) | (go_at_call 88; (with_reducible refine (HM.out _).mono ?_); rintro e w' ⟨rfl, nd, rfl⟩) | (go_at_call 89; (with_reducible refine (HT.out _).mono ?_); rintro e w' ⟨rfl, nd, rfl⟩))
  go_quiet ((exact quiet_add ((HT.out _).mono fun e w' h => ⟨h.1, h.2.out⟩)))
  go_wp2_with (first | (go_at_call 88; (with_reducible refine (HD.out _).mono ?_); rintro e w' ⟨rfl, nd, rfl⟩) | (go_at_call 88; (with_reducible refine (HM.out _).mono ?_); rintro e w' ⟨rfl, nd, rfl⟩) | (go_at_call 89; (with_reducible refine (HT.out _).mono ?_); rintro e w' ⟨rfl, nd, rfl⟩))
  go_ret3
  exact HP.out _ zq23
 have h1b : decide ((1 : Int) < (n : Int)) = false := by simp; omega
 clear H12
 by_cases hr0 : rest.size = 0
 ·rw [if_pos hr0] at h
  simp only [Option.some.injEq, Prod.mk.injEq] at h
  obtain ⟨rfl, rfl, rfl⟩ := h
  have hr1 : (rest.toList.isEmpty) = true := by rw [List.isEmpty_iff]; exact toList_nil hr0
  clear hr0
  go_enter Tryd.func57, Tryd.ntmps57
  go_wp2_with (first | (go_at_call 88; (with_reducible refine (HD.out _).mono ?_); rintro e w' ⟨rfl, nd, rfl⟩) | (go_at_call 88; (with_reducible refine (HM.out _).mono ?_); rintro e w' ⟨rfl, nd, rfl⟩) | (go_at_call 89; (with_reducible refine (HT.out _).mono ?_); rintro e w' ⟨rfl, nd, rfl⟩))
  go_quiet (fail)
  rw [HR.out]
  go_wp2_with fail
  go_ret3
  exact HP.out _ zq23
 rw [if_neg hr0] at h
 replace h := Option.bind_eq_some_iff.mp h
 obtain ⟨m, hm, h⟩ := h
 have HM := sd (fun W => rf03_digits.calls k rest m W hm)
 clear hm
 have hr1 : (rest.toList.isEmpty) = false := by rw [← Bool.not_eq_true, List.isEmpty_iff]; exact fun e => hr0 (toList_nil' e)
 have hr0' : 0 < rest.size := by omega
 clear hr0
 by_cases hms : m < (rest.size : Int)
 ·rw [if_pos hms] at h
  simp only [Option.some.injEq, Prod.mk.injEq] at h
  obtain ⟨rfl, rfl, rfl⟩ := h
  go_enter Tryd.func57, Tryd.ntmps57
  go_wp2_with (first | (go_at_call 88; (with_reducible refine (HD.out _).mono ?_); rintro e w' ⟨rfl, nd, rfl⟩) | (go_at_call 88; (with_reducible refine (HM.out _).mono ?_); rintro e w' ⟨rfl, nd, rfl⟩) | (go_at_call 89; (with_reducible refine (HT.out _).mono ?_); rintro e w' ⟨rfl, nd, rfl⟩))
  go_quiet (fail)
  rw [HR.out]
  go_wp2_with (first | (go_at_call 88; (with_reducible refine (HD.out _).mono ?_); rintro e w' ⟨rfl, nd, rfl⟩) | (go_at_call 88; (with_reducible refine (HM.out _).mono ?_); rintro e w' ⟨rfl, nd, rfl⟩) | (go_at_call 89; (with_reducible refine (HT.out _).mono ?_); rintro e w' ⟨rfl, nd, rfl⟩))
  go_ret3
  exact HP.out _ zq23
 rw [if_neg hms] at h
 have hmsb : decide (m < (rest.size : Int)) = false := decide_eq_false hms
 clear hms
 by_cases hsl : (c.toNat : Int) = 47
 ·rw [if_pos hsl] at h
  have hslb : ((c.toNat : Int) == 47) = true := beq_iff_eq.mpr hsl
  clear hsl
  replace h := Option.bind_eq_some_iff.mp h
  obtain ⟨t, ht, h⟩ := h
  have HT := sd (fun W => rf03_trim.calls k (a0.extract 0 n) t W ht)
  clear ht
  rw [show bt rest 0 = (rest[0].toNat : Int) from (bt_at rest 0 hr0').symm] at h
  simp only [Option.some.injEq, Prod.mk.injEq] at h
  obtain ⟨rfl, rfl, rfl⟩ := h
  go_enter Tryd.func57, Tryd.ntmps57
  go_wp2_with (first | (go_at_call 88; (with_reducible refine (HD.out _).mono ?_); rintro e w' ⟨rfl, nd, rfl⟩) | (go_at_call 88; (with_reducible refine (HM.out _).mono ?_); rintro e w' ⟨rfl, nd, rfl⟩) | (go_at_call 89; (with_reducible refine (HT.out _).mono ?_); rintro e w' ⟨rfl, nd, rfl⟩))
  go_quiet (fail)
  rw [HR.out, HC.out]
  go_wp2_with (first | (go_at_call 88; (with_reducible refine (HD.out _).mono ?_); rintro e w' ⟨rfl, nd, rfl⟩) | (go_at_call 88; (with_reducible refine (HM.out _).mono ?_); rintro e w' ⟨rfl, nd, rfl⟩) | (go_at_call 89; (with_reducible refine (HT.out _).mono ?_); rintro e w' ⟨rfl, nd, rfl⟩))
  go_quiet ((exact quiet_add ((HT.out _).mono fun e w' h => ⟨h.1, h.2.out⟩)))
  go_wp2_with (first | (go_at_call 88; (with_reducible refine (HD.out _).mono ?_); rintro e w' ⟨rfl, nd, rfl⟩) | (go_at_call 88; (with_reducible refine (HM.out _).mono ?_); rintro e w' ⟨rfl, nd, rfl⟩) | (go_at_call 89; (with_reducible refine (HT.out _).mono ?_); rintro e w' ⟨rfl, nd, rfl⟩))
  go_ret3
  exact HP.out _ zq23
 rw [if_neg hsl] at h
 have hslb : ((c.toNat : Int) == 47) = false := beq_eq_false_iff_ne.mpr hsl
 clear hsl
 replace h := Option.bind_eq_some_iff.mp h
 obtain ⟨t, ht, h⟩ := h
 have HT := sd (fun W => rf03_trim.calls k (a0.extract 0 n ++ rest) t W ht)
 clear ht
 simp only [Option.some.injEq, Prod.mk.injEq] at h
 obtain ⟨rfl, rfl, rfl⟩ := h
 have hcat : (9223372036854775807 < n + rest.size) = False := by have := HS.out; simp; omega
 by_cases h6 : 6 < rest.size
 ·have h6b : decide ((rest.size : Int) ≤ 6) = false := by simp; omega
  have h6c : (6 : Int) < (rest.size : Int) := by omega
  rw [show min rest.size 6 = 6 by omega, h6b] at HP
  replace HP : Aside0 (∀ W, Drawn0 w W → Post (.returned (.tuple #[.string t, .string ((⟨#[49, 48, 48, 48, 48, 48, 48]⟩ : ByteArray).extract 0 7), .bool (((c.toNat : Int) == 46) && false)])) W) := HP
  rw [Bool.and_false] at HP
  by_cases hpt : (c.toNat : Int) = 46
  ·have hptb : ((c.toNat : Int) == 46) = true := beq_iff_eq.mpr hpt
   clear hpt
   go_enter Tryd.func57, Tryd.ntmps57
   go_wp2_with (first | (go_at_call 88; (with_reducible refine (HD.out _).mono ?_); rintro e w' ⟨rfl, nd, rfl⟩) | (go_at_call 88; (with_reducible refine (HM.out _).mono ?_); rintro e w' ⟨rfl, nd, rfl⟩) | (go_at_call 89; (with_reducible refine (HT.out _).mono ?_); rintro e w' ⟨rfl, nd, rfl⟩))
   go_quiet (fail)
   rw [HR.out, HC.out]
   go_wp2_with (first | (go_at_call 88; (with_reducible refine (HD.out _).mono ?_); rintro e w' ⟨rfl, nd, rfl⟩) | (go_at_call 88; (with_reducible refine (HM.out _).mono ?_); rintro e w' ⟨rfl, nd, rfl⟩) | (go_at_call 89; (with_reducible refine (HT.out _).mono ?_); rintro e w' ⟨rfl, nd, rfl⟩))
   go_quiet ((exact quiet_add ((HT.out _).mono fun e w' h => ⟨h.1, h.2.out⟩)))
   go_wp2_with (first | (go_at_call 88; (with_reducible refine (HD.out _).mono ?_); rintro e w' ⟨rfl, nd, rfl⟩) | (go_at_call 88; (with_reducible refine (HM.out _).mono ?_); rintro e w' ⟨rfl, nd, rfl⟩) | (go_at_call 89; (with_reducible refine (HT.out _).mono ?_); rintro e w' ⟨rfl, nd, rfl⟩))
   go_ret3
   exact HP.out _ zq23
  have hptb : ((c.toNat : Int) == 46) = false := beq_eq_false_iff_ne.mpr hpt
  clear hpt
  go_enter Tryd.func57, Tryd.ntmps57
  go_wp2_with (first | (go_at_call 88; (with_reducible refine (HD.out _).mono ?_); rintro e w' ⟨rfl, nd, rfl⟩) | (go_at_call 88; (with_reducible refine (HM.out _).mono ?_); rintro e w' ⟨rfl, nd, rfl⟩) | (go_at_call 89; (with_reducible refine (HT.out _).mono ?_); rintro e w' ⟨rfl, nd, rfl⟩))
  go_quiet (fail)
  rw [HR.out, HC.out]
  go_wp2_with (first | (go_at_call 88; (with_reducible refine (HD.out _).mono ?_); rintro e w' ⟨rfl, nd, rfl⟩) | (go_at_call 88; (with_reducible refine (HM.out _).mono ?_); rintro e w' ⟨rfl, nd, rfl⟩) | (go_at_call 89; (with_reducible refine (HT.out _).mono ?_); rintro e w' ⟨rfl, nd, rfl⟩))
  go_quiet ((exact quiet_add ((HT.out _).mono fun e w' h => ⟨h.1, h.2.out⟩)))
  go_wp2_with (first | (go_at_call 88; (with_reducible refine (HD.out _).mono ?_); rintro e w' ⟨rfl, nd, rfl⟩) | (go_at_call 88; (with_reducible refine (HM.out _).mono ?_); rintro e w' ⟨rfl, nd, rfl⟩) | (go_at_call 89; (with_reducible refine (HT.out _).mono ?_); rintro e w' ⟨rfl, nd, rfl⟩))
  go_ret3
  exact HP.out _ zq23
 have h6b : decide ((rest.size : Int) ≤ 6) = true := by simp; omega
 have h6c : ¬ (6 : Int) < (rest.size : Int) := by omega
 rw [show min rest.size 6 = rest.size by omega, h6b, Bool.and_true] at HP
 have hm7 : rest.size ≤ 6 := by omega
 have hm8 : 0 ≤ 1 + (rest.size : Int) := by omega
 have hm9 : 1 + (rest.size : Int) ≤ 7 := by omega
 have hmw : IntKind.i64.wrap (1 + (rest.size : Int)) = 1 + (rest.size : Int) := IntWalk.i64_in _ (by omega)
 have hmt : (1 + (rest.size : Int)).toNat = 1 + rest.size := by omega
 clear h6
 by_cases hpt : (c.toNat : Int) = 46
 ·have hptb : ((c.toNat : Int) == 46) = true := beq_iff_eq.mpr hpt
  rw [hptb] at HP
  clear hpt
  go_enter Tryd.func57, Tryd.ntmps57
  go_wp2_with (first | (go_at_call 88; (with_reducible refine (HD.out _).mono ?_); rintro e w' ⟨rfl, nd, rfl⟩) | (go_at_call 88; (with_reducible refine (HM.out _).mono ?_); rintro e w' ⟨rfl, nd, rfl⟩) | (go_at_call 89; (with_reducible refine (HT.out _).mono ?_); rintro e w' ⟨rfl, nd, rfl⟩))
  go_quiet (fail)
  rw [HR.out, HC.out]
  go_wp2_with (first | (go_at_call 88; (with_reducible refine (HD.out _).mono ?_); rintro e w' ⟨rfl, nd, rfl⟩) | (go_at_call 88; (with_reducible refine (HM.out _).mono ?_); rintro e w' ⟨rfl, nd, rfl⟩) | (go_at_call 89; (with_reducible refine (HT.out _).mono ?_); rintro e w' ⟨rfl, nd, rfl⟩))
  go_quiet ((exact quiet_add ((HT.out _).mono fun e w' h => ⟨h.1, h.2.out⟩)))
  go_wp2_with (first | (go_at_call 88; (with_reducible refine (HD.out _).mono ?_); rintro e w' ⟨rfl, nd, rfl⟩) | (go_at_call 88; (with_reducible refine (HM.out _).mono ?_); rintro e w' ⟨rfl, nd, rfl⟩) | (go_at_call 89; (with_reducible refine (HT.out _).mono ?_); rintro e w' ⟨rfl, nd, rfl⟩))
  go_ret3
  exact HP.out _ zq23
 have hptb : ((c.toNat : Int) == 46) = false := beq_eq_false_iff_ne.mpr hpt
 rw [hptb] at HP
 clear hpt
 go_enter Tryd.func57, Tryd.ntmps57
 go_wp2_with (first | (go_at_call 88; (with_reducible refine (HD.out _).mono ?_); rintro e w' ⟨rfl, nd, rfl⟩) | (go_at_call 88; (with_reducible refine (HM.out _).mono ?_); rintro e w' ⟨rfl, nd, rfl⟩) | (go_at_call 89; (with_reducible refine (HT.out _).mono ?_); rintro e w' ⟨rfl, nd, rfl⟩))
 go_quiet (fail)
 rw [HR.out, HC.out]
 go_wp2_with (first | (go_at_call 88; (with_reducible refine (HD.out _).mono ?_); rintro e w' ⟨rfl, nd, rfl⟩) | (go_at_call 88; (with_reducible refine (HM.out _).mono ?_); rintro e w' ⟨rfl, nd, rfl⟩) | (go_at_call 89; (with_reducible refine (HT.out _).mono ?_); rintro e w' ⟨rfl, nd, rfl⟩))
 go_quiet ((exact quiet_add ((HT.out _).mono fun e w' h => ⟨h.1, h.2.out⟩)))
 go_wp2_with (first | (go_at_call 88; (with_reducible refine (HD.out _).mono ?_); rintro e w' ⟨rfl, nd, rfl⟩) | (go_at_call 88; (with_reducible refine (HM.out _).mono ?_); rintro e w' ⟨rfl, nd, rfl⟩) | (go_at_call 89; (with_reducible refine (HT.out _).mono ?_); rintro e w' ⟨rfl, nd, rfl⟩))
 go_ret3
 exact HP.out _ zq23
def rf03_less.f (a0 : ByteArray) (a1 : ByteArray) : Option (Bool) := if (a0.size : Int) < (a1.size : Int) then (some true) else (if (a0.size : Int) = (a1.size : Int) then (some (Op.bytesLess a0.toList a1.toList)) else (some false))
theorem rf03_less.calls (a0 a1 : ByteArray) (r : Bool) (w : World) (h : rf03_less.f a0 a1 = some r) :
  Calls Tryd.prog 90 #[.string a0, .string a1] w fun e w' => e = .returned (.bool r) ∧ Drawn0 w w' := by
 have H := h
 clear h
 unfold rf03_less.f at H
 replace H := ifI H
 rcases H with ⟨c3, H⟩ | ⟨c3, H⟩
 ·have c3b0 : decide ((a0.size : Int) < (a1.size : Int)) = true := decide_eq_true c3
  have c3b1 : decide (a0.size < a1.size) = true := decide_eq_true (Int.ofNat_lt.mp c3)
  clear c3
  obtain rfl := Option.some.inj H
  go_enter Tryd.func90, Tryd.ntmps90
  go_wp2
  go_ret
  exact ⟨zq1, zq23⟩
 have c3b0 : decide ((a0.size : Int) < (a1.size : Int)) = false := decide_eq_false c3
 have c3b1 : decide (a0.size < a1.size) = false := decide_eq_false (fun h => c3 (Int.ofNat_lt.mpr h))
 clear c3
 replace H := ifI H
 rcases H with ⟨c4, H⟩ | ⟨c4, H⟩
 ·obtain ⟨c4b0, c4b1⟩ := eqI c4
  have c4b2 : (a0.size == a1.size) = true := by first | simpa using c4 | (simp at c4 ⊢; omega)
  clear c4
  obtain rfl := Option.some.inj H
  go_enter Tryd.func90, Tryd.ntmps90
  go_wp2
  go_ret
  exact ⟨zq1, zq23⟩
 obtain ⟨c4b0, c4b1⟩ := neI c4
 have c4b2 : (a0.size == a1.size) = false := by first | simpa using c4 | (simp at c4 ⊢; omega)
 obtain rfl := Option.some.inj H
 go_enter Tryd.func90, Tryd.ntmps90
 go_wp2
 go_ret
 exact ⟨zq1, zq23⟩
def rf03_minus.l0 : Nat → ByteArray → ByteArray → List Int → Int → Int → Option ByteArray
 | 0, _, _, _, _, _ => none
 | k + 1, a, b, o, br, i => if i ≤ (a.size : Int) then (if mnDigit a b br i < 0 then rf03_minus.l0 k a b (o.set ((a.size : Int) - i).toNat ((58 + mnDigit a b br i) % 256)) 1 (i + 1) else rf03_minus.l0 k a b (o.set ((a.size : Int) - i).toNat ((48 + mnDigit a b br i) % 256)) 0 (i + 1))
  else rf03_trim.f k (strOfNums o)
def rf03_minus.f (k : Nat) (a b : ByteArray) : Option ByteArray := if a.size ≤ 140737488351232 ∧ b.size ≤ 140737488351232 then rf03_minus.l0 k a b (bytesOf a) 0 1 else none
theorem rf03_minus.calls (k : Nat) (a0 a1 r : ByteArray) (w : World) (h : rf03_minus.f k a0 a1 = some r) :
  Calls Tryd.prog 91 #[.string a0, .string a1] w fun e w' => e = .returned (.string r) ∧ Below w.heap.size w w' := by
 unfold rf03_minus.f at h
 split at h
 case isFalse => cases h
 rename_i hs
 obtain ⟨hA, hB⟩ := hs
 have hcv := run_bytes_of_string (P := Tryd.prog) w 9 78 5 a0 Tryd.underlying9 Tryd.underlying78 Tryd.underlying5
 have H := sd h
 clear h
 go_enter Tryd.func91, Tryd.ntmps91
 go_wp2_with fail
 have HS := sd (MinR.start 5 w a0 (grownCap w a0.size 0 5) _ (show a0.size ≤ (bytesRow a0 (grownCap w a0.size 0 5)).size by exact bytesRow_le _ _))
 have HBel := sd (show Below w.heap.size w ((w.alloc (.cells (bytesRow a0 (grownCap w a0.size 0 5)) 5 ((bytesRow a0 (grownCap w a0.size 0 5)).size, (bytesRow a0 (grownCap w a0.size 0 5)).size + 1))).drew) from below_drew (below_alloc (Below.refl _ _) _))
 have HLen := sd (bytesOf_length a0)
 generalize (w.alloc (.cells (bytesRow a0 (grownCap w a0.size 0 5)) 5 ((bytesRow a0 (grownCap w a0.size 0 5)).size, (bytesRow a0 (grownCap w a0.size 0 5)).size + 1))).drew = W0 at *
 generalize grownCap w a0.size 0 5 = cap at *
 generalize bytesOf a0 = o0 at *
 clear hcv
 go_loopg [6, 7] k (fun kq v6 v7 wr => ∃ (o : List Int) (br : Int) (p : Nat), v6 = .int .i64 br ∧ v7 = .int .i64 (p : Int) ∧ 0 ≤ br ∧ br ≤ 1 ∧ 1 ≤ p ∧ p ≤ a0.size + 1 ∧ Aside0 (rf03_minus.l0 kq a0 a1 o br (p : Int) = some r) ∧ Aside0 (MinR wr w.heap.size o) ∧ Aside0 (o.length = a0.size) ∧ Aside0 (Below w.heap.size w wr))
 case atStart => exact ⟨o0, 0, 1, rfl, rfl, by omega, by omega, by omega, by omega, H, HS, HLen, HBel⟩
 case round =>
  clear H HS HBel HLen
  obtain ⟨o, br, p, rfl, rfl, hb0, hb1, hp1, hp2, HA, HM, HL, HB⟩ := hrel
  cases gk with
  | zero => exact absurd HA.out (by simp [rf03_minus.l0])
  | succ k1 =>
   have H := HA.out
   clear HA
   rw [rf03_minus.l0] at H
   by_cases hp : p ≤ a0.size
   ·rw [if_pos (by omega)] at H
    obtain ⟨j, hj⟩ : ∃ j : Nat, j + p = a0.size := ⟨a0.size - p, by omega⟩
    have ej : (a0.size : Int) - (p : Int) = (j : Int) := by omega
    have hjlt : j < a0.size := by omega
    have hM := HM.out j (by rw [HL.out]; exact hjlt)
    rw [show ((a0.size : Int) - (p : Int)).toNat = j by omega] at H
    have hc0 : (0 : Int) ≤ (a0[j].toNat : Int) := by omega
    have hc1 : (a0[j].toNat : Int) ≤ 255 := by have := a0[j].toNat_lt; omega
    by_cases hpb : p ≤ a1.size
    ·obtain ⟨jb, hjb⟩ : ∃ jb : Nat, jb + p = a1.size := ⟨a1.size - p, by omega⟩
     have eb : (a1.size : Int) - (p : Int) = (jb : Int) := by omega
     have hjblt : jb < a1.size := by omega
     have hd0 : (0 : Int) ≤ (a1[jb].toNat : Int) := by omega
     have hd1 : (a1[jb].toNat : Int) ≤ 255 := by have := a1[jb].toNat_lt; omega
     have hmn : mnDigit a0 a1 br (p : Int) = (a0[j].toNat : Int) - 48 - br - ((a1[jb].toNat : Int) - 48) := by
      unfold mnDigit
      rw [if_pos (by omega), ej, eb, ← bt_at a0 j hjlt, ← bt_at a1 jb hjblt]; rfl
     obtain ⟨c, hc⟩ : ∃ c : Int, (a0[j].toNat : Int) = c := ⟨_, rfl⟩
     obtain ⟨d, hd⟩ : ∃ d : Int, (a1[jb].toNat : Int) = d := ⟨_, rfl⟩
     rw [hc] at hc0 hc1 hmn
     rw [hd] at hd0 hd1 hmn
     rw [hmn] at H
     clear hmn
     by_cases hn : c - 48 - br - (d - 48) < 0
     ·rw [if_pos hn] at H
      have HH := sd H
      clear H
      have hset := HM.out.set j (by rw [HL.out]; exact hjlt) ((58 + (c - 48 - br - (d - 48))) % 256)
      rw [show (58 + (c - 48 - br - (d - 48))) % 256 = (48 + (c - 48 - br - (d - 48) + 10)) % 256 by congr 1; omega] at hset HH
      have HSet := sd hset
      clear hset
      obtain ⟨hm1, hm2⟩ := hM
      go_wp2_with fail
      go_roundg k1
      case measure => omega
      case rel => exact ⟨_, 1, p + 1, rfl, by go_num, by omega, by omega, by omega, by omega, ⟨zq61⟩, HSet, ⟨by rw [List.length_set]; exact HL.out⟩, ⟨HB.out.setCell (Nat.le_refl _) _⟩⟩
     rw [if_neg hn] at H
     have HH := sd H
     clear H
     have hset := HM.out.set j (by rw [HL.out]; exact hjlt) ((48 + (c - 48 - br - (d - 48))) % 256)
     have HSet := sd hset
     clear hset
     obtain ⟨hm1, hm2⟩ := hM
     go_wp2_with fail
     go_roundg k1
     case measure => omega
     case rel => exact ⟨_, 0, p + 1, rfl, by go_num, by omega, by omega, by omega, by omega, ⟨zq61⟩, HSet, ⟨by rw [List.length_set]; exact HL.out⟩, ⟨HB.out.setCell (Nat.le_refl _) _⟩⟩
    have hmn : mnDigit a0 a1 br (p : Int) = (a0[j].toNat : Int) - 48 - br := by
     unfold mnDigit
     rw [if_neg (by omega), ej, ← bt_at a0 j hjlt]; show _ - _ - _ - 0 = _; rw [Int.sub_zero]; rfl
    obtain ⟨c, hc⟩ : ∃ c : Int, (a0[j].toNat : Int) = c := ⟨_, rfl⟩
    rw [hc] at hc0 hc1 hmn
    rw [hmn] at H
    clear hmn
    by_cases hn : c - 48 - br < 0
    ·rw [if_pos hn] at H
     have HH := sd H
     clear H
     have hset := HM.out.set j (by rw [HL.out]; exact hjlt) ((58 + (c - 48 - br)) % 256)
     rw [show (58 + (c - 48 - br)) % 256 = 48 + (c - 48 - br + 10) by omega] at hset HH
     have HSet := sd hset
     clear hset
     obtain ⟨hm1, hm2⟩ := hM
     go_wp2_with fail
     go_roundg k1
     case measure => omega
     case rel => exact ⟨_, 1, p + 1, rfl, by go_num, by omega, by omega, by omega, by omega, ⟨zq61⟩, HSet, ⟨by rw [List.length_set]; exact HL.out⟩, ⟨HB.out.setCell (Nat.le_refl _) _⟩⟩
    rw [if_neg hn] at H
    have HH := sd H
    clear H
    have hset := HM.out.set j (by rw [HL.out]; exact hjlt) ((48 + (c - 48 - br)) % 256)
    rw [show (48 + (c - 48 - br)) % 256 = 48 + (c - 48 - br) by omega] at hset HH
    have HSet := sd hset
    clear hset
    obtain ⟨hm1, hm2⟩ := hM
    go_wp2_with fail
    go_roundg k1
    case measure => omega
    case rel => exact ⟨_, 0, p + 1, rfl, by go_num, by omega, by omega, by omega, by omega, ⟨zq61⟩, HSet, ⟨by rw [List.length_set]; exact HL.out⟩, ⟨HB.out.setCell (Nat.le_refl _) _⟩⟩
   rw [if_neg (by omega)] at H
   have hC := HM.out.C (by rw [HL.out]; omega)
   rw [HL.out] at hC
   have hcs := Kd.C_string (P := Tryd.prog) (src := 78) (dst := 9) (e := 5) (c := cap) Tryd.underlying78 Tryd.underlying5 Tryd.underlying9 hC
   have HT := sd (fun W => rf03_trim.calls k1 _ r W H)
   clear hC H
   go_wp2_with fail
   refine (HT.out _).mono ?_
   rintro e w2 ⟨rfl, hd⟩
   go_wp2_with fail
   go_ret
   exact ⟨rfl, HB.out.trans (hd.below.mono HB.out.size)⟩
mutual
def rf03_divide.l0 : Nat → ByteArray → ByteArray → List Int → ByteArray → Int → Option (ByteArray × ByteArray)
 | 0, _, _, _, _, _ => none
 | k + 1, x0, x1, x6, x7, x8 => if x8 < (x0.size : Int) then (if 0 ≤ x8 then (if x8 ≤ (wrap64 (x8 + 1)) then (if (wrap64 (x8 + 1)) ≤ (x0.size : Int) then (if x7.size + (x0.extract (x8 : Int).toNat ((wrap64 (x8 + 1)) : Int).toNat).size ≤ 9223372036854775807 then ((rf03_trim.f k (x7 ++ (x0.extract (x8 : Int).toNat ((wrap64 (x8 + 1)) : Int).toNat))).bind fun t392 => (rf03_divide.l1 k x0 x1 x6 t392 x8 0)) else (none)) else (none)) else (none)) else (none)) else ((rf03_trim.f k (strOfNums x6)).bind fun t391 => (some (t391, x7)))
def rf03_divide.l1 : Nat → ByteArray → ByteArray → List Int → ByteArray → Int → Int → Option (ByteArray × ByteArray)
 | 0, _, _, _, _, _, _ => none
 | k + 1, x0, x1, x6, x7, x8, x9 => (rf03_less.f x7 x1).bind fun t393 => (if t393 = true then (if x6.length < 140737488355328 then (rf03_divide.l0 k x0 x1 (x6 ++ [(wrap64 (48 + x9)) % 256]) x7 (wrap64 (x8 + 1))) else (none)) else ((rf03_minus.f k x7 x1).bind fun t397 => (rf03_divide.l1 k x0 x1 x6 t397 x8 (wrap64 (x9 + 1)))))
end
def rf03_divide.f (k : Nat) (a0 : ByteArray) (a1 : ByteArray) : Option (ByteArray × ByteArray) := rf03_divide.l0 k a0 a1 ([] : List Int) (⟨#[]⟩ : ByteArray) 0
theorem rf03_divide.calls (k : Nat) (a0 a1 r1 r2 : ByteArray) (w : World) (h : rf03_divide.f k a0 a1 = some (r1, r2)) :
  Calls Tryd.prog 59 #[.string a0, .string a1] w fun e w' => e = .returned (.tuple #[.string r1, .string r2]) ∧ Below w.heap.size w w' := by
 have HB := sd (Below.refl w.heap.size w)
 have H := h
 clear h
 unfold rf03_divide.f at H
 have H' := sd H
 clear H
 go_enter Tryd.func59, Tryd.ntmps59
 go_wp2
 go_loopg [6, 7, 8] k (fun kq v6 v7 v8 w' => ∃ (x6_1 : List Int) (x7_1 : ByteArray) (x8_1 : Int), v7 = .string x7_1 ∧ v8 = .int .i64 x8_1 ∧ Aside0 (rf03_divide.l0 kq a0 a1 x6_1 x7_1 x8_1 = some (r1, r2)) ∧ Aside0 (kq ≤ k) ∧ Aside0 (Kd.R (Kd.int .u8) 5 w' w.heap.size (fun _ => True) v6 x6_1) ∧ Aside0 (Below w.heap.size w w'))
 case atStart => exact ⟨(([] : List Int)), ((⟨#[]⟩ : ByteArray)), (0), zq1, zq1, H', ⟨Nat.le_refl _⟩, ⟨zq43⟩, ⟨zq34⟩⟩
 case round =>
  clear H'
  try clear p2
  obtain ⟨x6_1, x7_1, x8_1, rfl, rfl, HA, HK1, HO_6, HB⟩ := hrel
  cases gk with
  | zero => exact absurd HA.out (by simp [rf03_divide.l0])
  | succ k1 =>
   have H := HA.out
   clear HA
   simp only [rf03_divide.l0] at H
   replace H := ifI H
   rcases H with ⟨c3, H⟩ | ⟨c3, H⟩
   ·have c3b0 : decide (x8_1 < (a0.size : Int)) = true := decide_eq_true c3
    clear c3
    replace H := ifI H
    rcases H with ⟨c4, H⟩ | ⟨c4, H⟩
    ·have c4b0 := eq_true c4
     have c4b1 : decide (0 ≤ x8_1) = true := decide_eq_true c4
     clear c4
     replace H := ifI H
     rcases H with ⟨c5, H⟩ | ⟨c5, H⟩
     ·have c5b0 := eq_true c5
      have c5b1 : decide (x8_1 ≤ (wrap64 (x8_1 + 1))) = true := decide_eq_true c5
      replace H := ifI H
      rcases H with ⟨c6, H⟩ | ⟨c6, H⟩
      ·have c6b0 := eq_true c6
       have c6b1 : decide ((wrap64 (x8_1 + 1)) ≤ (a0.size : Int)) = true := decide_eq_true c6
       replace H := ifI H
       rcases H with ⟨c7, H⟩ | ⟨c7, H⟩
       ·have c7b0 := eq_true c7
        have c7b1 : decide (x7_1.size + (a0.extract (x8_1 : Int).toNat ((wrap64 (x8_1 + 1)) : Int).toNat).size ≤ 9223372036854775807) = true := decide_eq_true c7
        try have c7b2 : (9223372036854775807 < x7_1.size + (a0.extract (x8_1 : Int).toNat ((wrap64 (x8_1 + 1)) : Int).toNat).size) = False := eq_false (Nat.not_lt.2 c7)
        replace H := bdI H
        obtain ⟨t392, A8, H⟩ := H
        (try dsimp only at H)
        have H' := sd H
        clear H
        go_wp2_with (first | ((with_reducible refine gate_callee (f := 89) rfl ?_); refine gL 23 Tryd.func89 #[.string (x7_1 ++ (a0.extract (x8_1 : Int).toNat ((wrap64 (x8_1 + 1)) : Int).toNat))] ?_; (with_reducible refine (rf03_trim.calls k1 (x7_1 ++ (a0.extract (x8_1 : Int).toNat ((wrap64 (x8_1 + 1)) : Int).toNat)) t392 _ A8.out).mono ?_); rintro e w' ⟨rfl, ⟨nd, rfl⟩⟩; refine ⟨_, rfl, ?_⟩))
        go_loopg [7, 9] k1 (fun kq v7 v9 w' => ∃ (x7_2 : ByteArray) (x9_2 : Int), v7 = .string x7_2 ∧ v9 = .int .i64 x9_2 ∧ Aside0 (rf03_divide.l1 kq a0 a1 x6_1 x7_2 x8_1 x9_2 = some (r1, r2)) ∧ Aside0 (kq ≤ k1) ∧ Aside0 (Kd.R (Kd.int .u8) 5 w' w.heap.size (fun _ => True) u6 x6_1) ∧ Aside0 (Below w.heap.size w w'))
        case atStart => exact ⟨(t392), (0), zq1, zq1, H', ⟨Nat.le_refl _⟩, ⟨zq10⟩, ⟨zq34⟩⟩
        case round =>
         clear H'
         try clear p2
         try clear c3
         try clear c3b0
         try clear c4
         try clear c4b0
         try clear c4b1
         try clear c5
         try clear c5b0
         try clear c5b1
         try clear c6
         try clear c6b0
         try clear c6b1
         try clear p6
         try clear c7
         try clear c7b0
         try clear c7b1
         try clear c7b2
         try clear c8
         try clear p2
         obtain ⟨x7_2, x9_2, rfl, rfl, HA, HK2, HO_6, HB⟩ := hrel
         cases gk with
         | zero => exact absurd HA.out (by simp [rf03_divide.l1])
         | succ k2 =>
          have H := HA.out
          clear HA
          simp only [rf03_divide.l1] at H
          replace H := bdI H
          obtain ⟨t393, A9, H⟩ := H
          (try dsimp only at H)
          by_cases c10 : t393 = true
          ·subst c10
           rw [if_pos rfl] at H
           replace H := ifI H
           rcases H with ⟨c11, H⟩ | ⟨c11, H⟩
           ·have LMc11 := sd c11
            clear c11
            obtain ⟨y394, hy394⟩ : ∃ y_ : List Int, y_ = (x6_1 ++ [(wrap64 (48 + x9_2)) % 256]) := ⟨_, rfl⟩
            replace H : (rf03_divide.l0 k2 a0 a1 y394 x7_2 (wrap64 (x8_1 + 1))) = some (r1, r2) := by first | (rw [hy394]; with_reducible exact H) | (have H2_ := (Option.bind_some _ _).symm.trans H; rw [hy394]; with_reducible exact H2_) | (have H2_ := (Option.bind_some _ _).symm.trans H; with_reducible exact H2_) | with_reducible exact H | (rw [hy394]; exact H) | exact H
            have Ny394 := sd hy394
            clear hy394
            have H' := sd H
            clear H
            go_wp2_with (first | ((with_reducible refine gate_callee (f := 90) rfl ?_); refine gL 26 Tryd.func90 #[.string x7_2, .string a1] ?_; (with_reducible refine (rf03_less.calls x7_2 a1 true _ A9.out).mono ?_); rintro e w' ⟨rfl, ⟨nd, rfl⟩⟩; refine ⟨_, rfl, ?_⟩) | ((with_reducible refine gate_builtin (b := .append) (xs := #[.tmp 33, .tmp 37]) rfl ?_); at_builtin; refine Kd.R_append (Kd.int .u8) (w0 := w) w.heap.size rfl (.tmp 33) (.tmp 37) 78 5 (.int .u8 0) 1 rfl Tryd.underlying78 info5 rfl (by decide) (by omega) u6 x6_1 ((wrap64 (48 + x9_2)) % 256) [.int .u8 ((wrap64 (48 + x9_2)) % 256)] (fun _ => True) (fun _ => False) rfl rfl ?aP (fun _ hk => hk.elim) ?aF ?aO ?aB ?aS ?aL ?_; (case aP => exact rfl); (case aB => exact zq34); (case aF => exact (fun _ _ => trivial)); (case aO => exact zq10); (case aS => exact (below_size zq34)); (case aL => have := LMc11.out; omega); intro v395 w12 ho hb hg hat; rw [← Ny394.out] at ho; have HO396 := sd (ho); replace HB := sd (hb); clear HO_6; clear ho hb hg hat))
            go_roundg k2
            case measure => have := HK1.out; have := HK2.out; omega
            case rel => exact ⟨(y394), (x7_2), (wrap64 (x8_1 + 1)), zq1, zq1, H', ⟨zq62⟩, ⟨by (with_reducible repeat (first | apply Kd.R_alloc | apply Kd.R_drewN | apply Kd.R_drew)); exact HO396.out⟩, ⟨zq34⟩⟩
           exact absurd H (by simp)
          replace c10 := Bool.eq_false_iff.mpr c10
          subst c10
          rw [if_neg Bool.false_ne_true] at H
          replace H := bdI H
          obtain ⟨t397, A13, H⟩ := H
          (try dsimp only at H)
          have H' := sd H
          clear H
          go_wp2_with (first | ((with_reducible refine gate_callee (f := 90) rfl ?_); refine gL 26 Tryd.func90 #[.string x7_2, .string a1] ?_; (with_reducible refine (rf03_less.calls x7_2 a1 false _ A9.out).mono ?_); rintro e w' ⟨rfl, ⟨nd, rfl⟩⟩; refine ⟨_, rfl, ?_⟩) | ((with_reducible refine gate_callee (f := 91) rfl ?_); refine gL 30 Tryd.func91 #[.string x7_2, .string a1] ?_; (with_reducible refine (rf03_minus.calls k2 x7_2 a1 t397 _ A13.out).mono ?_); rintro e w14 ⟨rfl, hb⟩; refine ⟨_, rfl, ?_⟩; replace HO_6 := rbm HO_6 hb; replace HB := hbm HB hb; clear hb))
          go_roundg k2
          case measure => have := HK1.out; have := HK2.out; omega
          case rel => exact ⟨(t397), (wrap64 (x9_2 + 1)), zq1, zq1, H', ⟨zq62⟩, ⟨zq10⟩, ⟨zq34⟩⟩
       exact absurd H (by simp)
      exact absurd H (by simp)
     exact absurd H (by simp)
    exact absurd H (by simp)
   have c3b0 : decide (x8_1 < (a0.size : Int)) = false := decide_eq_false c3
   clear c3
   replace H := bdI H
   obtain ⟨t391, A15, H⟩ := H
   (try dsimp only at H)
   simp only [Option.some.injEq, Prod.mk.injEq] at H
   obtain ⟨rfl, rfl⟩ := H
   have hcv16 := own_string (P := Tryd.prog) Tryd.underlying78 Tryd.underlying5 Tryd.underlying9 (Kd.own_of_R HO_6.out)
   go_wp2_with (first | ((with_reducible refine gate_callee (f := 89) rfl ?_); refine gL 41 Tryd.func89 #[.string (strOfNums x6_1)] ?_; (with_reducible refine (rf03_trim.calls k1 (strOfNums x6_1) t391 _ A15.out).mono ?_); rintro e w' ⟨rfl, ⟨nd, rfl⟩⟩; refine ⟨_, rfl, ?_⟩))
   go_ret2
   exact ⟨zq8, zq34⟩
def rf03_common.l0 : Nat → ByteArray → ByteArray → Option (ByteArray)
 | 0, _, _ => none
 | k + 1, x0, x1 => if x1.toList = ([] : List UInt8) then (some x0) else ((rf03_divide.f k x0 x1).bind fun bt398 => (rf03_common.l0 k x1 bt398.2))
def rf03_common.f (k : Nat) (a0 : ByteArray) (a1 : ByteArray) : Option (ByteArray) := rf03_common.l0 k a0 a1
theorem rf03_common.calls (k : Nat) (a0 a1 r : ByteArray) (w : World) (h : rf03_common.f k a0 a1 = some r) :
  Calls Tryd.prog 58 #[.string a0, .string a1] w fun e w' => e = .returned (.string r) ∧ Below w.heap.size w w' := by
 have HB := sd (Below.refl w.heap.size w)
 have H := h
 clear h
 unfold rf03_common.f at H
 have H' := sd H
 clear H
 go_enter Tryd.func58, Tryd.ntmps58
 go_wp2
 go_loopg [0, 1] k (fun kq v0 v1 w' => ∃ (x0_1 : ByteArray) (x1_1 : ByteArray), v0 = .string x0_1 ∧ v1 = .string x1_1 ∧ Aside0 (rf03_common.l0 kq x0_1 x1_1 = some r) ∧ Aside0 (kq ≤ k) ∧ Aside0 (Below w.heap.size w w'))
 case atStart => exact ⟨(a0), (a1), zq1, zq1, H', ⟨Nat.le_refl _⟩, ⟨zq34⟩⟩
 case round =>
  clear H'
  try clear p2
  obtain ⟨x0_1, x1_1, rfl, rfl, HA, HK1, HB⟩ := hrel
  cases gk with
  | zero => exact absurd HA.out (by simp [rf03_common.l0])
  | succ k1 =>
   have H := HA.out
   clear HA
   simp only [rf03_common.l0] at H
   replace H := ifI H
   rcases H with ⟨c3, H⟩ | ⟨c3, H⟩
   ·obtain ⟨c3b0, c3b1⟩ := eqI c3
    clear c3
    obtain rfl := Option.some.inj H
    go_wp2
    go_ret
    exact ⟨zq8, zq34⟩
   obtain ⟨c3b0, c3b1⟩ := neI c3
   replace H := bdI H
   obtain ⟨⟨t398, t399⟩, A4, H⟩ := H
   (try dsimp only at H)
   have H' := sd H
   clear H
   go_wp2_with (first | ((with_reducible refine gate_callee (f := 59) rfl ?_); refine gL 12 Tryd.func59 #[.string x0_1, .string x1_1] ?_; (with_reducible refine (rf03_divide.calls k1 x0_1 x1_1 t398 t399 _ A4.out).mono ?_); rintro e w5 ⟨rfl, hb⟩; refine ⟨_, rfl, ?_⟩; replace HB := hbm HB hb; clear hb))
   go_roundg k1
   case measure => have := HK1.out; omega
   case rel => exact ⟨(x1_1), (t399), zq1, zq1, H', ⟨by have := HK1.out; omega⟩, ⟨zq34⟩⟩
def rf03_number.l0 : Nat → ByteArray → Int → Int → Option (Int)
 | 0, _, _, _ => none
 | k + 1, x0, x3, x4 => if x4 < (x0.size : Int) then (if 0 ≤ x4 then (rf03_number.l0 k x0 (wrap64 ((wrap64 ((wrap64 (x3 * 10)) + (wrap64 (bt x0 x4)))) - 48)) (wrap64 (x4 + 1))) else (none)) else (some x3)
def rf03_number.f (k : Nat) (a0 : ByteArray) : Option (Int) := rf03_number.l0 k a0 0 0
theorem rf03_number.calls (k : Nat) (a0 : ByteArray) (r : Int) (w : World) (h : rf03_number.f k a0 = some r) :
  Calls Tryd.prog 61 #[.string a0] w fun e w' => e = .returned (.int .i64 r) ∧ Drawn0 w w' := by
 have H := h
 clear h
 unfold rf03_number.f at H
 have H' := sd H
 clear H
 go_enter Tryd.func61, Tryd.ntmps61
 go_wp2
 go_loopg [3, 4] k (fun kq v3 v4 w' => ∃ (x3_1 : Int) (x4_1 : Int), v3 = .int .i64 x3_1 ∧ v4 = .int .i64 x4_1 ∧ Aside0 (rf03_number.l0 kq a0 x3_1 x4_1 = some r) ∧ Aside0 (kq ≤ k) ∧ Drawn0 w w')
 case atStart => exact ⟨(0), (0), zq1, zq1, H', ⟨Nat.le_refl _⟩, zq23⟩
 case round =>
  clear H'
  obtain ⟨x3_1, x4_1, rfl, rfl, HA, HK1, ⟨m1, rfl⟩⟩ := hrel
  cases gk with
  | zero => exact absurd HA.out (by simp [rf03_number.l0])
  | succ k1 =>
   have H := HA.out
   clear HA
   simp only [rf03_number.l0] at H
   replace H := ifI H
   rcases H with ⟨c2, H⟩ | ⟨c2, H⟩
   ·have c2b0 : decide (x4_1 < (a0.size : Int)) = true := decide_eq_true c2
    clear c2
    replace H := ifI H
    rcases H with ⟨c3, H⟩ | ⟨c3, H⟩
    ·have c3b0 : decide (0 ≤ x4_1) = true := decide_eq_true c3
     clear c3
     have H' := sd H
     clear H
     have p4 : 0 ≤ (x4_1 : Int) := od
     have q4 : x4_1 < (a0.size : Int) := od
     have hx4 := bt_at a0 x4_1
     replace p4 := eq_true p4
     replace q4 := eq_true q4
     go_wp2
     go_roundg k1
     case measure => have := HK1.out; omega
     case rel => exact ⟨(wrap64 ((wrap64 ((wrap64 (x3_1 * 10)) + (wrap64 (bt a0 x4_1)))) - 48)), (wrap64 (x4_1 + 1)), zq1, zq1, H', ⟨by have := HK1.out; omega⟩, zq23⟩
    exact absurd H (by simp)
   have c2b0 : decide (x4_1 < (a0.size : Int)) = false := decide_eq_false c2
   clear c2
   obtain rfl := Option.some.inj H
   go_wp2
   go_ret
   exact ⟨zq1, zq23⟩
mutual
def rf03_Parse.j0 : Nat → ByteArray → ByteArray → Bool → Option (Int × Int × Int)
 | 0, _, _, _ => none
 | k + 1, x0, x4, x19 => if x19 = true then (if 1 ≤ (x0.size : Int) then (rf03_Parse.j1 k x0 (x0.extract 1 x0.size)) else (none)) else (rf03_Parse.j1 k x0 x4)
def rf03_Parse.j1 : Nat → ByteArray → ByteArray → Option (Int × Int × Int)
 | 0, _, _ => none
 | k + 1, x0, x4 => (rf03_split.f k x4).bind fun bt410 => (if bt410.2.2 = true then (if (x4.size : Int) < (x0.size : Int) then (rf03_Parse.j2 k x0 x4 bt410.1 bt410.2.1 (bt410.1.toList == ([] : List UInt8))) else (rf03_Parse.j2 k x0 x4 bt410.1 bt410.2.1 false)) else (rf03_Parse.j2 k x0 x4 bt410.1 bt410.2.1 true))
def rf03_Parse.j2 : Nat → ByteArray → ByteArray → ByteArray → ByteArray → Bool → Option (Int × Int × Int)
 | 0, _, _, _, _, _ => none
 | k + 1, x0, x4, x5, x6, x40 => if x40 = true then (some (0, 0, 5)) else ((rf03_common.f k x5 x6).bind fun t413 => ((rf03_divide.f k x5 t413).bind fun bt414 => ((rf03_divide.f k x6 t413).bind fun bt416 => (if (bt414.1.size : Int) > 7 then (rf03_Parse.j3 k x0 x4 bt414.1 bt416.1 true) else (rf03_Parse.j3 k x0 x4 bt414.1 bt416.1 (decide ((bt416.1.size : Int) > 7)))))))
def rf03_Parse.j3 : Nat → ByteArray → ByteArray → ByteArray → ByteArray → Bool → Option (Int × Int × Int)
 | 0, _, _, _, _, _ => none
 | k + 1, x0, x4, x5, x6, x64 => if x64 = true then (some (0, 0, 4)) else ((rf03_number.f k x5).bind fun t418 => ((rf03_number.f k x6).bind fun t419 => ((rf03_Make.f k t418 t419).bind fun bt420 => (if (x4.size : Int) < (x0.size : Int) then ((rf03_Neg.f bt420.1 bt420.2.1).bind fun bt424 => (if bt420.2.2 = 0 then (some (bt424.1, bt424.2, 0)) else (some (0, 0, bt420.2.2)))) else (if bt420.2.2 = 0 then (some (bt420.1, bt420.2.1, 0)) else (some (0, 0, bt420.2.2)))))))
end
def rf03_Parse.f (k : Nat) (a0 : ByteArray) : Option (Int × Int × Int) := if (a0.size : Int) > 0 then (if 0 < (a0.size : Int) then (rf03_Parse.j0 k a0 a0 ((bt a0 0) == 45)) else (none)) else (rf03_Parse.j0 k a0 a0 false)
end Go.Proofs.YtelfiofnhchmbaaDoor.A
