-- By gen.py, a program of this session's, over the print's forms: not the print's own text.
import Derived.Test.YthmpapnhomngnaaDoorProg
import Derived.Laws.Cover1
import Derived.Below
import Derived.Deep.Draws
import Derived.Deep.AppendLies
import Derived.Maps.AppendAt
import Derived.OwnWalk
import Derived.Laws.BytesArg
import Derived.Laws.MakeOwn
import Derived.Laws.OwnMore
import Derived.Deep.OwnRows
import Derived.Tactics
import Derived.Lib.ConvBytes
import Derived.Laws.Slices
import Derived.WalkKit
import Derived.KernelRfl
import Derived.RowKit3
import Derived.Deep.LoopGhost
import Derived.Deep.QuietTactic
import Derived.BigQuiet
import Derived.WideLaws
import Derived.Deep.DeepCutAuto
import Derived.Deep.CutBlock
import Derived.Deep.RegionHeld3
import Derived.Laws.Rows
import Derived.Lib.AppendStr
import Derived.ArgAppend
import Derived.Laws.IdiomCopy
import Derived.OrdersHeld
import Derived.Laws.BitsLemmas
import Derived.RowKit
import Derived.Test.YthmpapnhomngnaaDoorB0
import Derived.Test.YthmpapnhomngnaaDoorB1
import Derived.Test.YthmpapnhomngnaaDoorB2
import Derived.Test.YthmpapnhomngnaaDoorWWords
import Derived.Test.YthmpapnhomngnaaDoorWLast
import Derived.Test.YthmpapnhomngnaaDoorWTab
import Derived.Test.YthmpapnhomngnaaDoorWFour
import Derived.Test.YthmpapnhomngnaaDoorWQPut
import Derived.Test.YthmpapnhomngnaaDoorWApart
import Derived.Test.YthmpapnhomngnaaDoorWArr
import Derived.Test.YthmpapnhomngnaaDoorWZeros
import Derived.Test.YthmpapnhomngnaaDoorWFoot
import Derived.Test.YthmpapnhomngnaaDoorWKept
import Derived.Test.YthmpapnhomngnaaDoorWShare
import Derived.Test.YthmpapnhomngnaaDoorWN
import Derived.Test.YthmpapnhomngnaaDoorWFootNe
import Derived.Test.YthmpapnhomngnaaDoorWAt
import Derived.Test.YthmpapnhomngnaaDoorWEqStruct
import Derived.Test.YthmpapnhomngnaaDoorWRepsOne
import Derived.Test.YthmpapnhomngnaaDoorWInv
import Derived.Test.YthmpapnhomngnaaDoorWInvWords
import Derived.Test.YthmpapnhomngnaaDoorWGuard
import Derived.Test.YthmpapnhomngnaaDoorWNEv
import Derived.Test.YthmpapnhomngnaaDoorWMore
namespace Go.Proofs.YthmpapnhomngnaaDoor.A
open Go.RowKit Go.Proofs.YthmpapnhomngnaaDoor.B Go.Proofs.YthmpapnhomngnaaDoorW.PrintWords Go.Proofs.YthmpapnhomngnaaDoorW.PrintLast Go.Proofs.YthmpapnhomngnaaDoorW.PrintMore
theorem zq1 {P : Prop} (h : P := by first | rfl | (simp; done) | (simp [*]; done) | (simp; generalize ByteArray.toList _ = l_; cases l_ <;> rfl)) : P := h
theorem zq2 {P : Prop} (h : P := by repeat (first | exact Drawn0.refl _ | apply Drawn0.step)) : P := h
theorem zq3 {P : Prop} (h : P := by (try simp only [List.map_toArray, List.map_cons, List.map_nil]); first | done | rfl | (simp only [List.length_drop, List.length_take]; rfl)) : P := h
theorem zq4 {P : Prop} (h : P := by have := HJ4.out; first | omega | exact Nat.le_refl _) : P := h
theorem zq5 {P : Prop} (h : P := by have := HJ2.out; first | omega | exact Nat.le_refl _) : P := h
theorem zq6 {P : Prop} (h : P := by first | (with_reducible assumption) | assumption) : P := h
theorem zq7 {P : Prop} (h : P := by first | rfl | (simp; done) | (simp only [← hji16] <;> (first | rfl | simp)) | (simp [*]; done)) : P := h
theorem zq8 {P : Prop} (h : P := by have := HJ3.out; have := HJ7.out; first | omega | exact Nat.le_refl _) : P := h
theorem zq9 {P : Prop} (h : P := by have := HJ2.out; have := HJ5.out; have := HJ9.out; have := HJ12.out; first | omega | exact Nat.le_refl _) : P := h
theorem zq10 {P : Prop} (h : P := by first | rfl | (simp [errW_none, errW_some] <;> rfl) | (simp [*, errW_none, errW_some] <;> rfl)) : P := h
theorem zq11 {P : Prop} (h : P := by repeat (first | (with_reducible first | exact HB.out | apply below_alloc | apply pw_below_drewN | apply below_drew1) | exact HB.out)) : P := h
theorem zq12 {P : Prop} (h : P := by repeat (first | (with_reducible first | exact HB.out | exact Below.refl _ _ | apply below_alloc | apply pw_below_drewN | apply below_drew1) | exact HB.out)) : P := h
theorem zq13 {P : Prop} (h : P := by first | exact below_drew1 (Below.refl _ _) | exact pw_below_drewN (Below.refl _ _) _) : P := h
theorem zq14 {P : Prop} (h : P := by (repeat (first | exact HB0.out _ _ | apply pw_below_drewN))) : P := h
theorem zq15 {P : Prop} (h : P := by have := HJ1.out; have := HJ5.out; first | omega | exact Nat.le_refl _) : P := h
theorem zq16 {P : Prop} (h : P := by rw [HR.out, if_pos (by omega)]; (try rfl)) : P := h
theorem zq17 {P : Prop} (h : P := by have := HJ4.out; have := HJ8.out; first | omega | exact Nat.le_refl _) : P := h
theorem zq18 {P : Prop} (h : P := by rw [hg]; exact (below_size (by repeat (first | (with_reducible first | exact HB.out | apply below_alloc | apply pw_below_drewN | apply below_drew1) | exact HB.out)))) : P := h
theorem zq19 {P : Prop} (h : P := by (with_reducible repeat (first | refine blk_drewN ?_ _ | refine blk_drew ?_ | refine blk_alloc ?_ _)); refine blk_put (cs := #[.string ((rd_T56 l0 x10_1).f0), .int .i64 0]) ?_ 1 _ rfl; (with_reducible repeat (first | refine blk_drewN ?_ _ | refine blk_drew ?_ | refine blk_alloc ?_ _)); refine blk_put (cs := #[.string (⟨#[]⟩ : ByteArray), .int .i64 0]) ?_ 0 _ rfl; (with_reducible repeat (first | refine blk_drewN ?_ _ | refine blk_drew ?_ | refine blk_alloc ?_ _)); exact BK187.out) : P := h
theorem zq20 {P : Prop} (h : P := by repeat (first | (with_reducible first | exact HB.out | apply below_alloc | apply pw_below_drewN | apply below_drew1 | refine below_set ?_ GE187.out) | exact HB.out)) : P := h
theorem zq21 {P : Prop} (h : P := by (with_reducible repeat (first | refine blk_drewN ?_ _ | refine blk_drew ?_ | refine blk_alloc ?_ _)); exact BK187.out) : P := h
end Go.Proofs.YthmpapnhomngnaaDoor.A
