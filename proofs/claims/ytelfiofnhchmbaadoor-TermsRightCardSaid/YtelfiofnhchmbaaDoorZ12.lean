-- By pack.py, a program of this session's: declarations of this seat's texts, put together for a claim.
import Derived.Defers
import Derived.IntWalk
import Derived.Laws.Cover1
import Derived.Laws.IdiomStrings
import Derived.Laws.Pointers
import Derived.Laws.StructEq
import Derived.Lib.LaidTab
import Derived.LoopN
import Derived.Recover
import Derived.Test.YtelfiofnhchmbaaDoorProg
import Derived.WalkLawsBesides
import Derived.WalkMore
import Derived.Test.YtelfiofnhchmbaaDoorZ0
namespace Go.Proofs.YtelfiofnhchmbaaDoor.A
open Go.RowKit Go.Proofs.YtelfiofnhchmbaaDoor.B Go.Proofs.YtelfiofnhchmbaaDoorW.PrintWords Go.Proofs.YtelfiofnhchmbaaDoorW.PrintLast Go.Proofs.YtelfiofnhchmbaaDoorW.PrintMore
theorem zq38 {P : Prop} (h : P := by (try simp only [List.map_toArray, List.map_cons, List.map_nil]); first | done | rfl | (simp only [List.length_drop, List.length_take]; rfl)) : P := h
end Go.Proofs.YtelfiofnhchmbaaDoor.A
