/- The notation of a fraction, as the program and the reference write it. -/
import Derived.Test.YtoenhagbgfkihaaAx2
import Derived.Test.YtoenhagbgfkihaaAx4
import Derived.Test.YtoenhagbgfkihaaAx17
import Derived.Test.YtoenhagbgfkihaaL2
namespace Go.Proofs.Ytoenhagbgfkihaa.A
open Go.RowKit Go.Proofs.Ytoenhagbgfkihaa.B Go.Proofs.YtoenhagbgfkihaaW.PrintWords Go.Proofs.YtoenhagbgfkihaaW.PrintLast Go.Proofs.YtoenhagbgfkihaaW.PrintMore
set_option linter.unusedVariables false
set_option linter.unusedSimpArgs false
def fracTextL (n d : Int) : List UInt8 := if d = 1 then Lib.itoa n else Lib.itoa n ++ 47 :: Lib.itoa d
def fracTextS (n d : Int) : ByteArray × Int := if rightS n d = true then (⟨(fracTextL n d).toArray⟩, 0) else (⟨#[]⟩, 2)
theorem frac_Text_ev (n d : Int) (hn : I64 n) (hd : I64 d) : Ev (fun k => frac_Text.f k n d) (fracTextS n d) := by
  unfold frac_Text.f fracTextS fracTextL
  refine Ev.bind (frac_Right_ev n d hn hd) (Ev.both (fun h => ?_) (fun h => Ev.is (by rw [if_neg h])))
  rw [if_pos h, num_Text_at n hn]
  simp only [Option.bind_some]
  refine Ev.both (fun h1 => Ev.is (by rw [if_pos h1])) (fun h1 => ?_)
  rw [if_neg h1, num_Text_at d hd]
  simp only [Option.bind_some]
  have s1 := itoa_size n hn
  have s2 := itoa_size d hd
  have z : ((⟨#[47]⟩ : ByteArray) ++ (⟨(Lib.itoa d).toArray⟩ : ByteArray)).size = 1 + (⟨(Lib.itoa d).toArray⟩ : ByteArray).size := by rw [ByteArray.size_append]; rfl
  refine Ev.yes (by omega) (Ev.yes (by rw [z]; omega) (Ev.is ?_))
  congr 1
theorem ref03_Text_ev (n d : Int) (hn : I64 n) (hd : I64 d) : Ev (fun k => accountingref03_Text.f k n d) (fracTextS n d) := by
  unfold accountingref03_Text.f fracTextS fracTextL
  refine Ev.bind (ref03_Right_ev n d hn hd) (Ev.both (fun h => ?_) (fun h => Ev.is (by rw [if_neg h])))
  rw [if_pos h]
  refine Ev.both (fun h1 => ?_) (fun h1 => ?_)
  · rw [if_pos h1]
    exact Ev.bind (ref01_Text n hn) (Ev.is rfl)
  rw [if_neg h1]
  refine Ev.bind (ref01_Text n hn) ?_
  have s1 := itoa_size n hn
  have s2 := itoa_size d hd
  have z : ((⟨(Lib.itoa n).toArray⟩ : ByteArray) ++ (⟨#[47]⟩ : ByteArray)).size = (⟨(Lib.itoa n).toArray⟩ : ByteArray).size + 1 := by rw [ByteArray.size_append]; rfl
  refine Ev.yes (by omega) (Ev.bind (ref01_Text d hd) (Ev.yes (by rw [z]; omega) (Ev.is ?_)))
  congr 1
  apply ba_ext
  rw [ba_append, ba_append]
  show (Lib.itoa n ++ [47]) ++ Lib.itoa d = _
  rw [List.append_assoc]; rfl
end Go.Proofs.Ytoenhagbgfkihaa.A
