-- By pack.py, a program of this session's.
import Derived.Test.YtkbgkekegjfkfaaGreatDoorX21
import Derived.Test.YtkbgkekegjfkfaaGreatDoorX22
set_option linter.unusedVariables false
set_option linter.unusedSimpArgs false
namespace Go.Proofs.YtkbgkekegjfkfaaGreatDoor.A
open Go.RowKit B WW WL WM
attribute [local go_sem] max2_int min2_int max_two min_two max_three min_three max_four min_four
set_option maxHeartbeats 8000000
set_option maxRecDepth 100000
theorem lw48_lives.calls (r:Bool) (w:World) (h:lw48_lives.f=some r) (hG:Gl w) :
  Calls Tryz.prog 11 #[] w fun e w'=>e=.returned (.bool r)∧Below w.heap.size w w':=by
 obtain rfl:=Option.some.inj h
 exact lives_walk w hG ⟨fun W=>lw48_example.calls ⟨#[114,101,110,116]⟩ livesC ⟨#[53,49]⟩ ⟨#[112]⟩ livesG W rfl⟩
  ⟨fun W A c A4 c4 hC hl hT ht hG=>rules_Text.calls 400 ⟨#[114,101,110,116]⟩ A c livesC ⟨#[53,49]⟩ ⟨#[112]⟩ A4 c4 livesG livesX 0 W hC hl hT ht (by kernel_rfl) hG⟩
  ⟨fun W hG=>rules_Parse.calls 400 livesX ⟨#[114,101,110,116]⟩ livesC ⟨#[53,49]⟩ ⟨#[112]⟩ livesG 0 0 W (by kernel_rfl) hG⟩
  ⟨fun W hG=>rules_Parse.calls 400 livesY ⟨#[]⟩ [] ⟨#[]⟩ ⟨#[]⟩ [] 20 27 W (by kernel_rfl) hG⟩
  ⟨fun W A c A4 c4 B d B4 d4 hC hl hT ht hC' hl' hT' ht'=>rf48_Same.calls 400 ⟨#[114,101,110,116]⟩ A c livesC ⟨#[53,49]⟩ ⟨#[112]⟩ A4 c4 livesG ⟨#[114,101,110,116]⟩ B d livesC ⟨#[53,49]⟩ ⟨#[112]⟩ B4 d4 livesG true W hC hl hT ht hC' hl' hT' ht' (by kernel_rfl)⟩
  ⟨fun W A c A4 c4 hC hl hT ht hG=>rules_Holds.calls 400 ⟨#[114,101,110,116]⟩ A c livesC ⟨#[53,49]⟩ ⟨#[112]⟩ A4 c4 livesG 9 (-120) ⟨#[]⟩ ⟨#[116,104,101,32,114,101,110,116]⟩ true W hC hl hT ht (by kernel_rfl) hG⟩
  ⟨fun W A hC hG=>rules_First.calls 400 A 2 [z25,livesR] 9 (-120) ⟨#[]⟩ ⟨#[116,104,101,32,114,101,110,116]⟩ 1 W hC (Nat.le_refl _) (by kernel_rfl) hG⟩
end Go.Proofs.YtkbgkekegjfkfaaGreatDoor.A
