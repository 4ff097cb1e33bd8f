-- By pack.py, a program of this session's.
import Derived.Test.YtkbgkekegjfkfaaGreatDoorZ33
set_option linter.unusedVariables false
set_option linter.unusedSimpArgs false
namespace Go.Proofs.YtkbgkekegjfkfaaGreatDoor
namespace A
open Go.RowKit B WW WL WM
theorem parse_agree (l:List UInt8):∃ v:RRes,Ev (fun k=>rules_Parse.f k (oL l)) v∧Ev (fun k=>rf48_Parse.f k (oL l)) v∧v.2.1.length≤1000∧v.2.2.2.2.1.length≤1000:=by
  obtain ⟨hS,hL⟩:=cutW_size l;by_cases h:(cutW l).2.2=0
  · obtain ⟨r,v,h1,h2,h3,h4,h5⟩:=rule_agree (oL l) (cutW l).1 hL (fun x hx=>by have:=hS x hx;omega)
    exact ⟨v,Ev.congr (fun k=>rules_Parse_eq k _) (Ev.bind (words_Cut_ev l) (Ev.yes h h3)),Ev.congr (fun k=>r48_Parse_eq k _) (Ev.bind (ref06_Cut_ev l) (Ev.yes h (Ev.bind h1 h2))),h4,h5⟩
  · exact ⟨noR (cutW l).2.1 (cutW l).2.2,Ev.congr (fun k=>rules_Parse_eq k _) (Ev.bind (words_Cut_ev l) (Ev.no h (Ev.is rfl))),Ev.congr (fun k=>r48_Parse_eq k _) (Ev.bind (ref06_Cut_ev l) (Ev.no h (Ev.is rfl))),Nat.zero_le _,Nat.zero_le _⟩
end A

end Go.Proofs.YtkbgkekegjfkfaaGreatDoor