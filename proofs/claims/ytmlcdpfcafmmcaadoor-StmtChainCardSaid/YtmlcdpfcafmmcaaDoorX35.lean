-- By pack.py, a program of this session's.
import Derived.Test.YtmlcdpfcafmmcaaDoorX25
set_option linter.unusedVariables false
set_option linter.unusedSimpArgs false
namespace Go.Proofs.YtmlcdpfcafmmcaaDoor.A
open Go.RowKit B WW WL WM
theorem Cuts.word {w R t:List UInt8} {k:Nat} {ps:List (Nat×List UInt8)} (hw:IsW w k t) (hR:Brk R) (h:Cuts R ps):Cuts (w++R) ((k,t) :: ps):=fun f i hf=>by
  obtain ⟨hn,hc,hi⟩:=hw;obtain ⟨z,hz⟩:=hi R i hR
  cases w with
  | nil=>exact absurd rfl hn
  | cons c w =>
    have hx:=hc c w rfl
    cases f with
    | zero=>simp at hf
    | succ f =>
      have hf':R.length≤f:=by rw [List.length_append,List.length_cons] at hf;omega
      obtain ⟨ws,j,h1,h2⟩:=h f (i+(c :: w).length) hf';have hz':wordS (c :: (w++R)) i=(k,t,i+(c :: w).length,z,0):=hz;refine ⟨wdOf (wordS (c :: (w++R)) i) i :: ws,j,?_,?_⟩
      · show cutR (f+1) (c :: (w++R)) i=_
        rw [cutR,if_neg hx.1,if_neg hx.2,hz',if_pos rfl];show pre (wdOf (k,t,i+(c :: w).length,z,0) i) (cutR f ((c :: (w++R)).drop (i+(c :: w).length - i)) (i+(c :: w).length))=_
        rw [show i+(c :: w).length - i=(c :: w).length from by omega,show (c :: (w++R)).drop (c :: w).length=R from List.drop_left (l₁:=c :: w) (l₂:=R),h1];rfl
      · rw [List.map_cons,h2,hz',List.map_cons];rfl
theorem Cuts.last {w t:List UInt8} {k:Nat} (hw:IsW w k t):Cuts w [(k,t)]:=by
  have:=Cuts.word hw Brk.nil Cuts.nil;rwa [List.append_nil] at this
end Go.Proofs.YtmlcdpfcafmmcaaDoor.A
