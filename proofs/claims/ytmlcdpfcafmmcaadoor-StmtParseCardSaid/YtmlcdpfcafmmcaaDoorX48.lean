-- By pack.py, a program of this session's.
import Derived.Test.YtmlcdpfcafmmcaaDoorX45
import Derived.Test.YtmlcdpfcafmmcaaDoorX46
set_option linter.unusedVariables false
set_option linter.unusedSimpArgs false
namespace Go.Proofs.YtmlcdpfcafmmcaaDoor.A
open Go.RowKit B WW WL WM
theorem ref47_read_ev (cs:List S77) (p:PSt) (ws:List S93) (h0:0 < ws.length) (h4:ws.length≤400) (hw:WS ws) (hp:p.ls.length≤1000000) (hcl:cs.length≤60):EvP (fun k=>rf47_read.f k cs p ws) (moveS cs p ws):=by
  have s1:=wB_size hw 1;unfold rf47_read.f moveS;refine EvP.both (b:=shapedS ws kwS [1,1,2]) 0 (ref47_shaped_ev ws kwS [1,1,2] h0 h4 (by decide) (by decide)) (fun _ e=>ref47_head_ev cs p ws (by have:=shapedS_len e;have:([1,1,2]:List Int).length=3:=rfl;omega) hw hcl) ?_;refine EvP.both (b:=shapedS ws kwO [2]) 1 (ref47_shaped_ev ws kwO [2] h0 h4 (by decide) (by decide)) (fun _ e=>EvP.of (Ev.yes (by have:=shapedS_len e;have:([2]:List Int).length=1:=rfl;omega) (Ev.bind (ref07_Parse (wB ws 1) p.dg (by omega)) (Ev.is rfl)))) ?_;refine EvP.both (b:=shapedS ws kwL [2,2,3,3]) 2 (ref47_shaped_ev ws kwL [2,2,3,3] h0 h4 (by decide) (by decide)) (fun _ e=>ref47_body_ev p ws (by have:=shapedS_len e;have:([2,2,3,3]:List Int).length=4:=rfl;omega) hw hp) ?_;exact EvP.both (b:=shapedS ws kwC [2]) 2 (ref47_shaped_ev ws kwC [2] h0 h4 (by decide) (by decide)) (fun _ e=>EvP.of (Ev.yes (by have:=shapedS_len e;have:([2]:List Int).length=1:=rfl;omega) (Ev.bind (ref07_Parse (wB ws 1) p.dg (by omega)) (Ev.is rfl)))) (EvP.of (Ev.is rfl))
end Go.Proofs.YtmlcdpfcafmmcaaDoor.A
