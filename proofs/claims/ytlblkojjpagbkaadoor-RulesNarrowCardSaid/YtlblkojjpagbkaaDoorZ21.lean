-- By pack.py, a program of this session's.
import Derived.Test.YtlblkojjpagbkaaDoorZ18
import Derived.Test.YtlblkojjpagbkaaDoorZ19
set_option linter.unusedVariables false
set_option linter.unusedSimpArgs false
namespace Go.Proofs.YtlblkojjpagbkaaDoor
namespace B
open Go.Deep Go.ChangeShapes Go.WideShapes Go.ChangeAt Go.Joins WW
theorem OpensF.one {α:Type} {P:Program} {f:Field} {o:Nat} {d:Kd α} {G:α→Prop} (h:Opens P f.type d G) (ho:f.offset=o):OpensF P [f] o d G where
  get _ hf:=by
    obtain ⟨y,hy,hw⟩:=hf f (List.mem_singleton.mpr rfl);rw [ho,h.size] at hy;exact h.get hy hw
theorem OpensF.cons {α β:Type} {P:Program} {f:Field} {fs:List Field} {o o':Nat} {d:Kd α} {e:Kd β} {G:α→Prop} {G':β→Prop} (h:Opens P f.type d G) (ho:f.offset=o) (h':OpensF P fs o' e G') (ho':o'=o+d.sz) :
    OpensF P (f :: fs) o (Kd.pair d e) (fun x=>G x.1∧G' x.2) where
  get:=by
    intro H enc W base spare held n cs hl hf;have hsz:(Kd.pair d e).sz=d.sz+e.sz:=rfl;rw [hsz] at hl ⊢;obtain ⟨y,hy,hw⟩:=hf f (List.mem_cons_self ..);rw [ho,h.size] at hy;obtain ⟨a,ha,hg⟩:=h.get hy hw;obtain ⟨b,hb,hg'⟩:=h'.get (by omega) (fun f' hf'=>hf f' (List.mem_cons_of_mem _ hf'));refine ⟨(a,b),⟨_,_,?_,ha,hb⟩,hg,hg'⟩;rw [ho',← List.drop_drop,List.take_add]
theorem Opens.struct {α:Type} {P:Program} {t:TypeId} {fs:Array Field} {d:Kd α} {G:α→Prop} (ht:P.underlying t=some (.struct fs)) (hc:P.cellsOf t=d.sz) (h:OpensF P fs.toList 0 d G):Opens P t d G where
  size:=hc
  get:=by
    intro H enc W base spare held n cs y hh hw;obtain ⟨xs,n,_,rfl,hl,hlen,hf⟩:=DataW.trod_struct ht hh;rw [hc] at hl
    have hw':∀ x∈DataW.weightsEach P (fs.toList.map (·.type)) (xs.map (·.1)),x≤reachBytes:=by
      intro x hx;refine hw x ?_;show x∈DataW.weights P t (.agg (xs.map (·.1)))
      rw [DataW.weights,ht];exact hx
    obtain ⟨a,ha,hg⟩:=h.get (cs:=cs) (by omega) (fun f hm=>by
      obtain ⟨i,hi,rfl⟩:=List.getElem_of_mem hm;have hi':i < fs.size:=by simpa using hi
      have:=hf i fs[i] (Array.getElem?_eq_getElem hi');rw [Array.getElem_toList];have hx9:xs[i]?=some xs[i]:=List.getElem?_eq_getElem (by omega);refine ⟨_,this.trans hx9,fun x hx=>hw' x (DataW.weights_mem_each (j:=i) (t:=fs[i].type) (d:=xs[i].1) ?_ ?_ x hx)⟩
      · rw [List.getElem?_map,List.getElem?_eq_getElem hi,Array.getElem_toList];rfl
      · rw [List.getElem?_map,hx9];rfl)
    rw [List.drop_zero,← hl,List.take_length] at ha;exact ⟨a,ha,hg⟩
theorem Opens.agg {α:Type} {P:Program} {t:TypeId} {fs:Array Field} {d:Kd α} {G:α→Prop} (h:Opens P t d G) (ht:P.underlying t=some (.struct fs)) {H:Type} {enc:TypeId×Value→H} {W:World} {base b0:Nat} {spare:Nat→Bool} {held:Bool} {r:Reach} {v:Value} {y:DataW H} {p:List MemPlace}
    (hv:Value.okWide P W r b0 t v) (hh:DataW.Trod enc P W base spare held t v y p) (hw:∀ x∈y.weights P t,x≤reachBytes):∃ (cs:Array Value) (a:α),v=.agg cs∧d.K W a cs.toList∧G a:=by
  obtain ⟨cs,rfl,_⟩:=okWide_struct ht hv;obtain ⟨n,hn⟩:=hh;obtain ⟨a,ha,hg⟩:=h.get hn hw;exact ⟨cs,a,rfl,ha,hg⟩
end B
namespace A
open Go.ChangeShapes Go.WideShapes Go.ChangeAt Go.Joins Go.RowKit B WW
set_option maxRecDepth 100000 in
theorem opens_cond:Opens Tryd.prog 27 k27 (fun x=>(Lit.int .i64 x.f0).wf=true∧(Lit.int .i64 x.f1).wf=true∧x.f2.size≤140737488351232∧(Lit.int .i64 x.f3).wf=true) :=
  Opens.iso (Opens.struct (fs := #[⟨"Field", 3, 0, false, "", "", 0⟩, ⟨"Op", 3, 1, false, "", "", 8⟩, ⟨"S", 9, 2, false, "", "", 16⟩, ⟨"N", 3, 3, false, "", "", 32⟩]) (by kernel_rfl) (by kernel_rfl)
    (OpensF.cons (Opens.int Tryd.underlying3 (by kernel_rfl)) rfl (OpensF.cons (Opens.int Tryd.underlying3 (by kernel_rfl)) rfl (OpensF.cons (Opens.string Tryd.underlying9 (by kernel_rfl)) rfl (OpensF.one (Opens.int Tryd.underlying3 (by kernel_rfl)) rfl) rfl) rfl) rfl))
    (fun x:S27=>(x.f0,x.f1,x.f2,x.f3)) (fun p=>⟨p.1,p.2.1,p.2.2.1,p.2.2.2⟩) (fun _=>rfl) (fun _ h=>h)
set_option maxRecDepth 100000 in
theorem opens_tag:Opens Tryd.prog 35 k35 (fun x=>x.f0.size≤140737488351232∧x.f1.size≤140737488351232) :=
  Opens.iso (Opens.struct (fs := #[⟨"Name", 9, 0, false, "", "", 0⟩, ⟨"Value", 9, 1, false, "", "", 16⟩]) (by kernel_rfl) (by kernel_rfl)
    (OpensF.cons (Opens.string Tryd.underlying9 (by kernel_rfl)) rfl (OpensF.one (Opens.string Tryd.underlying9 (by kernel_rfl)) rfl) rfl))
    (fun x:S35=>(x.f0,x.f1)) (fun p=>⟨p.1,p.2⟩) (fun _=>rfl) (fun _ h=>h)
abbrev KRule:=Kd.pair Kd.string (Kd.pair (Kd.slice 27 k27) (Kd.pair Kd.string (Kd.pair Kd.string (Kd.slice 35 k35))))
set_option maxRecDepth 100000 in
theorem opens_rule:Opens Tryd.prog 25 KRule GRule :=
  Opens.struct (fs := #[⟨"Name", 9, 0, false, "", "", 0⟩, ⟨"Conds", 22, 1, false, "", "", 16⟩, ⟨"Account", 9, 2, false, "", "", 40⟩, ⟨"Party", 9, 3, false, "", "", 56⟩, ⟨"Tags", 23, 4, false, "", "", 72⟩]) (by kernel_rfl) (by kernel_rfl)
    (OpensF.cons (Opens.string Tryd.underlying9 (by kernel_rfl)) rfl (OpensF.cons (Opens.slice (by kernel_rfl) (by kernel_rfl) opens_cond) rfl (OpensF.cons (Opens.string Tryd.underlying9 (by kernel_rfl)) rfl (OpensF.cons (Opens.string Tryd.underlying9 (by kernel_rfl)) rfl (OpensF.one (Opens.slice (by kernel_rfl) (by kernel_rfl) opens_tag) rfl) rfl) rfl) rfl) rfl)
set_option maxRecDepth 100000 in
theorem open_rule {H:Type} {enc:TypeId×Value→H} {W:World} {base b0:Nat} {spare:Nat→Bool} {held:Bool} {r:Reach} {v:Value} {y:DataW H} {p:List MemPlace}
    (hv:Value.okWide Tryd.prog W r b0 25 v) (hh:DataW.Trod enc Tryd.prog W base spare held 25 v y p) (hw:∀ x∈y.weights Tryd.prog 25,x≤reachBytes) :
    ∃ (nm acc par:ByteArray) (A1:Option Addr) (c1:Nat) (cs:List S27) (A4:Option Addr) (c4:Nat) (tg:List S35),v=.agg #[.string nm,.slice A1 cs.length c1,.string acc,.string par,.slice A4 tg.length c4]∧(cs.length≤c1∧Kd.C k27 W A1 cs.length cs∧tg.length≤c4∧Kd.C k35 W A4 tg.length tg) ∧
      ((nm.size≤140737488351232∧acc.size≤140737488351232∧par.size≤140737488351232)∧(∀ x∈cs,x.f2.size≤140737488351232)∧∀ x∈tg,x.f0.size≤140737488351232∧x.f1.size≤140737488351232)∧∀ x∈cs,I64 x.f0∧I64 x.f1∧I64 x.f3:=by
  obtain ⟨cv,⟨nm,cs,acc,par,tg⟩,rfl,⟨_,_,hcs,rfl,_,_,rfl,⟨A1,c1,rfl,h1,h2⟩,_,_,rfl,rfl,_,_,rfl,rfl,A4,c4,rfl,h3,h4⟩,g1,⟨g2,_,_⟩,g3,g4,g5,_,_⟩:=opens_rule.agg Tryd.underlying25 hv hh hw;obtain ⟨l⟩:=cv;obtain rfl:l=_:=hcs;exact ⟨nm,acc,par,A1,c1,cs,A4,c4,tg,rfl,⟨h1,h2,h3,h4⟩,⟨⟨g1,g3,g4⟩,fun x hx=>(g2 x hx).2.2.1,g5⟩,fun x hx=>⟨bounds_i64 (g2 x hx).1,bounds_i64 (g2 x hx).2.1,bounds_i64 (g2 x hx).2.2.2⟩⟩
set_option maxRecDepth 100000 in
theorem opens_line:Opens Tryd.prog 29 KLine (fun x=>(Lit.int .i64 x.1).wf=true∧(Lit.int .i64 x.2.1).wf=true∧x.2.2.1.size≤140737488351232∧x.2.2.2.size≤140737488351232) :=
  Opens.struct (fs := #[⟨"Day", 3, 0, false, "", "", 0⟩, ⟨"Amount", 3, 1, false, "", "", 8⟩, ⟨"Ref", 9, 2, false, "", "", 16⟩, ⟨"Text", 9, 3, false, "", "", 32⟩]) (by kernel_rfl) (by kernel_rfl)
    (OpensF.cons (Opens.int Tryd.underlying3 (by kernel_rfl)) rfl (OpensF.cons (Opens.int Tryd.underlying3 (by kernel_rfl)) rfl (OpensF.cons (Opens.string Tryd.underlying9 (by kernel_rfl)) rfl (OpensF.one (Opens.string Tryd.underlying9 (by kernel_rfl)) rfl) rfl) rfl) rfl)
set_option maxRecDepth 100000 in
theorem open_line {H:Type} {enc:TypeId×Value→H} {W:World} {base b0:Nat} {spare:Nat→Bool} {held:Bool} {r:Reach} {v:Value} {y:DataW H} {p:List MemPlace}
    (hv:Value.okWide Tryd.prog W r b0 29 v) (hh:DataW.Trod enc Tryd.prog W base spare held 29 v y p) (hw:∀ x∈y.weights Tryd.prog 29,x≤reachBytes) :
    ∃ (d a:Int) (rf tx:ByteArray),v=.agg #[.int .i64 d,.int .i64 a,.string rf,.string tx]∧(I64 d∧I64 a)∧rf.size≤140737488351232∧tx.size≤140737488351232:=by
  obtain ⟨cv,⟨d,a,rf,tx⟩,rfl,⟨_,_,hcs,rfl,_,_,rfl,rfl,_,_,rfl,rfl,rfl⟩,g1,g2,g3,g4⟩:=opens_line.agg Tryd.underlying29 hv hh hw;obtain ⟨l⟩:=cv;obtain rfl:l=_:=hcs;exact ⟨d,a,rf,tx,rfl,⟨bounds_i64 g1,bounds_i64 g2⟩,g3,g4⟩
set_option maxRecDepth 100000 in
theorem opens_condF:Opens Tryd.prog 27 (Kd.pair (Kd.int .i64) (Kd.pair (Kd.int .i64) (Kd.pair Kd.string (Kd.int .i64)))) (fun x=>(Lit.int .i64 x.1).wf=true∧(Lit.int .i64 x.2.1).wf=true∧x.2.2.1.size≤140737488351232∧(Lit.int .i64 x.2.2.2).wf=true) :=
  Opens.struct (fs := #[⟨"Field", 3, 0, false, "", "", 0⟩, ⟨"Op", 3, 1, false, "", "", 8⟩, ⟨"S", 9, 2, false, "", "", 16⟩, ⟨"N", 3, 3, false, "", "", 32⟩]) (by kernel_rfl) (by kernel_rfl)
    (OpensF.cons (Opens.int Tryd.underlying3 (by kernel_rfl)) rfl (OpensF.cons (Opens.int Tryd.underlying3 (by kernel_rfl)) rfl (OpensF.cons (Opens.string Tryd.underlying9 (by kernel_rfl)) rfl (OpensF.one (Opens.int Tryd.underlying3 (by kernel_rfl)) rfl) rfl) rfl) rfl)
set_option maxRecDepth 100000 in
theorem open_cond {H:Type} {enc:TypeId×Value→H} {W:World} {base b0:Nat} {spare:Nat→Bool} {held:Bool} {r:Reach} {v:Value} {y:DataW H} {p:List MemPlace}
    (hv:Value.okWide Tryd.prog W r b0 27 v) (hh:DataW.Trod enc Tryd.prog W base spare held 27 v y p) (hw:∀ x∈y.weights Tryd.prog 27,x≤reachBytes) :
    ∃ (f o:Int) (s:ByteArray) (n:Int),v=.agg #[.int .i64 f,.int .i64 o,.string s,.int .i64 n]∧(I64 f∧I64 o∧I64 n)∧s.size≤140737488351232:=by
  obtain ⟨cv,⟨f,o,s,n⟩,rfl,⟨_,_,hcs,rfl,_,_,rfl,rfl,_,_,rfl,rfl,rfl⟩,g1,g2,g3,g4⟩:=opens_condF.agg Tryd.underlying27 hv hh hw;obtain ⟨l⟩:=cv;obtain rfl:l=_:=hcs;exact ⟨f,o,s,n,rfl,⟨bounds_i64 g1,bounds_i64 g2,bounds_i64 g4⟩,g3⟩
end A
namespace A
open Go.RowKit B WW WL WM
theorem large_l0 (nm:ByteArray) (cs:List S27) (acc par:ByteArray) (tg:List S35) (hs:∀ x∈tg,x.f0.size≤140737488351232∧x.f1.size≤140737488351232) (hl:tg.length≤1000) (hc:cs.length≤1000) (R:List S27):∀ i:Nat,cs.drop i=R→Ev (fun k=>lw48_large.l0 k (i:Int) nm cs acc par tg) (if bigC R=true then true else bigT tg):=by
  induction R with
 |nil =>
    intro i h;have:=List.drop_eq_nil_iff.mp h;refine Ev.step (fun k=>by rw [lw48_large.l0]) (Ev.no (by omega) ?_);rw [bigC,if_neg (by decide)];exact large_l1 nm cs acc par tg hs hl tg 0 rfl
 |cons x r ih =>
    intro i h;obtain ⟨hi,hx,hr⟩:=rd48_at h;refine Ev.step (fun k=>by rw [lw48_large.l0]) (Ev.yes (by omega) (Ev.yes (by omega) ?_));rw [hx,w_next i (by omega),bigC];exact Ev.both (fun e=>Ev.is (by rw [if_pos e,if_pos rfl])) (fun e=>by rw [if_neg e];exact ih (i+1) hr)
theorem large_ev (nm:ByteArray) (cs:List S27) (acc par:ByteArray) (tg:List S35) (h:FitR nm cs acc par tg):Ev (fun k=>lw48_large.f k nm cs acc par tg) (largeS nm cs acc par tg):=by
  obtain ⟨⟨h1,h2,h3⟩,h4,h5⟩:=h
  have j:∀ b:Bool,(b=true ↔ (20 < cs.length∨20 < tg.length∨400 < nm.size+acc.size+par.size))→Ev (fun k=>lw48_large.j0 k b nm cs acc par tg) (largeS nm cs acc par tg):=fun b hb=>by
    refine Ev.step (fun k=>by rw [lw48_large.j0]) ?_;unfold largeS;refine Ev.both (fun e=>Ev.is (by rw [if_pos (hb.mp e)])) (fun e=>?_);have e':¬ (20 < cs.length∨20 < tg.length∨400 < nm.size+acc.size+par.size):=fun x=>e (hb.mpr x)
    rw [if_neg e'];exact large_l0 nm cs acc par tg h5 (by omega) (by omega) cs 0 rfl
  unfold lw48_large.f;refine Ev.both (fun a=>j _ ⟨fun _=>by omega,fun _=>rfl⟩) (fun a=>Ev.both (fun b=>j _ ⟨fun _=>by omega,fun _=>rfl⟩) (fun b=>j _ ?_));rw [decide_eq_true_iff,w_in (x:=(nm.size:Int)+(acc.size:Int)) (by omega),w_in (by omega)];omega
end A

end Go.Proofs.YtlblkojjpagbkaaDoor