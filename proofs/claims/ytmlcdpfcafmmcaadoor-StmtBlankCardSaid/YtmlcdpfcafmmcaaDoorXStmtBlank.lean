/- Proved: the Go function accountinglaw47.StmtBlank returns true at every input and leaves its arguments as_ they were; the package variables are tied to the program's text. This text: the plain law over the functions that the walks have shown. By an AI agent. -/
import Derived.Test.YtmlcdpfcafmmcaaDoorRows
import Derived.ProofKit
import Derived.ShutString
import Derived.ChangeOld
import Derived.LaidMore
import Derived.Stop.Joined
import Derived.SevenTiedAt
import Derived.Test.YtmlcdpfcafmmcaaDoorCards
import Derived.Test.YtmlcdpfcafmmcaaDoorTie
import Derived.Test.YtmlcdpfcafmmcaaDoorX33
import Derived.Test.YtmlcdpfcafmmcaaDoorX36
import Derived.Test.YtmlcdpfcafmmcaaDoorX61
namespace Go.Proofs.YtmlcdpfcafmmcaaDoor.Pure
open Go.RowKit A B WW WL WM
set_option linter.unusedVariables false
theorem goS_append (cs:List S77) (A B:List (List UInt8)):∀ (p:PSt) (i:Nat),goS cs p (A++B) i=if (goS cs p A i).2.1=0 then goS cs (goS cs p A i).1 B (i+A.length) else goS cs p A i:=by
  induction A with
  | nil=>intro p i;rw [goS,if_pos rfl];rfl
  | cons x r ih =>
    intro p i;show goS cs p (x :: (r++B)) i=_
    rw [goS,goS];by_cases e:(stepS cs p x).2=0
    · rw [if_pos e,if_pos e,ih,show i+(x :: r).length=i+1+r.length from by rw [List.length_cons];omega]
    · rw [if_neg e,if_neg e,if_neg e]
theorem goS_shift (cs:List S77) (A:List (List UInt8)) (m:Nat):∀ (p:PSt) (i:Nat),goS cs p A (i+m)=((goS cs p A i).1,(goS cs p A i).2.1,(goS cs p A i).2.2+m):=by
  induction A with
  | nil=>intro p i;rfl
  | cons x r ih =>
    intro p i;rw [goS,goS];by_cases e:(stepS cs p x).2=0
    · rw [if_pos e,if_pos e,show i+m+1=i+1+m from by omega,ih]
    · rw [if_neg e,if_neg e]
theorem goS_end (cs:List S77) (A:List (List UInt8)):∀ (p:PSt) (i:Nat),(goS cs p A i).2.1=0→(goS cs p A i).2.2=i+A.length:=by
  induction A with
  | nil=>intro p i h;rfl
  | cons x r ih =>
    intro p i h;rw [goS] at h ⊢;by_cases e:(stepS cs p x).2=0
    · rw [if_pos e] at h ⊢
      rw [ih _ _ h,List.length_cons];omega
    · rw [if_neg e] at h;exact absurd h e
def Bare (l:List UInt8):Prop:=cutW l=([],(l.length:Int),0)
theorem bare_step {cs:List S77} {p:PSt} {l:List UInt8} (h:Bare l):stepS cs p l=(p,0):=by
  unfold stepS;rw [show cutW l=([],(l.length:Int),0) from h,if_pos rfl];exact if_neg (Nat.lt_irrefl 0)
theorem bare_go (cs:List S77) (A:List (List UInt8)):(∀ l∈A,Bare l)→∀ (p:PSt) (i:Nat),goS cs p A i=(p,0,i+A.length):=by
  induction A with
  | nil=>intro h p i;rfl
  | cons x r ih =>
    intro h p i;rw [goS,bare_step (h x List.mem_cons_self),if_pos rfl,ih (fun y hy=>h y (List.mem_cons_of_mem _ hy)),List.length_cons];rw [show i+1+r.length=i+(r.length+1) from by omega]
def firstB:List UInt8:=[35,32,102,105,114,115,116]
def spaceB:List UInt8:=[32,32]
def lastB:List UInt8:=[35,32,108,97,115,116]
theorem bare_all:Bare firstB∧Bare spaceB∧Bare lastB∧Bare []:=⟨rfl,rfl,rfl,rfl⟩
theorem split_tail (t:List UInt8):∀ acc:List UInt8,∃ B,(B=[lastB]∨B=[[],lastB])∧splL (t++10 :: lastB) acc=splL t acc++B:=by
  induction t with
  | nil =>
    intro acc
    have e:splL ([]++10 :: lastB) acc=[acc,lastB]:=by
      show splL (10 :: lastB) acc=_
      rw [splL,if_pos (by decide)];rfl
    rw [e,splL];by_cases h:acc=[]
    · rw [if_pos h];exact ⟨_,Or.inr rfl,by rw [h];rfl⟩
    · rw [if_neg h];exact ⟨_,Or.inl rfl,rfl⟩
  | cons c r ih =>
    intro acc;show ∃ B,_∧splL (c :: (r++10 :: lastB)) acc=_
    rw [splL,splL];by_cases h:c.toNat=10
    · obtain ⟨B,h1,h2⟩:=ih []
      rw [if_pos h,if_pos h,h2];exact ⟨B,h1,rfl⟩
    · rw [if_neg h,if_neg h];exact ih (acc++[c])
theorem div_wrap (t:List UInt8):∃ B,(∀ l∈B,Bare l)∧divL (firstB++10 :: (spaceB++10 :: (t++10 :: lastB)))=firstB :: spaceB :: (divL t++B):=by
  obtain ⟨B,h1,h2⟩:=split_tail t [];have hf:∀ c∈firstB,c.toNat≠10:=by decide
  have hs:∀ c∈spaceB,c.toNat≠10:=by decide
  refine ⟨B,?_,?_⟩
  · obtain ⟨b1,b2,b3,b4⟩:=bare_all
    rcases h1 with rfl | rfl
    · intro l hl;rw [List.mem_singleton] at hl;subst hl;exact b3
    · intro l hl
      rcases List.mem_cons.mp hl with rfl | hl
      · exact b4
      · rw [List.mem_singleton] at hl;subst hl;exact b3
  · unfold divL
    rw [split_line _ hf,split_line _ hs,h2];rfl
theorem wrap_eq (a0:ByteArray):((⟨#[35,32,102,105,114,115,116,10,32,32,10]⟩:ByteArray)++a0)++(⟨#[10,35,32,108,97,115,116]⟩:ByteArray)=oL (firstB++10 :: (spaceB++10 :: (a0.data.toList++10 :: lastB))):=by
  have:(((⟨#[35,32,102,105,114,115,116,10,32,32,10]⟩:ByteArray)++a0)++(⟨#[10,35,32,108,97,115,116]⟩:ByteArray)).data.toList=firstB++10 :: (spaceB++10 :: (a0.data.toList++10 :: lastB)):=by
    rw [ba_app,ba_app];show [35,32,102,105,114,115,116,10,32,32,10]++a0.data.toList++[10,35,32,108,97,115,116]=_
    unfold firstB spaceB lastB;simp
  rw [← this];rfl
theorem wrap_parse (t:List UInt8) (cs:List S77) (hr:rtL cs=true) :
    ((parseS t cs).2.2.2.2.2.2.2=0→(parseS t cs).2.2.2.2.2.2.1=0∧parseS (firstB++10 :: (spaceB++10 :: (t++10 :: lastB))) cs=parseS t cs) ∧
    ((parseS t cs).2.2.2.2.2.2.2≠0→(parseS (firstB++10 :: (spaceB++10 :: (t++10 :: lastB))) cs).2.2.2.2.2.2.2=(parseS t cs).2.2.2.2.2.2.2∧0≤(parseS t cs).2.2.2.2.2.2.1∧(parseS t cs).2.2.2.2.2.2.1≤1+t.length∧(parseS t cs).2.2.2.2.2.2.1+2≤(parseS (firstB++10 :: (spaceB++10 :: (t++10 :: lastB))) cs).2.2.2.2.2.2.1):=by
  obtain ⟨B,hB,hd⟩:=div_wrap t;obtain ⟨b1,b2,b3,b4⟩:=bare_all;have hlen:=divL_len t;have hle:=goS_le cs (divL t) pst0 0;unfold parseS;rw [if_pos hr,if_pos hr,hd,goS,bare_step b1,if_pos rfl,goS,bare_step b2,if_pos rfl,goS_append];have sh:=goS_shift cs (divL t) 2 pst0 0;rw [show (0+1+1:Nat)=0+2 from rfl,sh];have he:=goS_end cs (divL t) pst0 0;generalize goS cs pst0 (divL t) 0=q at he hle ⊢;obtain ⟨p,e,n⟩:=q;by_cases z:e=0
  · have hn:n=0+(divL t).length:=he z
    subst z;rw [if_pos rfl,bare_go cs B hB];unfold endS;rw [if_pos rfl,if_pos rfl];unfold finS;by_cases c:p.part=3
    · rw [if_pos c,if_pos c]
      by_cases d:chkS p=0
      · rw [if_pos d,if_pos d]
        exact ⟨fun _=>⟨rfl,rfl⟩,fun h=>absurd rfl h⟩
      · rw [if_neg d,if_neg d]
        refine ⟨fun h=>absurd h d,fun _=>⟨rfl,?_,?_,?_⟩⟩
        · show (0:Int)≤(n:Int);omega
        · show (n:Int)≤_;omega
        · show (n:Int)+2≤((0+2+(divL t).length+B.length:Nat):Int);omega
    · rw [if_neg c,if_neg c]
      refine ⟨fun h=>absurd (show (6:Int)=0 from h) (by decide),fun _=>⟨rfl,?_,?_,?_⟩⟩
      · show (0:Int)≤(n:Int);omega
      · show (n:Int)≤_;omega
      · show (n:Int)+2≤((0+2+(divL t).length+B.length:Nat):Int);omega
  · rw [if_neg z]
    have hle':n≤0+(divL t).length:=hle;unfold endS;rw [if_neg z,if_neg z];refine ⟨fun h=>absurd h z,fun _=>⟨rfl,?_,?_,?_⟩⟩
    · show (0:Int)≤(n:Int);omega
    · show (n:Int)≤_;omega
    · show (n:Int)+2≤((n+2:Nat):Int);omega
theorem StmtBlank:∀ (a0:ByteArray) (a1:List S77),a0.size≤140737488351232→(∀ x∈a1,x.f0.size≤140737488351232)→∃ k,lw47_StmtBlank.f k a0 a1=some true:=by
  intro a0 a1 h0 hC;refine Ev.ex (f:=fun k=>lw47_StmtBlank.f k a0 a1) ?_;have tr:Ev (fun k=>lw47_StmtBlank.j0 k a0 a1 true) true:=Ev.step (fun k=>by rw [lw47_StmtBlank.j0]) (Ev.yes rfl Ev.live);unfold lw47_StmtBlank.f;refine Ev.both (fun h=>tr) (fun h=>?_);by_cases c:(a1.length:Int) > 60
  · rw [decide_eq_true c];exact tr
  rw [decide_eq_false c];have hs:a0.data.toList.length≤900000:=by rw [← size_eq'];omega
  refine Ev.step (fun k=>by rw [lw47_StmtBlank.j0]) (Ev.no (by decide) ?_);have s11:(⟨#[35,32,102,105,114,115,116,10,32,32,10]⟩:ByteArray).size=11:=rfl
  have hw:(firstB++10 :: (spaceB++10 :: (a0.data.toList++10 :: lastB))).length≤900000:=by
    have:=size_eq' a0;have e1:firstB.length=7:=rfl;have e2:spaceB.length=2:=rfl;have e3:lastB.length=6:=rfl;simp only [List.length_append,List.length_cons];omega
  have hp:=stmt_Parse_ev a0.data.toList a1 (by omega) hC hs;have hq:=stmt_Parse_ev (firstB++10 :: (spaceB++10 :: (a0.data.toList++10 :: lastB))) a1 (by omega) hC hw;rw [oL_data] at hp;rw [← wrap_eq] at hq;refine Ev.bind hp (Ev.yes (by omega) (Ev.yes (by rw [ByteArray.size_append,s11];omega) (Ev.bind hq ?_)))
  have j1:∀ n e m f:Int,∀ b:Bool,f=e→(b=false→m ≥ wrap64 (n+2))→Ev (fun k=>lw47_StmtBlank.j1 k n e m f b) true:=fun n e m f b h1 h2=>by
    refine Ev.step (fun k=>by rw [lw47_StmtBlank.j1]) ?_
    cases b with
    | true=>exact Ev.yes rfl (Ev.yes h1 Ev.live)
    | false=>exact Ev.no (by decide) (Ev.yes (h2 rfl) Ev.live)
  by_cases r:rtL a1=true
  · obtain ⟨k1,k2⟩:=wrap_parse a0.data.toList a1 r
    have hl:=parseS_len (cs:=a1) (t:=a0.data.toList) hs;generalize parseS (firstB++10 :: (spaceB++10 :: (a0.data.toList++10 :: lastB))) a1=Q at k1 k2 ⊢;generalize parseS a0.data.toList a1=P at k1 k2 hl ⊢;refine Ev.both (fun e=>?_) (fun e=>?_)
    · obtain ⟨k3,k4⟩:=k1 e
      rw [k4];exact Ev.yes e (Ev.yes k3 (Ev.yes k3 (Ev.bind (same_ev (P.1,P.2.1,P.2.2.1,P.2.2.2.1,P.2.2.2.2.1,P.2.2.2.2.2.1) hl) (Ev.yes rfl Ev.live))))
    · obtain ⟨k3,k4,k5,k6⟩:=k2 e
      have hm:∀ b:Bool,(b=false→Q.2.2.2.2.2.2.1 ≥ wrap64 (P.2.2.2.2.2.2.1+2)):=fun b _=>by
        rw [w_in (by omega)];exact k6
      exact Ev.yes k3 (Ev.both (fun _=>Ev.both (fun _=>j1 _ _ _ _ _ k3 (hm _)) (fun _=>j1 _ _ _ _ _ k3 (hm _))) (fun _=>j1 _ _ _ _ _ k3 (hm _)))
  · have e1:∀ t,parseS t a1=noS 0 2:=fun t=>by unfold parseS;rw [if_neg r]
    rw [e1,e1];exact Ev.no (by decide) (Ev.yes rfl (Ev.yes rfl (Ev.yes rfl (j1 _ _ _ _ _ rfl (fun h=>by cases h)))))
end Go.Proofs.YtmlcdpfcafmmcaaDoor.Pure
namespace Go.Proofs.YtmlcdpfcafmmcaaDoor.stmtBlank
open Go.ChangeShapes Go.WideShapes Go.ChangeAt Go.RowKit
open Go.ChangeMaps (open_string shut_string)
set_option linter.unusedVariables false
theorem own:ownKnob Tryd.prog.godebug=none:=by kernel_rfl
theorem laidOut:laidOutB Tryd.prog=true:=by kernel_rfl
abbrev laidL : List (String × DataW Unit) := [("accounting/days.lengths", Rows.laid_accounting_days_lengths), ("accounting/money.powers", Rows.laid_accounting_money_powers)]
theorem door_met (os:Os) (args:Array Value):laidMetH Tryd.prog laidL ((World.doorLaid Tryd.prog 400 os).forCall (fun _ _=>0) ⟨#[],args,[]⟩).memory :=
  laidMetH_of_parts3 (fuel:=8) (laidMet_of_run' 8 (by kernel_rfl) (by kernel_rfl)) (by kernel_rfl) (by kernel_rfl)
theorem gl_of_laid {W:World} (h:laidMetH Tryd.prog laidL W):B.Gl W:=B.gl_of_laid (by rw [MakeChecks.laidMetH_plain _ _ _ (by kernel_rfl)] at h;exact h)
set_option maxRecDepth 100000 in
theorem lifted (os:Os) (started:os.Started) (H:Type) (enc:TypeId×Value→H) :
    ReturnsInHanded {} Tryd.checked os 8 .any (fun w args=>(Rows.stmtBlankSpec.pre enc Tryd.prog Tryd.f8 [] false w args∧laidMetH Tryd.prog laidL w)∧sizedMet enc Tryd.prog Tryd.f8 (OpenSpec.ofChange Rows.stmtBlankSpec) false w args) (Rows.stmtBlankSpec.post enc Tryd.prog Tryd.f8 false true false false):=by
  refine returnsInHanded_of_change_and (C:=Tryd.checked) (X:=fun w _=>laidMetH Tryd.prog laidL w) (fun _ _ _ hh h=>h.of_heap hh) own started (by kernel_rfl) Tryd.func8
    (ChangeSpec.witness_shaped (enc:=enc) (C:=Tryd.checked) (os:=os) (X:=fun w _=>laidMetH Tryd.prog laidL w) false (World.doorLaid Tryd.prog 400 os) #[.string ⟨#[]⟩,.slice none 0 0] 8 rfl (World.shaped_of_RefB (by kernel_rfl) (by kernel_rfl)) (by kernel_rfl) (by kernel_rfl) (by kernel_rfl) (door_met os _)) ?_
  intro W base args ds gs before hval0 hW hcnd hsz0 hL _;have hG:=gl_of_laid hL;have hsz:(DataW.weightsEach Tryd.prog (Tryd.f8.params.toList++Rows.stmtBlankSpec.plain.varTypes Tryd.prog) (ds++gs)).all (·≤reachBytes)=true:=hsz0;have hval:∀ (j:Nat) t v,Tryd.f8.params[j]?=some t→args[j]?=some v→Value.okWide Tryd.prog W .any base t v:=hval0;have hW':=hW;obtain ⟨p,q,hA0,hV,rfl,hfz,hnd⟩:=hW;have hA:DataW.TrodAll enc Tryd.prog W 0 (fun _=>true) true Tryd.f8.params.toList args.toList ds p:=hA0;rw [Tryd.params8] at hA hval hsz;obtain ⟨v0,vs0,d0,ds0,p0,q0,hargs,rfl,rfl,h0,r0⟩:=trodAll_cons hA;obtain ⟨v1,vs1,d1,ds1,p1,q1,rfl,rfl,rfl,h1,r1⟩:=trodAll_cons r0;obtain ⟨rfl,rfl,rfl⟩:=trodAll_nil r1;obtain rfl:args=#[v0,v1]:=by cases args;simp_all
  obtain ⟨rfl,rfl⟩:=trodVars_none hV;obtain ⟨a0,rfl,rfl,rfl,w0⟩:=open_string Tryd.underlying9 (hval 0 9 v0 rfl rfl) h0
  have y0:a0.size≤140737488351232:=by
    have z:=sized_string hsz (j:=0) (t:=9) rfl rfl;rw [Array.length_toList] at z;exact z
  have k1:=h1;have lt1:∀ x∈p1,x.block < W.heap.size:=by obtain ⟨m,hm⟩:=k1;exact DataW.trod_lt m _ _ _ hm
  obtain ⟨A1,c1,a1,rfl,hlc1,hC1,hS1⟩:=A.open_curs (hval 1 31 v1 rfl rfl) h1 (B.arg_weights hsz (j:=1) (t:=31) rfl rfl);clear hA0 hval0 hsz0 hsz;obtain ⟨k,hk⟩:=Pure.StmtBlank a0 a1 y0 hS1;refine (A.lw47_StmtBlank.calls k a0 A1 c1 a1 true W hC1 hlc1 hk hG).mono fun e W' ⟨he,bel0⟩=>?_
  have bel:Below W.heap.size W W':=bel0;subst he;exact ⟨_,rfl,_,_,_,[],_,[],hW',trodAll_mk1 (shut_bool Tryd.underlying4 _),(trodAll_cons_mk (shut_string Tryd.underlying9 w0) (trodAll_cons_mk (Below.trod laidOut (by kernel_rfl) (of_decide_eq_true (by kernel_rfl)) k1 bel lt1) trodAll_mk0)),rfl,bel.frame _,fun h=>by cases h⟩
theorem over:Rows.stmtBlankRow.holds Tryd.pinned (OpenSpec.ofChange Rows.stmtBlankSpec) :=
  OpenClaim.holds_of_wide 8 Tryd.f8 rfl rfl rfl rfl rfl rfl rfl ⟨rfl,rfl,rfl,rfl,rfl⟩ rfl rfl rfl rfl rfl (by kernel_rfl) Tryd.func8 (by kernel_rfl)
    (of_decide_eq_true (by kernel_rfl)) (by unfold Func.isWrapper;first | (rw [if_pos (by decide +kernel)];kernel_rfl) | (rw [if_neg (by decide +kernel)];exact ⟨rfl,rfl⟩))
    (fun os started H enc _=>lifted os started H enc)
theorem proved:Rows.StmtBlankSaid:=over
end Go.Proofs.YtmlcdpfcafmmcaaDoor.stmtBlank
namespace Go.Proofs.YtmlcdpfcafmmcaaDoor
theorem stmtBlank_holds:Rows.StmtBlankCardSaid :=
  Claim7.holds_tied_plain_at .later [] [.data, .data] true (true, "e2ca4102f9483c5686cf01e559ba30cc68b277cf3843f274404e99127137410b") false
    stmtBlank.proved (fun _ h=>by cases h) (by kernel_rfl) (fun _ h=>by cases h) stmtBlank_row_tie rfl ⟨rfl,rfl⟩ (by kernel_rfl) rfl
    (fun f fn hf hfn=>by
      obtain rfl : f = 8 := Option.some.inj ((show Tryd.prog.funcNamed "accounting/accountinglaw47.StmtBlank" = some 8 by kernel_rfl).symm.trans hf) |>.symm
      obtain rfl:fn=Tryd.f8:=(Option.some.inj (Tryd.func8.symm.trans hfn)).symm
      exact ⟨by kernel_rfl,fun j t ht=>by
        rw [Tryd.params8] at ht;have hm:t∈[9,31]:=by simpa using Array.mem_of_getElem? ht
        have hall:([9,31].all fun u=>!Tryd.prog.wantsStandIn u)=true:=by kernel_rfl
        exact (show Tryd.prog.wantsStandIn t=false by simpa using List.all_eq_true.1 hall t hm)⟩)
    (by kernel_rfl)
end Go.Proofs.YtmlcdpfcafmmcaaDoor
