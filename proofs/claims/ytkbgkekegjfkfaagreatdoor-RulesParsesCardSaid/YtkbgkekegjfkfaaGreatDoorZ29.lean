-- By pack.py, a program of this session's.
import Derived.Deep.Slices
import Derived.Handed
import Derived.Lib.SmallJoins
import Derived.Shelf.Vars
import Derived.SizedLaws
import Derived.Test.YtkbgkekegjfkfaaGreatDoorZ24
set_option linter.unusedVariables false
set_option linter.unusedSimpArgs false
namespace Go.Proofs.YtkbgkekegjfkfaaGreatDoor
namespace A
open Go.RowKit B WW WL WM
def cutW (L:List UInt8):List S73×Int×Int:=if 400 < L.length then ([],0,9) else outR [] (cutR L.length L 0)
theorem letter_eq (c:UInt8):words_letter.f (c.toNat:Int)=some (isLet c):=by
  have h:∀ n:Nat,n < 256→words_letter.f (n:Int)=some ((decide (97≤n) && decide (n≤122)) || ((decide (65≤n) && decide (n≤90)) || decide (n=95))):=by decide +kernel
  exact h c.toNat c.toNat_lt
theorem digit_eq (c:UInt8):words_digit.f (c.toNat:Int)=some (isDig c):=by
  have h:∀ n:Nat,n < 256→words_digit.f (n:Int)=some (decide (48≤n∧n≤57)):=by decide +kernel
  rw [h c.toNat c.toNat_lt];congr 1
  rw [Bool.eq_iff_iff,decide_eq_true_iff,isDig_range]
theorem printable_eq (c:UInt8):words_printable.f (c.toNat:Int)=some (isPrint c):=by
  have h:∀ n:Nat,n < 256→words_printable.f (n:Int)=some (decide (32≤n) && decide (n≤126)):=by decide +kernel
  exact h c.toNat c.toNat_lt
theorem digitAt_eq (L:List UInt8) (i:Nat):words_digitAt.f (oL L) (i:Int)=some (headDig (L.drop i)):=by
  unfold words_digitAt.f;rw [oL_size]
  cases h:L.drop i with
 |nil=>rw [if_neg (by have:=drop_end h;omega)];rfl
 |cons c r =>
    obtain ⟨h1,h2,h3⟩:=drop_at h;rw [if_pos (by omega),if_pos (by omega),bt_oL,h2,digit_eq];rfl
theorem nameEnd_l0 (L:List UInt8) (hL:L.length≤1000000) (R:List UInt8):∀ i:Nat,L.drop i=R→i≤L.length→Ev (fun k=>words_nameEnd.l0 k (oL L) (i:Int)) ((i+nameN R:Nat):Int):=by
  induction R with
 |nil =>
    intro i h hi;have:=drop_end h;refine Ev.step (fun k=>by rw [words_nameEnd.l0]) ?_;exact Ev.no (by rw [oL_size];omega) (Ev.is rfl)
 |cons c r ih =>
    intro i h hi;obtain ⟨h1,h2,h3⟩:=drop_at h;refine Ev.step (fun k=>by rw [words_nameEnd.l0]) (Ev.yes (by rw [oL_size];omega) (Ev.yes (by omega) ?_));rw [bt_oL,h2,letter_eq,digit_eq,w_next i (by omega)];simp only [Option.bind_some]
    have:=ih (i+1) h3 (by omega);have e:isLet c=true∨isDig c=true→i+nameN (c :: r)=i+1+nameN r:=fun a=>by rw [nameN,if_pos a];omega
    refine Ev.both (fun a=>by rw [e (.inl a)];exact this) (fun a=>Ev.both (fun b=>by rw [e (.inr b)];exact this) (fun b=>Ev.is ?_));rw [nameN,if_neg (fun h=>h.elim a b)];rfl
theorem numberEnd_l0 (L:List UInt8) (hL:L.length≤1000000) (R:List UInt8):∀ i:Nat,L.drop i=R→i≤L.length→Ev (fun k=>words_numberEnd.l0 k (oL L) (i:Int)) ((i+numN R:Nat):Int):=by
  induction R with
 |nil =>
    intro i h hi;have:=drop_end h;refine Ev.step (fun k=>by rw [words_numberEnd.l0]) ?_;exact Ev.no (by rw [oL_size];omega) (Ev.is rfl)
 |cons c r ih =>
    intro i h hi;obtain ⟨h1,h2,h3⟩:=drop_at h;refine Ev.step (fun k=>by rw [words_numberEnd.l0]) (Ev.yes (by rw [oL_size];omega) ?_);rw [bt_oL,h2,letter_eq,digit_eq,show (i:Int)+1=((i+1:Nat):Int) by omega,digitAt_eq,h3];simp only [Option.bind_some]
    have:=ih (i+1) h3 (by omega);have hp:((c.toNat:Int)=46∨(c.toNat:Int)=47∨(c.toNat:Int)=45) ↔ isPt c=true:=by unfold isPt;simp only [Bool.or_eq_true,decide_eq_true_iff];omega
    refine Ev.both (fun p=>Ev.both (fun a=>?_) (fun a=>Ev.is ?_)) (fun p=>Ev.both (fun a=>?_) (fun a=>Ev.both (fun b=>?_) (fun b=>Ev.is ?_)))
    · rw [numN,if_pos (hp.mp p),if_pos a,show i+(numN r+1)=i+1+numN r by omega];exact this
    · rw [numN,if_pos (hp.mp p),if_neg a];rfl
    · rw [numN,if_neg (fun h=>p (hp.mpr h)),if_pos (.inl a),show i+(numN r+1)=i+1+numN r by omega];exact this
    · rw [numN,if_neg (fun h=>p (hp.mpr h)),if_pos (.inr b),show i+(numN r+1)=i+1+numN r by omega];exact this
    · rw [numN,if_neg (fun h=>p (hp.mpr h)),if_neg (fun h=>h.elim a b)];rfl
theorem numberEnd_ev (L:List UInt8) (hL:L.length≤1000000) (i:Nat) (c:UInt8) (r:List UInt8) (h:L.drop i=c :: r):Ev (fun k=>words_numberEnd.f k (oL L) (i:Int)) ((i+(numN r+1):Nat):Int):=by
  obtain ⟨h1,h2,h3⟩:=drop_at h;unfold words_numberEnd.f;refine Ev.yes ⟨by omega,by omega,by rw [oL_size];omega⟩ ?_;have:=numberEnd_l0 L hL r (i+1) h3 (by omega);rw [show i+(numN r+1)=i+1+numN r by omega,show (i:Int)+1=((i+1:Nat):Int) by omega];exact this
theorem quoted_l0 (L:List UInt8) (hL:L.length≤1000000) (a:Nat) (n:Nat):∀ (R:List UInt8) (i:Nat) (acc:List UInt8),R.length≤n→L.drop i=R→i≤L.length→acc.length≤i →
    Ev (fun k=>words_quoted.l0 k (oL L) (a:Int) (toI acc) (i:Int) 0 0) (quoR (quoS a R i acc)):=by
  induction n with
 |zero =>
    intro R i acc hn h hi hacc;have hR:R=[]:=List.eq_nil_of_length_eq_zero (by omega);subst hR;have:=drop_end h;refine Ev.step (fun k=>by rw [words_quoted.l0]) ?_;exact Ev.no (by rw [oL_size];omega) (Ev.is rfl)
 |succ n ih =>
    intro R i acc hn h hi hacc
    cases R with
   |nil =>
      have:=drop_end h;refine Ev.step (fun k=>by rw [words_quoted.l0]) ?_;exact Ev.no (by rw [oL_size];omega) (Ev.is rfl)
   |cons c r =>
      obtain ⟨h1,h2,h3⟩:=drop_at h;rw [List.length_cons] at hn;refine Ev.step (fun k=>by rw [words_quoted.l0]) (Ev.yes (by rw [oL_size];omega) (Ev.yes (by omega) ?_));rw [w_next i (by omega),bt_oL L i,h2,printable_eq];simp only [Option.bind_some]
      refine Ev.both (fun q=>Ev.is ?_) (fun q=>Ev.both (fun b=>?_) (fun b=>Ev.both (fun p=>?_) (fun p=>Ev.is ?_)))
      · rw [quoS.eq_def];dsimp only;rw [if_pos (by omega),strOf_toI];rfl
      · rw [show wrap64 (((i+1:Nat):Int) - 1)=(i:Int) by unfold wrap64;omega]
        cases r with
       |nil =>
          have:=drop_end h3;refine Ev.yes (by rw [oL_size];omega) (Ev.is ?_);rw [quoS.eq_def];dsimp only;rw [if_neg (by omega),if_pos (by omega)];rfl
       |cons d r =>
          obtain ⟨g1,g2,g3⟩:=drop_at h3;rw [List.length_cons] at hn;refine Ev.no (by rw [oL_size];omega) (Ev.yes (by omega) (Ev.yes (by rw [oL_size];omega) ?_));rw [bt_oL L (i+1),g2,w_next (i+1) (by omega),toI_snoc,toI_len];have key:=ih r (i+1+1) (acc++[d]) (by omega) g3 (by omega) (by rw [List.length_append,List.length_singleton];omega)
          have e:d.toNat=34∨d.toNat=92→quoS a (c :: d :: r) i acc=quoS a r (i+1+1) (acc++[d]):=fun a=>by
            rw [quoS.eq_def];dsimp only;rw [if_neg (by omega),if_pos (by omega),if_pos a]
          refine Ev.both (fun x=>Ev.yes (by omega) ?_) (fun x=>Ev.both (fun y=>Ev.yes (by omega) ?_) (fun y=>Ev.is ?_))
          · rw [e (by omega)];exact key
          · rw [e (by omega)];exact key
          · rw [quoS.eq_def];dsimp only;rw [if_neg (by omega),if_pos (by omega),if_neg (by omega)];rfl
      · rw [toI_snoc,toI_len]
        refine Ev.yes (by omega) ?_;have key:=ih r (i+1) (acc++[c]) (by omega) h3 (by omega) (by rw [List.length_append,List.length_singleton];omega);rw [show quoS a (c :: r) i acc=quoS a r (i+1) (acc++[c]) by rw [quoS.eq_def];dsimp only;rw [if_neg (by omega),if_neg (by omega),if_pos p]];exact key
      · rw [quoS.eq_def];dsimp only;rw [if_neg (by omega),if_neg (by omega),if_neg p];rfl
theorem quoS_end (a n:Nat):∀ (R:List UInt8) (i:Nat) (acc:List UInt8),R.length≤n→(quoS a R i acc).2.2.2=0→i < (quoS a R i acc).2.1∧(quoS a R i acc).2.1≤i+R.length:=by
  induction n with
 |zero =>
    intro R i acc hn h;have hR:R=[]:=List.eq_nil_of_length_eq_zero (by omega);subst hR;exact absurd h (by show ¬ (6=0);omega)
 |succ n ih =>
    intro R i acc hn
    cases R with
   |nil=>intro h;exact absurd h (by show ¬ (6=0);omega)
   |cons c r =>
      rw [List.length_cons] at hn ⊢;rw [quoS.eq_def];dsimp only;split
      · intro _;dsimp only;omega
      split
      · cases r with
       |nil=>intro h;exact absurd h (by show ¬ (5=0);omega)
       |cons d r =>
          rw [List.length_cons] at hn ⊢;dsimp only
          split
          · intro h;have:=ih r (i+2) (acc++[d]) (by omega) h;omega
          · intro h;exact absurd h (by show ¬ (5=0);omega)
      split
      · intro h;have:=ih r (i+1) (acc++[c]) (by omega) h;omega
      · intro h;exact absurd h (by show ¬ (5=0);omega)
theorem signEnd_j0 (L:List UInt8) (hL:L.length≤1000000) (i:Nat) (c:UInt8) (r:List UInt8) (h:L.drop i=c :: r):Ev (fun k=>words_signEnd.j0 k (oL L) (i:Int)) ((i+oneSg c:Nat):Int):=by
  obtain ⟨h1,h2,h3⟩:=drop_at h;refine Ev.step (fun k=>by rw [words_signEnd.j0]) (Ev.yes (by omega) (Ev.yes (by rw [oL_size];omega) ?_));rw [bt_oL,h2,w_next i (by omega)]
  have y:∀ m:Nat,(c.toNat:Int)=m→m∈[40,41,123,125,91,93,44,59,58,61,43,45,42,47,60,62,124,38,33,64,37]→((i+1:Nat):Int)=((i+oneSg c:Nat):Int):=fun m e hm=>by
    rw [oneSg,show c.toNat=m by omega,if_pos hm]
  refine Ev.both (fun e=>Ev.is (y 40 e (by decide))) fun n1=>Ev.both (fun e=>Ev.is (y 41 e (by decide))) fun n2=>Ev.both (fun e=>Ev.is (y 123 e (by decide))) fun n3 =>
    Ev.both (fun e=>Ev.is (y 125 e (by decide))) fun n4=>Ev.both (fun e=>Ev.is (y 91 e (by decide))) fun n5=>Ev.both (fun e=>Ev.is (y 93 e (by decide))) fun n6 =>
    Ev.both (fun e=>Ev.is (y 44 e (by decide))) fun n7=>Ev.both (fun e=>Ev.is (y 59 e (by decide))) fun n8=>Ev.both (fun e=>Ev.is (y 58 e (by decide))) fun n9 =>
    Ev.both (fun e=>Ev.is (y 61 e (by decide))) fun n10=>Ev.both (fun e=>Ev.is (y 43 e (by decide))) fun n11=>Ev.both (fun e=>Ev.is (y 45 e (by decide))) fun n12 =>
    Ev.both (fun e=>Ev.is (y 42 e (by decide))) fun n13=>Ev.both (fun e=>Ev.is (y 47 e (by decide))) fun n14=>Ev.both (fun e=>Ev.is (y 60 e (by decide))) fun n15 =>
    Ev.both (fun e=>Ev.is (y 62 e (by decide))) fun n16=>Ev.both (fun e=>Ev.is (y 124 e (by decide))) fun n17=>Ev.both (fun e=>Ev.is (y 38 e (by decide))) fun n18 =>
    Ev.both (fun e=>Ev.is (y 33 e (by decide))) fun n19=>Ev.both (fun e=>Ev.is (y 64 e (by decide))) fun n20=>Ev.both (fun e=>Ev.is (y 37 e (by decide))) fun n21=>Ev.is ?_
  rw [oneSg,if_neg];rfl;simp only [List.mem_cons,List.not_mem_nil,or_false]
  omega
theorem wordS_end (c:UInt8) (r:List UInt8) (i:Nat) (h:(wordS (c :: r) i).2.2.2.2=0):i < (wordS (c :: r) i).2.2.1∧(wordS (c :: r) i).2.2.1≤i+(r.length+1):=by
  revert h
  rw [wordS_cons];split
  · rename_i a
    intro _;have:=nameN_le (c :: r);rw [List.length_cons] at this;have e:nameN (c :: r)=nameN r+1:=by rw [nameN,if_pos (.inl a)]
    show i < i+nameN (c :: r)∧i+nameN (c :: r)≤_
    omega
  split
  · intro _
    have:=numN_le r;show i < i+(numN r+1)∧i+(numN r+1)≤_
    omega
  split
  · have:=quoS_end i r.length r (i+1) [] (Nat.le_refl _)
    generalize quoS i r (i+1) []=z at *;unfold qS;split
    · rename_i hz;intro _;have:=this hz;dsimp only;omega
    · rename_i hz;intro h;exact absurd h hz
  · unfold wordH
    split
    · intro h;exact absurd h (by show ¬ (5=0);omega)
    · intro _
      have:=signN_le c r;rw [List.length_cons] at this;show i < i+signN (c :: r)∧i+signN (c :: r)≤_
      omega
theorem Cuts.cutW {R:List UInt8} {ps:List (Nat×List UInt8)} (h:Cuts R ps) (hl:R.length≤400):∃ ws j,Go.Proofs.YtkbgkekegjfkfaaGreatDoor.A.cutW R=(ws,j,0)∧ws.map (fun (x:S73)=>(x.f0,x.f1))=ps.map (fun p=>((p.1:Int),oL p.2)):=by
  obtain ⟨ws,j,h1,h2⟩:=h R.length 0 (Nat.le_refl _);refine ⟨ws,(j:Int),?_,h2⟩;unfold Go.Proofs.YtkbgkekegjfkfaaGreatDoor.A.cutW;rw [if_neg (by omega),h1];rfl
theorem wordS_size (R:List UInt8) (i:Nat) (h:(wordS R i).2.2.2.2=0):(wordS R i).2.1.length≤60:=by
  have g:∀ (kind:Nat) (R:List UInt8) (i n most:Nat),most≤60→(gS kind R i n most).2.2.2.2=0→(gS kind R i n most).2.1.length≤60:=by
    intro kind R i n most hm h;unfold gS at h ⊢;show (R.take n).length≤60
    have h':(if most < n then 9 else 0)=0:=h;have:¬ most < n:=fun c=>by rw [if_pos c] at h';exact absurd h' (by decide)
    rw [List.length_take];omega
  cases R with
 |nil=>exact Nat.zero_le _
 |cons c r =>
    rw [wordS_cons] at h ⊢;split at h
    · rename_i e;rw [if_pos e];exact g _ _ _ _ _ (by omega) h
    · rename_i e;rw [if_neg e]
      split at h
      · rename_i e;rw [if_pos e];exact g _ _ _ _ _ (by omega) h
      · rename_i e;rw [if_neg e]
        split at h
        · rename_i e;rw [if_pos e]
          generalize quoS i r (i+1) []=q at h ⊢;unfold qS at h ⊢;by_cases z:q.2.2.2=0
          · rw [if_pos z] at h ⊢
            have h':(if 60 < q.1.length then 9 else 0)=0:=h;show q.1.length≤60
            rcases Nat.lt_or_ge 60 q.1.length with c|c
            · rw [if_pos c] at h';exact absurd h' (by decide)
            · exact c
          · rw [if_neg z] at h;exact absurd h z
        · rename_i e;rw [if_neg e]
          unfold wordH at h ⊢;split at h
          · rename_i e;rw [if_pos e];exact Nat.zero_le _
          · rename_i e;rw [if_neg e];exact g _ _ _ _ _ (by omega) h
theorem cutR_size (f:Nat):∀ (R:List UInt8) (i:Nat),WS (cutR f R i).1∧(cutR f R i).1.length≤f:=by
  induction f with
 |zero=>intro R i;exact ⟨fun x hx=>(by cases hx),Nat.le_refl _⟩
 |succ f ih =>
    intro R i
    cases R with
   |nil=>exact ⟨fun x hx=>(by cases hx),Nat.zero_le _⟩
   |cons c r =>
      rw [cutR];split
      · exact ⟨fun x hx=>(by cases hx),Nat.zero_le _⟩
      split
      · exact ⟨(ih _ _).1,Nat.le_trans (ih _ _).2 (Nat.le_succ _)⟩
      split
      · rename_i e
        unfold pre;obtain ⟨h1,h2⟩:=ih ((c :: r).drop ((wordS (c :: r) i).2.2.1 - i)) (wordS (c :: r) i).2.2.1;split
        · refine ⟨fun x hx=>?_,by rw [List.length_cons];omega⟩
          rcases List.mem_cons.mp hx with rfl|hx
          · show (oL (wordS (c :: r) i).2.1).size≤60
            rw [oL_size];exact wordS_size _ _ e
          · exact h1 x hx
        · exact ⟨fun x hx=>(by cases hx),Nat.zero_le _⟩
      · exact ⟨fun x hx=>(by cases hx),Nat.zero_le _⟩
theorem cutW_size (L:List UInt8):WS (cutW L).1∧(cutW L).1.length≤400:=by
  unfold cutW;split
  · exact ⟨fun x hx=>(by cases hx),Nat.zero_le _⟩
  · obtain ⟨h1,h2⟩:=cutR_size L.length L 0
    unfold outR;split
    · rw [List.nil_append];exact ⟨h1,by show (cutR L.length L 0).1.length≤400;omega⟩
    · exact ⟨fun x hx=>(by cases hx),Nat.zero_le _⟩
end A
namespace B
open Go.Deep Go.ChangeShapes Go.WideShapes Go.ChangeAt Go.Joins WW
structure Opens {α:Type} (P:Program) (t:TypeId) (d:Kd α) (G:α→Prop):Prop where
  size:P.cellsOf t=d.sz
  get:∀ {H:Type} {enc:TypeId×Value→H} {W:World} {base:Nat} {spare:Nat→Bool} {held:Bool} {n:Nat} {cs:List Value} {y:DataW H×List MemPlace},DataW.trod enc P W base spare held n t cs=some y→(∀ x∈y.1.weights P t,x≤reachBytes)→∃ a,d.K W a cs∧G a
theorem Opens.int {P:Program} {t:TypeId} {k:IntKind} (ht:P.underlying t=some (.int k)) (hc:P.cellsOf t=1):Opens P t (Kd.int k) (fun x=>(Lit.int k x).wf=true) where
  size:=hc
  get h _:=by
    obtain ⟨x,rfl,_,hw⟩:=DataW.trod_int ht h;exact ⟨x,rfl,hw⟩
theorem Opens.string {P:Program} {t:TypeId} (ht:P.underlying t=some .string) (hc:P.cellsOf t=1):Opens P t Kd.string (fun s=>s.size≤140737488351232) where
  size:=hc
  get h hw:=by
    obtain ⟨x,rfl,rfl,_⟩:=DataW.trod_string ht h;refine ⟨x,rfl,?_⟩;have:=hw x.data.toList.length (by simp [DataW.weights]);rw [data_length] at this;exact this
end B
namespace B
open Go.ChangeShapes
theorem handed_open {H:Type} {enc:TypeId×Value→H} {a:Assume} {C:Checked} {os:Os} {f:FuncId} {fn:Func} {s:ChangeSpec} {conds:List PathCond} {apart fresh handsOn again:Bool} {X:World→Array Value→Prop}
    (hX:∀ (w w':World) (args:Array Value),w.heap=w'.heap→X w args→X w' args)
    (own:ownKnob C.prog.godebug=none) (started:os.Started) (noInit:C.prog.inits.idxOf? f=none) (hfn:C.prog.funcs[f]?=some fn)
    (wit:∃ (w:World) (tape:Tape) (i:Input),w.os=os∧(w.forCall tape i).Shaped C.prog∧i.vars=[]∧Input.okWide C.prog (w.forCall tape i) .any w.heap.size f i ∧
      ((s.pre enc C.prog fn conds apart (w.forCall tape i).memory i.args∧X (w.forCall tape i).memory i.args)∧sizedMet enc C.prog fn (OpenSpec.ofChange s) apart (w.forCall tape i).memory i.args)∧a.holds C.prog (lone (Frame.enter C.prog f i.args .normal) [] (w.forCall tape i)))
    (walk:∀ (W:World) (base:Nat) (args:Array Value) (ds gs:List (DataW H)) (before:List MemPlace),W.ShapedOpen C.prog→X W args →
      (∀ (j:Nat) t v,fn.params[j]?=some t→args[j]?=some v→Value.okWide C.prog W .any base t v)→DataW.Whole enc C.prog fn.params.toList s.vars apart W args.toList ds gs before →
      (DataW.weightsEach C.prog (fn.params.toList++s.plain.varTypes C.prog) (ds++gs)).all (·≤reachBytes)=true →
      Calls C.prog f args W fun e W'=>∃ v,e=.returned v∧s.post enc C.prog fn apart fresh handsOn again W args v W') :
    ReturnsInHanded a C os f .any (fun w args=>(s.pre enc C.prog fn conds apart w args∧X w args)∧sizedMet enc C.prog fn (OpenSpec.ofChange s) apart w args) (s.post enc C.prog fn apart fresh handsOn again):=by
  refine returnsInHanded_of_calls own started noInit wit ?_;rintro w tape i _ hO _ ⟨_,_,_,fn',hf',_,_,_,_,hv⟩ ⟨⟨⟨ds,gs,before,hw,_⟩,hx⟩,hz⟩ _;obtain rfl:fn'=fn:=Option.some.inj (hf'.symm.trans hfn);refine (walk (w.forCall tape i) w.heap.size i.args ds gs before hO (hX _ _ _ (by rfl) hx) hv (DataW.Whole.of_heap (w':=w.forCall tape i) (by rfl) hw) (hz.weights hw)).mono ?_;rintro e W' ⟨v,rfl,hp⟩;exact ChangeSpec.post_blind hp
set_option maxRecDepth 100000 in
theorem maxLen_some {W:World} (h:W.ShapedOpen Tryz.prog):∃ m,W.cell? ⟨2,0,none⟩=some (.int .i64 m) :=
  cell_of_shapedOpen_int (t:=3) (zero:=#[.int .i64 0]) h (of_decide_eq_true (by kernel_rfl)) (by kernel_rfl) rfl (by kernel_rfl) (by kernel_rfl) Tryz.underlying3
end B

end Go.Proofs.YtkbgkekegjfkfaaGreatDoor