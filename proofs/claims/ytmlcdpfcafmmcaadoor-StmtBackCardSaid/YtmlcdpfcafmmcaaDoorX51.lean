-- By pack.py, a program of this session's.
import Derived.Test.YtmlcdpfcafmmcaaDoorX24
import Derived.Test.YtmlcdpfcafmmcaaDoorX30
import Derived.Test.YtmlcdpfcafmmcaaDoorX32
import Derived.Test.YtmlcdpfcafmmcaaDoorX35
import Derived.Test.YtmlcdpfcafmmcaaDoorX36
set_option linter.unusedVariables false
set_option linter.unusedSimpArgs false
namespace Go.Proofs.YtmlcdpfcafmmcaaDoor.A
open Go.RowKit B WW WL WM
theorem oL_list (l:List UInt8):(oL l).data.toList=l:=rfl
theorem take_app {α:Type} (a b:List α) (n:Nat) (h:a.length=n):(a++b).take n=a:=by subst h;rw [List.take_left]
theorem drop_app {α:Type} (a b:List α) (n:Nat) (h:a.length=n):(a++b).drop n=b:=by subst h;rw [List.drop_left]
theorem Brk.sp (q:List UInt8):Brk (32 :: q):=Or.inr ⟨q,rfl⟩
theorem num_brk {r:List UInt8} (h:Brk r):numN r=0:=by
  rcases h with rfl | ⟨q,rfl⟩
  · rfl
  · rw [numN,if_neg (by decide),if_neg (by decide)]
theorem num_wd (w r:List UInt8) (hw:w.all isWdB=true):numN (w++r)=w.length+numN r:=by
  induction w with
  | nil=>rw [List.nil_append,List.length_nil,Nat.zero_add]
  | cons c w ih =>
    rw [List.all_cons,Bool.and_eq_true] at hw;show numN (c :: (w++r))=_
    have hc:=isWd_or hw.1;have e:isPt c=false:=isLet_pt hc;rw [numN,if_neg (by rw [e];decide),if_pos hc,ih hw.2,List.length_cons];omega
theorem num_pt (c:UInt8) (r:List UInt8) (hc:isPt c=true) (hr:headDig r=true):numN (c :: r)=numN r+1:=by
  rw [numN,if_pos hc,if_pos hr]
theorem headDig_app {w:List UInt8} (r:List UInt8) (hw:headDig w=true):headDig (w++r)=true:=by
  cases w with
  | nil=>cases hw
  | cons c w=>exact hw
theorem headDig_all {w:List UInt8} (hw:w.all isDig=true) (hn:w≠[]):headDig w=true:=by
  cases w with
  | nil=>exact absurd rfl hn
  | cons c w=>rw [List.all_cons,Bool.and_eq_true] at hw;exact hw.1
theorem dig_wd {c:UInt8} (h:isDig c=true):isWdB c=true:=by rw [isWdB_eq,h,Bool.or_true]
theorem digs_wd {w:List UInt8} (h:w.all isDig=true):w.all isWdB=true:=by
  rw [List.all_eq_true] at h ⊢;exact fun x hx=>dig_wd (h x hx)
theorem num_app (w:List UInt8):numN w=w.length→∀ r,Brk r→numN (w++r)=w.length:=by
  induction w with
  | nil=>intro _ r h;exact num_brk h
  | cons c w ih =>
    intro h r hr;show numN (c :: (w++r))=_
    rw [numN] at h ⊢;rw [List.length_cons] at h ⊢;by_cases p:isPt c=true
    · rw [if_pos p] at h ⊢
      by_cases d:headDig w=true
      · rw [if_pos d] at h
        rw [if_pos (headDig_app r d),ih (by omega) r hr]
      · rw [if_neg d] at h;omega
    · rw [if_neg p] at h ⊢
      by_cases d:isLet c=true∨isDig c=true
      · rw [if_pos d] at h ⊢
        rw [ih (by omega) r hr]
      · rw [if_neg d] at h;omega
theorem quoS_esc (a:Nat) (t:List UInt8):∀ (r:List UInt8) (i:Nat) (acc:List UInt8),t.all isPrn=true→quoS a (escL t++34 :: r) i acc=(acc++t,i+(escL t).length+1,0,0):=by
  induction t with
  | nil =>
    intro r i acc h;show quoS a (34 :: r) i acc=_
    rw [quoS.eq_def];dsimp only;rw [if_pos (by decide),List.append_nil];rfl
  | cons c t ih =>
    intro r i acc h;rw [List.all_cons,Bool.and_eq_true] at h;rw [escL];by_cases q:c.toNat=34∨c.toNat=92
    · rw [if_pos q]
      show quoS a (92 :: c :: (escL t++34 :: r)) i acc=_
      rw [quoS.eq_def];dsimp only;rw [if_neg (by decide),if_pos (by decide)];show (if c.toNat=34∨c.toNat=92 then quoS a (escL t++34 :: r) (i+2) (acc++[c]) else ([],0,i,5))=_
      rw [if_pos q,ih r (i+2) (acc++[c]) h.2,List.append_assoc];simp only [List.length_cons]
      rw [show i+2+(escL t).length+1=i+((escL t).length+1+1)+1 from by omega];rfl
    · rw [if_neg q]
      show quoS a (c :: (escL t++34 :: r)) i acc=_
      rw [quoS.eq_def];dsimp only;rw [if_neg (by omega),if_neg (by omega),if_pos (show isPrint c=true from h.1),ih r (i+1) (acc++[c]) h.2,List.append_assoc];simp only [List.length_cons]
      rw [show i+1+(escL t).length+1=i+((escL t).length+1)+1 from by omega];rfl
theorem IsW.quo {t:List UInt8} (h:plainW t=true):IsW (quoL t) 3 t:=by
  unfold plainW at h;rw [Bool.and_eq_true,decide_eq_true_iff] at h;refine ⟨by unfold quoL;simp,fun a r e=>(by unfold quoL at e;obtain ⟨rfl,rfl⟩:=List.cons.inj e;decide),fun r i hr=>⟨0,?_⟩⟩;show wordS (34 :: (escL t++[34]++r)) i=_
  rw [wordS_cons,if_neg (by decide),if_neg (fun x=>x.elim (fun y=>absurd y (by decide)) (fun y=>absurd y.1 (by decide))),if_pos (by decide),List.append_assoc];show qS i (quoS i (escL t++34 :: r) (i+1) [])=_
  rw [quoS_esc i t r (i+1) [] h.2,qS,if_pos rfl,if_neg (by show ¬ 60 < ([]++t).length;rw [List.nil_append];omega),if_neg (by show ¬ 60 < ([]++t).length;rw [List.nil_append];omega)];unfold quoL;simp only [List.length_cons,List.length_append,List.length_nil,List.nil_append]
  rw [show i+1+(escL t).length+1=i+((escL t).length+(0+1)+1) from by omega]
theorem Cuts.sp {R:List UInt8} {ps:List (Nat×List UInt8)} (h:Cuts R ps):Cuts (32 :: R) ps:=fun f i hf=>by
  cases f with
  | zero=>simp at hf
  | succ f =>
    rw [List.length_cons] at hf;obtain ⟨ws,j,h1,h2⟩:=h f (i+1) (by omega);exact ⟨ws,j,by rw [cutR,if_neg (by decide),if_pos (by decide)];exact h1,h2⟩
theorem Cuts.next {w R t:List UInt8} {k:Nat} {ps:List (Nat×List UInt8)} (hw:IsW w k t) (h:Cuts R ps):Cuts (w++32 :: R) ((k,t) :: ps):=Cuts.word hw (Brk.sp _) h.sp
def codeK (l:List UInt8):Nat:=match l with
  | []=>0
  | c :: _=>if isLet c=true then 1 else 2
theorem dec_len25 (u:Nat) (hu:u≤1000000000000000):(Lib.decDigits u).length≤19:=by
  rw [Lib.decDigits_length];exact nDigits_le 18 _ (by omega)
theorem num_digs (w:List UInt8) (h:w.all isDig=true):numN w=w.length:=by
  have:=num_wd w [] (digs_wd h);rw [List.append_nil] at this;exact this
theorem num_digs_pt (w:List UInt8) (c:UInt8) (r:List UInt8) (h:w.all isDig=true) (hc:isPt c=true) (hr:headDig r=true) (hn:numN r=r.length):numN (w++c :: r)=(w++c :: r).length:=by
  rw [num_wd w _ (digs_wd h),num_pt c r hc hr,hn,List.length_append,List.length_cons]
theorem digs_ne {d u:Nat} (h:0 < d):digs d u≠[]:=by
  intro e;have:=digs_length d u;rw [e] at this;simp at this;omega
theorem dgF_fits (l:List S77) (s:ByteArray) (d:Nat):∀ i:Nat,rtF l d i=true→(dgF l s d i).2=true→0≤(dgF l s d i).1∧(dgF l s d i).1≤4:=by
  induction d with
  | zero=>intro i h h2;cases h2
  | succ d ih =>
    intro i h h2;rw [rtF] at h;rw [dgF] at h2 ⊢;split at h
    · split at h
      · cases h
      rename_i a
      split at h
      · cases h
      rename_i b
      have hr:rtF l d (i+1)=true:=by
        split at h
        · split at h
          · exact h
          · cases h
        · exact h
      split at h2
      · rename_i e;rw [if_pos e];exact ⟨by omega,by omega⟩
      · rename_i e;rw [if_neg e];exact ih (i+1) hr h2
    · cases h
theorem dgL_fits {l:List S77} {s:ByteArray} (h:rtL l=true) (h2:(dgL l s).2=true):0≤(dgL l s).1∧(dgL l s).1≤4:=by
  unfold dgL at h2 ⊢;rw [if_pos h] at h2 ⊢;unfold rtL at h;split at h
  · cases h
  · exact dgF_fits l s _ 0 h h2
def unL:List (List UInt8)→List UInt8
  | []=>[]
  | l :: r=>l++10 :: unL r
theorem unL_append (a b:List (List UInt8)):unL (a++b)=unL a++unL b:=by
  induction a with
  | nil=>rfl
  | cons x a ih=>show x++10 :: unL (a++b)=_;rw [ih];simp [unL]
theorem div_unL (L:List (List UInt8)) (h:∀ l∈L,∀ c∈l,c.toNat≠10):divL (unL L)=L:=by
  unfold divL;induction L with
  | nil=>rfl
  | cons l r ih =>
    rw [unL,split_line l (h l List.mem_cons_self),ih (fun x hx=>h x (List.mem_cons_of_mem _ hx))];rfl
def openLn (op:Int) (D:Nat):List UInt8:=kwO++32 :: textL op D
def closeLn (cl:Int) (D:Nat):List UInt8:=kwC++32 :: textL cl D
def entLn (D:Nat) (l:S44):List UInt8:=kwL++32 :: (dtx l.f0++32 :: (textL l.f1 D++32 :: (quoL l.f2.data.toList++32 :: quoL l.f3.data.toList)))
theorem textS_at {a d:Int} (hd:0≤d∧d≤4) (ha:-1000000000000000≤a∧a≤1000000000000000):(textS a d).1.data.toList=textL a d.toNat:=by
  have h1:fitsB d=true:=by unfold fitsB;rw [decide_eq_true hd.1,decide_eq_true hd.2];rfl
  have h2:¬ farB a=true:=by
    unfold farB;rw [decide_eq_false (by omega),decide_eq_false (by omega)];decide
  rw [textS_eq,h1,if_neg (by decide),if_neg h2]
theorem quoteS_at {l:List UInt8} (h:plainW l=true):(quoteS l).1.data.toList=quoL l:=by unfold quoteS;rw [if_pos h];rfl
theorem lineS_ok {l:S44} {last:Int} (h:lineS l last=0):dayB l.f0=true∧(-1000000000000≤l.f1∧l.f1≤1000000000000)∧plainW l.f2.data.toList=true∧plainW l.f3.data.toList=true:=by
  refine ⟨lineS_day h,lineS_in h,?_⟩;unfold lineS at h;split at h
  · split at h
    · exact absurd h (by decide)
    split at h
    · exact absurd h (by decide)
    split at h
    · split at h
      · rename_i a
        split at h
        · rename_i b;exact ⟨a,b⟩
        · exact absurd h (by decide)
      · exact absurd h (by decide)
    · exact absurd h (by decide)
  · exact absurd h (by decide)
def OkL (l:S44):Prop:=dayB l.f0=true∧(-1000000000000≤l.f1∧l.f1≤1000000000000)∧plainW l.f2.data.toList=true∧plainW l.f3.data.toList=true
theorem lineX_list {d:Int} (hd:0≤d∧d≤4) {l:S44} (h:OkL l):(lineX d l).data.toList=entLn d.toNat l++[10]:=by
  unfold lineX stmt_Text.line entLn;simp only [ba_app]
  rw [textS_at hd (by have:=h.2.1;omega),quoteS_at h.2.2.1,quoteS_at h.2.2.2];show [108,105,110,101,32]++dtx l.f0++[32]++textL l.f1 d.toNat++[32]++quoL l.f2.data.toList++[32]++quoL l.f3.data.toList++[10]=_
  unfold kwL;simp
theorem bodyX_list {d:Int} (hd:0≤d∧d≤4) (R:List S44):(∀ x∈R,OkL x)→∀ x:ByteArray,(bodyX d R x).data.toList=x.data.toList++unL (R.map (entLn d.toNat)):=by
  induction R with
  | nil=>intro h x;show x.data.toList=x.data.toList++[];rw [List.append_nil]
  | cons l r ih =>
    intro h x;rw [bodyX,ih (fun y hy=>h y (List.mem_cons_of_mem _ hy)),ba_app,lineX_list hd (h l List.mem_cons_self),List.map_cons,unL];simp
theorem NoF.app {a b:List UInt8} (ha:NoF a) (hb:NoF b):NoF (a++b):=fun c hc=>(List.mem_append.mp hc).elim (ha c) (hb c)
theorem NoF.dig {l:List UInt8} (h:l.all isDig=true):NoF l:=fun c hc=>by
  have:=(isDig_range c).mp (List.all_eq_true.mp h c hc);omega
theorem NoF.wd {l:List UInt8} (h:l.all isWdB=true):NoF l:=fun c hc=>by
  have:=List.all_eq_true.mp h c hc;rcases isWd_or this with h | h
  · unfold isLet at h
    simp only [Bool.or_eq_true,Bool.and_eq_true,decide_eq_true_iff] at h
    omega
  · have:=(isDig_range c).mp h;omega
theorem NoF.esc (t:List UInt8):t.all isPrn=true→NoF (escL t):=by
  induction t with
  | nil=>intro h;exact NoF.nil
  | cons c t ih =>
    intro h;rw [List.all_cons,Bool.and_eq_true] at h;have hc:=(isPrn_iff c).mp h.1;rw [escL];split
    · exact NoF.cons (by decide) (NoF.cons (by omega) (ih h.2))
    · exact NoF.cons (by omega) (ih h.2)
theorem NoF.quo {t:List UInt8} (h:plainW t=true):NoF (quoL t):=by
  unfold plainW at h;rw [Bool.and_eq_true] at h;unfold quoL;exact NoF.cons (by decide) (NoF.app (NoF.esc t h.2) (NoF.cons (by decide) NoF.nil))
theorem kw_nof:NoF kwS∧NoF kwO∧NoF kwL∧NoF kwC:=by
  refine ⟨?_,?_,?_,?_⟩ <;> · unfold NoF;decide
theorem kw_isw:IsW kwS 1 kwS∧IsW kwO 1 kwO∧IsW kwL 1 kwL∧IsW kwC 1 kwC :=
  ⟨IsW.name (by decide) (by decide) (by decide),IsW.name (by decide) (by decide) (by decide),IsW.name (by decide) (by decide) (by decide),IsW.name (by decide) (by decide) (by decide)⟩
theorem codeW_len {l:List UInt8} (h:codeW l=true):l.length≤12:=by
  unfold codeW at h;simp only [Bool.and_eq_true,decide_eq_true_iff] at h
  exact h.2.1
theorem codeL_len {l:List UInt8} (h:codeL l=true):l.length=3:=by
  unfold codeL at h;simp only [Bool.and_eq_true,decide_eq_true_iff] at h
  exact h.2
theorem plainW_len {l:List UInt8} (h:plainW l=true):l.length≤60:=by
  unfold plainW at h;simp only [Bool.and_eq_true,decide_eq_true_iff] at h
  exact h.1
theorem quoL_len (l:List UInt8):(quoL l).length≤2 * l.length+2:=by
  have:=escL_len l;unfold quoL;rw [List.length_cons,List.length_append,List.length_singleton];omega
theorem mon_short {k:List UInt8} {op:Int} {D:Nat} (hk:k.length≤100) (h4:D≤4) (ho:-1000000000000000≤op∧op≤1000000000000000):(k++32 :: textL op D).length≤400:=by
  have:=textL_len op D h4 ho.1 ho.2;simp only [List.length_append,List.length_cons];omega
theorem ent_short {l:S44} {D:Nat} (h4:D≤4) (h:OkL l):(entLn D l).length≤400:=by
  have h0:=h.2.1;have h1:=textL_len l.f1 D h4 (by omega) (by omega);have h2:=plainW_len h.2.2.1;have h3:=plainW_len h.2.2.2;have h5:=quoL_len l.f2.data.toList;have h6:=quoL_len l.f3.data.toList;have h7:kwL.length=4:=rfl;have h8:(dtx l.f0).length=10:=dtext_len _ _;unfold entLn;simp only [List.length_append,List.length_cons];omega
theorem cons_word {ws:List S93} {a:Nat×List UInt8} {ps:List (Nat×List UInt8)} (h:ws.map (fun (x:S93)=>(x.f0,x.f1))=(a :: ps).map (fun p=>((p.1:Int),oL p.2))):∃ (x:S93) (r:List S93),ws=x :: r∧(x.f0=a.1∧x.f1=oL a.2)∧r.map (fun (x:S93)=>(x.f0,x.f1))=ps.map (fun p=>((p.1:Int),oL p.2)):=by
  cases ws with
  | nil=>simp at h
  | cons x r =>
    rw [List.map_cons,List.map_cons] at h;obtain ⟨h1,h2⟩:=List.cons.inj h;exact ⟨x,r,rfl,⟨congrArg Prod.fst h1,congrArg Prod.snd h1⟩,h2⟩
theorem nil_word {ws:List S93} (h:ws.map (fun (x:S93)=>(x.f0,x.f1))=([]:List (Nat×List UInt8)).map (fun p=>((p.1:Int),oL p.2))):ws=[]:=by
  cases ws with
  | nil=>rfl
  | cons x r=>simp at h
theorem two_words {ws:List S93} {a b:Nat×List UInt8} (h:ws.map (fun (x:S93)=>(x.f0,x.f1))=[a,b].map (fun p=>((p.1:Int),oL p.2))):∃ x y:S93,ws=[x,y]∧(x.f0=a.1∧x.f1=oL a.2)∧(y.f0=b.1∧y.f1=oL b.2):=by
  obtain ⟨x,r0,rfl,hx,k0⟩:=cons_word h;obtain ⟨y,r1,rfl,hy,k1⟩:=cons_word k0;obtain rfl:=nil_word k1;exact ⟨x,y,rfl,hx,hy⟩
theorem four_words {ws:List S93} {a b c d:Nat×List UInt8} (h:ws.map (fun (x:S93)=>(x.f0,x.f1))=[a,b,c,d].map (fun p=>((p.1:Int),oL p.2))):∃ x y z u:S93,ws=[x,y,z,u]∧(x.f0=a.1∧x.f1=oL a.2)∧(y.f0=b.1∧y.f1=oL b.2)∧(z.f0=c.1∧z.f1=oL c.2)∧(u.f0=d.1∧u.f1=oL d.2):=by
  obtain ⟨x,r0,rfl,hx,k0⟩:=cons_word h;obtain ⟨y,r1,rfl,hy,k1⟩:=cons_word k0;obtain ⟨z,r2,rfl,hz,k2⟩:=cons_word k1;obtain ⟨u,r3,rfl,hu,k3⟩:=cons_word k2;obtain rfl:=nil_word k3;exact ⟨x,y,z,u,rfl,hx,hy,hz,hu⟩
theorem five_words {ws:List S93} {a b c d e:Nat×List UInt8} (h:ws.map (fun (x:S93)=>(x.f0,x.f1))=[a,b,c,d,e].map (fun p=>((p.1:Int),oL p.2))):∃ x y z u v:S93,ws=[x,y,z,u,v]∧(x.f0=a.1∧x.f1=oL a.2)∧(y.f0=b.1∧y.f1=oL b.2)∧(z.f0=c.1∧z.f1=oL c.2)∧(u.f0=d.1∧u.f1=oL d.2)∧(v.f0=e.1∧v.f1=oL e.2):=by
  obtain ⟨x,r0,rfl,hx,k0⟩:=cons_word h;obtain ⟨y,r1,rfl,hy,k1⟩:=cons_word k0;obtain ⟨z,r2,rfl,hz,k2⟩:=cons_word k1;obtain ⟨u,r3,rfl,hu,k3⟩:=cons_word k2;obtain ⟨v,r4,rfl,hv,k4⟩:=cons_word k3;obtain rfl:=nil_word k4;exact ⟨x,y,z,u,v,rfl,hx,hy,hz,hu,hv⟩
theorem codeK_kind {l:List UInt8} (h:codeW l=true):kOk 1 (codeK l:Int)=true:=by
  cases l with
  | nil=>exact absurd h (by decide)
  | cons c r =>
    have:codeK (c :: r)=1∨codeK (c :: r)=2:=by
      show (if isLet c=true then 1 else 2)=1∨(if isLet c=true then 1 else 2)=2
      split
      · exact Or.inl rfl
      · exact Or.inr rfl
    unfold kOk;rw [decide_eq_true_iff];omega
theorem step_of {cs:List S77} {p:PSt} {l:List UInt8} {ws:List S93} {j:Int} (h:cutW l=(ws,j,0)) (hn:0 < ws.length):stepS cs p l=moveS cs p ws:=by
  unfold stepS;rw [h,if_pos rfl,if_pos hn]
theorem inS_at {n b:Int} (h:inS n b=true):-b≤n∧n≤b:=by unfold inS at h;rwa [decide_eq_true_iff] at h
theorem check_okl {acc cur:ByteArray} {no op cl:Int} {ls:List S44} (h:checkS acc cur no op cl ls=0):∀ x∈ls,OkL x:=fun x hx=>by
  obtain ⟨c1,c2,c3,c4,c5,c6⟩:=checkS_ok h;obtain ⟨l,hl⟩:=checkL_lines cl ls 0 op c6 x hx;exact lineS_ok hl
theorem parse_valid {cs:List S77} {t:List UInt8} (h:(parseS t cs).2.2.2.2.2.2.2=0):rtL cs=true∧checkS (parseS t cs).1 (parseS t cs).2.1 (parseS t cs).2.2.1 (parseS t cs).2.2.2.1 (parseS t cs).2.2.2.2.1 (parseS t cs).2.2.2.2.2.1=0∧(dgL cs (parseS t cs).2.1).2=true:=by
  unfold parseS at h ⊢;by_cases r:rtL cs=true
  · rw [if_pos r] at h ⊢
    refine ⟨r,?_⟩;have hi:=goS_inv (cs:=cs) (divL t) (Inv.zero cs);generalize goS cs pst0 (divL t) 0=q at h hi ⊢;unfold endS at h ⊢;by_cases e:q.2.1=0
    · rw [if_pos e] at h ⊢
      unfold finS at h ⊢;by_cases f:q.1.part=3
      · rw [if_pos f] at h ⊢
        by_cases g:chkS q.1=0
        · rw [if_pos g]
          exact ⟨g,(hi.dg (by rw [f];decide)).1⟩
        · rw [if_neg g] at h;exact absurd h g
      · rw [if_neg f] at h;exact absurd (show (6:Int)=0 from h) (by decide)
    · rw [if_neg e] at h;exact absurd h e
  · rw [if_neg r] at h;exact absurd h (by decide)
theorem parseS_short {cs:List S77} {t:List UInt8}:(parseS t cs).1.size≤60∧(parseS t cs).2.1.size≤60∧Short (parseS t cs).2.2.2.2.2.1:=by
  rcases parse_cases t cs with ⟨n,e,h⟩ | ⟨p,hp,h⟩
  · rw [h];exact ⟨Nat.zero_le _,Nat.zero_le _,fun x hx=>(by cases hx)⟩
  · rw [h];exact ⟨hp.acc,hp.cur,hp.short⟩
end Go.Proofs.YtmlcdpfcafmmcaaDoor.A
namespace Go.Proofs.YtmlcdpfcafmmcaaDoor.A
open Go.RowKit B WW WL WM
theorem decDigits_not_minus (u:Nat):negOf (Lib.decDigits u)=false:=by
  obtain ⟨_,h2,h3,_⟩:=decDigits_spec u
  cases hl:Lib.decDigits u with
  | nil=>rfl
  | cons c r =>
    rw [hl,List.all_cons,Bool.and_eq_true] at h2;have:=(isDig_iff c).mp h2.1;unfold negOf;rw [List.head?_cons,beq_eq_false_iff_ne];intro h;injection h with h
    subst h;have:((45:UInt8).toNat:Int)=45:=rfl;omega
theorem parse_itoa (n lo hi:Int) (h:I64 n) (hl:lo≤n) (hh:n≤hi):parseL (Lib.itoa n) lo hi=(n,0):=by
  rw [parseL_eq];obtain ⟨h1,h2,h3,h4⟩:=decDigits_spec n.natAbs;by_cases h0:n < 0
  · rw [itoa_neg' h0]
    have hn:negOf (45 :: Lib.decDigits n.natAbs)=true:=rfl;have hm:magOf (45 :: Lib.decDigits n.natAbs)=Lib.decDigits n.natAbs:=by simp [magOf,hn]
    have hf:formedM (Lib.decDigits n.natAbs) true=true:=by
      unfold formedM;rw [h2,Bool.and_true,Bool.and_eq_true];refine ⟨by simpa using h3,?_⟩;rw [Bool.true_or,Bool.and_true,Bool.not_eq_true',beq_eq_false_iff_ne];intro hh2;have:=(h4 hh2).1;omega
    have hv:sgn true (dval (Lib.decDigits n.natAbs))=n:=by rw [h1];simp [sgn];omega
    rw [hm,hn,hf,hv,if_pos rfl,if_pos ⟨h,hl,hh⟩]
  · rw [itoa_pos h0]
    have hn:=decDigits_not_minus n.natAbs;have hm:magOf (Lib.decDigits n.natAbs)=Lib.decDigits n.natAbs:=by simp [magOf,hn]
    have hf:formedM (Lib.decDigits n.natAbs) false=true:=by
      unfold formedM;rw [h2,Bool.and_true,Bool.and_eq_true];refine ⟨by simpa using h3,?_⟩;rw [Bool.false_or,Bool.not_eq_true',Bool.and_eq_false_iff];by_cases hh2:(Lib.decDigits n.natAbs).head?=some 48
      · right
        rw [(h4 hh2).2];rfl
      · left
        rw [beq_eq_false_iff_ne];exact hh2
    have hv:sgn false (dval (Lib.decDigits n.natAbs))=n:=by rw [h1];simp [sgn];omega
    rw [hm,hn,hf,hv,if_pos rfl,if_pos ⟨h,hl,hh⟩]
theorem digs_all:∀ d u,(digs d u).all isDig=true
  | 0,_=>rfl
  | d+1,u=>by rw [digs,List.all_append,digs_all d,Bool.true_and];show (isDig _ && true)=true;rw [isDig_ofNat (u % 10) (Nat.mod_lt _ (by decide))];rfl
theorem plainL_val:∀ l,dval (plainL l)=dval l
  | []=>rfl
  | c :: r=>by
    unfold plainL;split
    · rename_i h
      rw [plainL_val r,h.1];rfl
    · rfl
end Go.Proofs.YtmlcdpfcafmmcaaDoor.A
namespace Go.Proofs.YtmlcdpfcafmmcaaDoor.A
open Go.RowKit B WW WL WM
theorem dval_digs:∀ (d u:Nat) (l:List UInt8),dval (l++digs d u)=dval l * 10 ^ d+u % 10 ^ d
  | 0,u,l=>by rw [digs,List.append_nil,Nat.pow_zero,Nat.mul_one,Nat.mod_one,Nat.add_zero]
  | d+1,u,l=>by
    rw [digs,← List.append_assoc,dval_snoc_digit _ _ (Nat.mod_lt _ (by decide)),dval_digs d (u / 10) l,Nat.pow_succ,Nat.mul_comm (10 ^ d) 10,Nat.mod_mul,Nat.mul_add,← Nat.mul_assoc,Nat.mul_comm 10 (dval l)];rw [Nat.mul_assoc];omega
theorem textL_form (x d:Nat):refForm (Lib.decDigits (x / 10 ^ d)++(if d=0 then [] else 46 :: digs d x)) d=some (Lib.decDigits (x / 10 ^ d),digs d x):=by
  obtain ⟨_,h2,h3,_⟩:=decDigits_spec (x / 10 ^ d);have hlen:=dec_len_pos (x / 10 ^ d);generalize Lib.decDigits (x / 10 ^ d)=w at *;unfold refForm;by_cases h0:d=0
  · subst h0
    rw [if_pos rfl,if_pos rfl,List.append_nil,if_pos ⟨h2,h3⟩];rfl
  · rw [if_neg h0,if_neg h0]
    have hl:(w++46 :: digs d x).length=w.length+d+1:=by rw [List.length_append,List.length_cons,digs_length];omega
    have hn:(w++46 :: digs d x).length - d - 1=w.length:=by omega
    rw [hn,hl];have ht:(w++46 :: digs d x).take w.length=w:=List.take_left;have hd:(w++46 :: digs d x).drop (w.length+1)=digs d x:=by rw [← List.drop_drop,List.drop_left];rfl
    rw [ht,hd,if_pos ⟨by omega,by simp,h2,digs_all d x⟩]
theorem parse_text (a:Int) (D:Nat) (h4:D≤4) (h0:-1000000000000000≤a) (h1:a≤1000000000000000):parseM (textL a D) (D:Int)=(a,0):=by
  unfold parseM;rw [if_neg (by rw [Bool.not_eq_false,fitsB_iff];omega),Int.toNat_natCast];obtain ⟨e1,e2,e3,e4⟩:=decDigits_spec (a.natAbs / 10 ^ D)
  have hneg:negOf (textL a D)=decide (a < 0)∧magOf (textL a D)=Lib.decDigits (a.natAbs / 10 ^ D)++(if D=0 then [] else 46 :: digs D a.natAbs):=by
    unfold textL;by_cases hn:a < 0
    · rw [if_pos hn,decide_eq_true hn];exact ⟨rfl,rfl⟩
    · rw [if_neg hn,decide_eq_false hn,List.nil_append]
      have:negOf (Lib.decDigits (a.natAbs / 10 ^ D)++(if D=0 then [] else 46 :: digs D a.natAbs))=false:=by
        have:=decDigits_not_minus (a.natAbs / 10 ^ D);unfold negOf at this ⊢
        cases hl:Lib.decDigits (a.natAbs / 10 ^ D) with
        | nil=>exact absurd hl e3
        | cons c r=>rw [hl] at this;exact this
      refine ⟨this,?_⟩;unfold magOf;rw [this];rfl
  rw [hneg.1,hneg.2];unfold formM;rw [textL_form];dsimp only
  rw [if_pos]
  · have hv:dval (plainL (Lib.decDigits (a.natAbs / 10 ^ D)++digs D a.natAbs))=a.natAbs:=by
      rw [plainL_val,dval_digs,e1];have:=Nat.div_add_mod a.natAbs (10 ^ D);rw [Nat.mul_comm] at this;exact this
    unfold parseCore;rw [hv,if_neg,if_pos (by omega)]
    · unfold sgn
      by_cases hn:a < 0
      · rw [decide_eq_true hn,if_pos rfl];congr 1;omega
      · rw [decide_eq_false hn,if_neg (by decide)];congr 1;omega
    · rintro ⟨n1,n2⟩
      rw [n2] at hv;have:a < 0:=of_decide_eq_true n1;have hz:dval [48]=0:=rfl;omega
  · rw [plainL_same_iff]
    rintro ⟨l1,l2⟩;have:=e4 l2;omega
end Go.Proofs.YtmlcdpfcafmmcaaDoor.A
namespace Go.Proofs.YtmlcdpfcafmmcaaDoor.WW
open Go.RowKit
namespace Foot
variable {P Q:World→Prop} {W W1:World} {ok ok':Nat→Prop}
theorem imp (h:Foot P W ok) (hi:∀ W',P W'→Q W'):Foot Q W ok:=fun W' hW=>hi W' (h W' hW)
end Foot
end Go.Proofs.YtmlcdpfcafmmcaaDoor.WW
namespace Go.Proofs.YtmlcdpfcafmmcaaDoor.A
open Go.RowKit B WW WL WM
theorem dval_digs0 (d u:Nat):dval (digs d u)=u % 10 ^ d:=by
  have:=dval_digs d u [];rw [List.nil_append,dval_nil,Nat.zero_mul,Nat.zero_add] at this;exact this
theorem dparse_dtext (K:Nat) (n:Int) (hK:K < 3600) (ha:first K≤n) (hb:n < first (K+1)):dparse (dtext K n)=(n,0):=by
  have hd:=day_small hK ha hb;have hs:first (K+1)=first K+lenK K:=rfl
  have hl:=dtext_len K n;unfold dparse;obtain ⟨D,hD⟩:∃ D,D=(n - first K+1).toNat:=⟨_,rfl⟩
  have hD2:1≤D∧D≤31:=by omega
  have p4:(dtext K n).take 4=digs 4 (1900+K / 12):=take_app _ _ 4 (digs_length _ _);have q4:(dtext K n).drop 4=45 :: (digs 2 (K % 12+1)++45 :: digs 2 D):=by rw [hD];exact drop_app _ _ 4 (digs_length _ _)
  have q5:(dtext K n).drop 5=digs 2 (K % 12+1)++45 :: digs 2 D:=by rw [show 5=4+1 from rfl,← List.drop_drop,q4];rfl
  have q7:(dtext K n).drop 7=45 :: digs 2 D:=by rw [show 7=5+2 from rfl,← List.drop_drop,q5];exact drop_app _ _ 2 (digs_length _ _)
  have q8:(dtext K n).drop 8=digs 2 D:=by rw [show 8=7+1 from rfl,← List.drop_drop,q7];rfl
  have p57:((dtext K n).take 7).drop 5=digs 2 (K % 12+1):=by rw [List.drop_take,q5];exact take_app _ _ 2 (digs_length _ _)
  have g4:(dtext K n).getD 4 0=45:=by
    rw [List.getD_eq_getElem?_getD,← List.head?_drop,q4];rfl
  have g7:(dtext K n).getD 7 0=45:=by
    rw [List.getD_eq_getElem?_getD,← List.head?_drop,q7];rfl
  have hDP:DP (dtext K n):=⟨hl,g4,g7,by rw [p4];exact digs_all _ _,by rw [p57];exact digs_all _ _,by rw [q8];exact digs_all _ _⟩
  rw [if_pos hDP,p4,p57,q8,dval_digs0,dval_digs0,dval_digs0];rw [Nat.mod_eq_of_lt (show 1900+K / 12 < 10 ^ 4 by omega),Nat.mod_eq_of_lt (show K % 12+1 < 10 ^ 2 by omega),Nat.mod_eq_of_lt (show D < 10 ^ 2 by omega)];unfold ofS;have e:12 * (1900+K / 12 - 1900)+(K % 12+1 - 1)=K:=by omega
  have hy:ymS (1900+K / 12) (K % 12+1)=lenK K:=by
    unfold ymS lenK;rw [if_pos (by omega),show 1900+K / 12 - 1900=K / 12 by omega,show K % 12+1 - 1=K % 12 by omega]
  rw [if_pos ⟨by omega,by omega,by omega,by rw [hy];omega⟩,e];congr 1;omega
theorem dparse_dtx {n:Int} (h:dayB n=true):dparse (dtx n)=(n,0):=by
  obtain ⟨a,b,c,d⟩:=day_mon h;exact dparse_dtext _ n a c d
theorem IsW.num {c:UInt8} {w:List UInt8} (hc:isDig c=true∨(c.toNat=45∧headDig w=true)) (hw:numN w=w.length) (hl:w.length≤59):IsW (c :: w) 2 (c :: w):=by
  have hx:c.toNat≠35∧c.toNat≠32:=by
    rcases hc with hc | hc
    · have:=(isDig_range c).mp hc;omega
    · omega
  have hnl:¬ isLet c=true:=by
    intro h;unfold isLet at h;simp only [Bool.or_eq_true,Bool.and_eq_true,decide_eq_true_iff] at h
    rcases hc with hc | hc
    · have:=(isDig_range c).mp hc;omega
    · omega
  refine ⟨by simp,fun a r h=>(by obtain ⟨rfl,rfl⟩:=List.cons.inj h;exact hx),fun r i hr=>⟨0,?_⟩⟩;show wordS (c :: (w++r)) i=_
  have hc':isDig c=true∨(c.toNat=45∧headDig (w++r)=true):=hc.imp id (fun h=>⟨h.1,headDig_app r h.2⟩);rw [wordS_cons,if_neg hnl,if_pos hc',num_app w hw r hr,gS,if_neg (by omega),if_neg (by omega)];rw [show (c :: (w++r)).take (w.length+1)=c :: w from by rw [List.take_succ_cons,List.take_left]];rfl
theorem IsW.code {l:List UInt8} (h:codeW l=true):IsW l (codeK l) l:=by
  unfold codeW at h;simp only [Bool.and_eq_true,decide_eq_true_iff] at h
  cases l with
  | nil=>exact absurd h.1 (by decide)
  | cons c w =>
    obtain ⟨h1,h2,h3⟩:=h;rw [List.all_cons,Bool.and_eq_true] at h3;rw [List.length_cons] at h2;unfold codeK;by_cases e:isLet c=true
    · show IsW _ (if isLet c=true then 1 else 2) _
      rw [if_pos e];exact IsW.name e h3.2 (by omega)
    · show IsW _ (if isLet c=true then 1 else 2) _
      rw [if_neg e];have d:isDig c=true:=(isWd_or h3.1).resolve_left e;refine IsW.num (Or.inl d) ?_ (by omega);have:=num_wd w [] h3.2;rw [List.append_nil] at this;exact this
theorem IsW.numD {w:List UInt8} (hd:headDig w=true) (hw:numN w=w.length) (hl:w.length≤60):IsW w 2 w:=by
  cases w with
  | nil=>cases hd
  | cons c w =>
    have hd':isDig c=true:=hd;rw [List.length_cons] at hl;refine IsW.num (Or.inl hd') ?_ (by omega);have e:isPt c=false:=isLet_pt (Or.inr hd');rw [numN,if_neg (by rw [e];decide),if_pos (Or.inr hd'),List.length_cons] at hw;omega
theorem IsW.numM {w:List UInt8} (hd:headDig w=true) (hw:numN w=w.length) (hl:w.length≤59):IsW (45 :: w) 2 (45 :: w):=IsW.num (Or.inr ⟨rfl,hd⟩) hw hl
theorem IsW.itoa {n:Int} (h:1≤n∧n≤4000):IsW (Lib.itoa n) 2 (Lib.itoa n):=by
  obtain ⟨u,rfl⟩:=Int.eq_ofNat_of_zero_le (show 0≤n by omega);rw [itoa_nat];obtain ⟨h1,h2,h3,h4⟩:=decDigits_spec u;have:=dec_len25 u (by omega);exact IsW.numD (headDig_all h2 h3) (num_digs _ h2) (by omega)
theorem IsW.mon (a:Int) (D:Nat) (h4:D≤4) (h0:-1000000000000000≤a) (h1:a≤1000000000000000):IsW (textL a D) 2 (textL a D):=by
  unfold textL;obtain ⟨d1,d2,d3,d4⟩:=decDigits_spec (a.natAbs / 10 ^ D);have hle:=Nat.div_le_self a.natAbs (10 ^ D);have hl:=dec_len25 (a.natAbs / 10 ^ D) (by omega)
  have key:∃ w,Lib.decDigits (a.natAbs / 10 ^ D)++(if D=0 then [] else 46 :: digs D a.natAbs)=w∧headDig w=true∧numN w=w.length∧w.length≤59:=by
    refine ⟨_,rfl,headDig_app _ (headDig_all d2 d3),?_,?_⟩
    · by_cases e:D=0
      · rw [if_pos e,List.append_nil];exact num_digs _ d2
      · rw [if_neg e]
        refine num_digs_pt _ 46 _ d2 (by decide) (headDig_all (digs_all _ _) ?_) (num_digs _ (digs_all _ _));intro h;have:=digs_length D a.natAbs;rw [h] at this;exact e this.symm
    · rw [List.length_append]
      have:(if D=0 then [] else 46 :: digs D a.natAbs).length≤5:=by
        split
        · simp
        · rw [List.length_cons,digs_length];omega
      omega
  obtain ⟨w,hw,k1,k2,k3⟩:=key;rw [hw];by_cases n:a < 0
  · rw [if_pos n];exact IsW.numM k1 k2 k3
  · rw [if_neg n,List.nil_append];exact IsW.numD k1 k2 (by omega)
theorem IsW.day (n:Int):IsW (dtx n) 2 (dtx n):=by
  unfold dtx dtext;have e1:headDig (digs 2 (monIx 3600 n % 12+1)++45 :: digs 2 (n - first (monIx 3600 n)+1).toNat)=true:=headDig_app _ (headDig_all (digs_all _ _) (digs_ne (by omega)));refine IsW.numD (headDig_app _ (headDig_all (digs_all _ _) (digs_ne (by omega)))) ?_ ?_
  · exact num_digs_pt _ 45 _ (digs_all _ _) (by decide) e1 (num_digs_pt _ 45 _ (digs_all _ _) (by decide) (headDig_all (digs_all _ _) (digs_ne (by omega))) (num_digs _ (digs_all _ _)))
  · simp only [List.length_append,List.length_cons,digs_length];omega
def headLn (acc cur:List UInt8) (no:Int):List UInt8:=kwS++32 :: (acc++32 :: (cur++32 :: Lib.itoa no))
def allLn (acc cur:List UInt8) (no op cl:Int) (ls:List S44) (D:Nat):List (List UInt8):=headLn acc cur no :: openLn op D :: (ls.map (entLn D)++[closeLn cl D])
theorem textX_list {acc cur:ByteArray} {no op cl:Int} {ls:List S44} {d:Int} (hd:0≤d∧d≤4) (ho:-1000000000000000≤op∧op≤1000000000000000) (hc:-1000000000000000≤cl∧cl≤1000000000000000) (hl:∀ x∈ls,OkL x) :
    (textX acc cur no op cl ls d).data.toList=unL (allLn acc.data.toList cur.data.toList no op cl ls d.toNat):=by
  unfold textX stmt_Text.tail;simp only [ba_app]
  rw [bodyX_list hd ls hl,textS_at hd hc];unfold stmt_Text.head;simp only [ba_app]
  rw [textS_at hd ho];show [115,116,97,116,101,109,101,110,116,32]++acc.data.toList++[32]++cur.data.toList++[32]++Lib.itoa no++[10,111,112,101,110,32]++textL op d.toNat++[10]++unL (ls.map (entLn d.toNat))++[99,108,111,115,101,32]++textL cl d.toNat++[10]=_
  unfold allLn headLn openLn closeLn;rw [unL,unL,unL_append,unL,unL];unfold kwS kwO kwC;simp
theorem NoF.code {l:List UInt8} (h:codeW l=true):NoF l:=by
  unfold codeW at h;simp only [Bool.and_eq_true] at h
  exact NoF.wd h.2.2
theorem NoF.itoa {n:Int} (h:1≤n∧n≤4000):NoF (Lib.itoa n):=by
  obtain ⟨u,rfl⟩:=Int.eq_ofNat_of_zero_le (show 0≤n by omega);rw [itoa_nat];exact NoF.dig (decDigits_spec u).2.1
theorem NoF.mon (a:Int) (D:Nat):NoF (textL a D):=by
  unfold textL;refine NoF.app ?_ (NoF.app (NoF.dig (decDigits_spec _).2.1) ?_)
  · split
    · exact NoF.cons (by decide) NoF.nil
    · exact NoF.nil
  · split
    · exact NoF.nil
    · exact NoF.cons (by decide) (NoF.dig (digs_all _ _))
theorem NoF.day (n:Int):NoF (dtx n):=by
  unfold dtx dtext;exact NoF.app (NoF.dig (digs_all _ _)) (NoF.cons (by decide) (NoF.app (NoF.dig (digs_all _ _)) (NoF.cons (by decide) (NoF.dig (digs_all _ _)))))
theorem NoF.head {acc cur:List UInt8} {no:Int} (ha:codeW acc=true) (hc:codeL cur=true) (hn:1≤no∧no≤4000):NoF (headLn acc cur no) :=
  NoF.app kw_nof.1 (NoF.cons (by decide) (NoF.app (NoF.code ha) (NoF.cons (by decide) (NoF.app (NoF.cur hc) (NoF.cons (by decide) (NoF.itoa hn))))))
theorem NoF.ent {D:Nat} {l:S44} (h:OkL l):NoF (entLn D l) :=
  NoF.app kw_nof.2.2.1 (NoF.cons (by decide) (NoF.app (NoF.day _) (NoF.cons (by decide) (NoF.app (NoF.mon _ _) (NoF.cons (by decide) (NoF.app (NoF.quo h.2.2.1) (NoF.cons (by decide) (NoF.quo h.2.2.2))))))))
theorem all_nof {acc cur:List UInt8} {no op cl:Int} {ls:List S44} {D:Nat} (ha:codeW acc=true) (hc:codeL cur=true) (hn:1≤no∧no≤4000) (hl:∀ x∈ls,OkL x):∀ l∈allLn acc cur no op cl ls D,∀ c∈l,c.toNat≠10:=by
  intro l h;unfold allLn at h;rcases List.mem_cons.mp h with rfl | h
  · exact NoF.head ha hc hn
  rcases List.mem_cons.mp h with rfl | h
  · exact NoF.app kw_nof.2.1 (NoF.cons (by decide) (NoF.mon _ _))
  rcases List.mem_append.mp h with h | h
  · obtain ⟨x,hx,rfl⟩:=List.mem_map.mp h
    exact NoF.ent (hl x hx)
  · rw [List.mem_singleton] at h;subst h
    exact NoF.app kw_nof.2.2.2 (NoF.cons (by decide) (NoF.mon _ _))
theorem cuts_head {acc cur:List UInt8} {no:Int} (ha:codeW acc=true) (hc:codeL cur=true) (hn:1≤no∧no≤4000):Cuts (headLn acc cur no) [(1,kwS),(codeK acc,acc),(1,cur),(2,Lib.itoa no)] :=
  Cuts.next kw_isw.1 (Cuts.next (IsW.code ha) (Cuts.next (IsW.cur hc) (Cuts.last (IsW.itoa hn))))
theorem cuts_open {op:Int} {D:Nat} (h4:D≤4) (ho:-1000000000000000≤op∧op≤1000000000000000):Cuts (openLn op D) [(1,kwO),(2,textL op D)] :=
  Cuts.next kw_isw.2.1 (Cuts.last (IsW.mon op D h4 ho.1 ho.2))
theorem cuts_close {op:Int} {D:Nat} (h4:D≤4) (ho:-1000000000000000≤op∧op≤1000000000000000):Cuts (closeLn op D) [(1,kwC),(2,textL op D)] :=
  Cuts.next kw_isw.2.2.2 (Cuts.last (IsW.mon op D h4 ho.1 ho.2))
theorem cuts_ent {l:S44} {D:Nat} (h4:D≤4) (h:OkL l):Cuts (entLn D l) [(1,kwL),(2,dtx l.f0),(2,textL l.f1 D),(3,l.f2.data.toList),(3,l.f3.data.toList)] :=
  Cuts.next kw_isw.2.2.1 (Cuts.next (IsW.day _) (Cuts.next (IsW.mon l.f1 D h4 (by have:=h.2.1;omega) (by have:=h.2.1;omega)) (Cuts.next (IsW.quo h.2.2.1) (Cuts.last (IsW.quo h.2.2.2)))))
theorem head_short {acc cur:List UInt8} {no:Int} (ha:codeW acc=true) (hc:codeL cur=true) (hn:1≤no∧no≤4000):(headLn acc cur no).length≤400:=by
  have h1:=codeW_len ha;have h2:=codeL_len hc
  have h3:(Lib.itoa no).length≤20:=by
    have:=itoa_size no (by unfold I64;omega);exact this
  have h4:kwS.length=9:=rfl;unfold headLn;simp only [List.length_append,List.length_cons];omega
theorem step_head {cs:List S77} {acc cur:ByteArray} {no:Int} (ha:codeW acc.data.toList=true) (hc:codeL cur.data.toList=true) (hn:1≤no∧no≤4000) (hd:(dgL cs cur).2=true) :
    stepS cs pst0 (headLn acc.data.toList cur.data.toList no)=(⟨(dgL cs cur).1,1,acc,cur,no,0,0,[]⟩,0):=by
  obtain ⟨ws,j,h1,h2⟩:=(cuts_head (no:=no) ha hc hn).cutW (head_short ha hc hn);obtain ⟨x,y,z,u,rfl,hx,hy,hz,hu⟩:=four_words h2;rw [step_of h1 (Nat.succ_pos _)];unfold moveS;have hx0:(rd_T93 [x,y,z,u] 0).f0=1:=hx.1;have hx1:(rd_T93 [x,y,z,u] 0).f1.data.toList=kwS:=congrArg (fun s=>s.data.toList) hx.2
  have hs:shapedS [x,y,z,u] kwS [1,1,2]=true:=by
    rw [shapedS_yes ⟨hx0,hx1,rfl⟩];show (kOk 1 y.f0 && (kOk 1 z.f0 && (kOk 2 u.f0 && true)))=true
    rw [hy.1,hz.1,hu.1,codeK_kind ha];rfl
  rw [if_pos ⟨rfl,hs⟩];have e1:wB [x,y,z,u] 1=acc:=hy.2;have e2:wB [x,y,z,u] 2=cur:=hz.2;have e3:wB [x,y,z,u] 3=oL (Lib.itoa no):=hu.2;unfold headS;rw [e1,e2,e3,if_pos ha,if_pos hd,oL_list,parse_itoa no 1 4000 (by unfold I64;omega) hn.1 hn.2];rfl
theorem step_open {cs:List S77} {p:PSt} {op:Int} (hp:p.part=1) (hd:0≤p.dg∧p.dg≤4) (ho:-1000000000000000≤op∧op≤1000000000000000) :
    stepS cs p (openLn op p.dg.toNat)=({ p with part:=2,op:=op },0):=by
  have h4:p.dg.toNat≤4:=by omega
  obtain ⟨ws,j,h1,h2⟩:=(cuts_open h4 ho).cutW (mon_short (by decide) h4 ho);obtain ⟨x,y,rfl,hx,hy⟩:=two_words h2;rw [step_of h1 (Nat.succ_pos _)];unfold moveS;have hx0:(rd_T93 [x,y] 0).f0=1:=hx.1;have hx1:(rd_T93 [x,y] 0).f1.data.toList=kwO:=congrArg (fun s=>s.data.toList) hx.2
  have hs:shapedS [x,y] kwO [2]=true:=by
    rw [shapedS_yes ⟨hx0,hx1,rfl⟩];show (kOk 2 y.f0 && true)=true
    rw [hy.1];rfl
  have e1:wB [x,y] 1=oL (textL op p.dg.toNat):=hy.2;have e2:((p.dg.toNat:Nat):Int)=p.dg:=by omega
  have e3:=parse_text op p.dg.toNat h4 ho.1 ho.2;rw [e2] at e3;rw [if_neg (fun h=>by rw [hp] at h;exact absurd h.1 (by decide)),if_pos ⟨hp,hs⟩,e1,oL_list,e3]
theorem step_ent {cs:List S77} {p:PSt} {l:S44} (hp:p.part=2) (hd:0≤p.dg∧p.dg≤4) (h:OkL l) :
    stepS cs p (entLn p.dg.toNat l)=({ p with ls:=p.ls++[l] },0):=by
  have h4:p.dg.toNat≤4:=by omega
  obtain ⟨ws,j,h1,h2⟩:=(cuts_ent h4 h).cutW (ent_short h4 h);obtain ⟨x,y,z,u,v,rfl,hx,hy,hz,hu,hv⟩:=five_words h2;rw [step_of h1 (Nat.succ_pos _)];unfold moveS;have hx0:(rd_T93 [x,y,z,u,v] 0).f0=1:=hx.1;have hx1:(rd_T93 [x,y,z,u,v] 0).f1.data.toList=kwL:=congrArg (fun s=>s.data.toList) hx.2
  have hs:shapedS [x,y,z,u,v] kwL [2,2,3,3]=true:=by
    rw [shapedS_yes ⟨hx0,hx1,rfl⟩];show (kOk 2 y.f0 && (kOk 2 z.f0 && (kOk 3 u.f0 && (kOk 3 v.f0 && true))))=true
    rw [hy.1,hz.1,hu.1,hv.1];rfl
  have e1:wB [x,y,z,u,v] 1=oL (dtx l.f0):=hy.2;have e2:wB [x,y,z,u,v] 2=oL (textL l.f1 p.dg.toNat):=hz.2;have e3:wB [x,y,z,u,v] 3=l.f2:=hu.2;have e4:wB [x,y,z,u,v] 4=l.f3:=hv.2;have e5:((p.dg.toNat:Nat):Int)=p.dg:=by omega
  have e6:=parse_text l.f1 p.dg.toNat h4 (by have:=h.2.1;omega) (by have:=h.2.1;omega);rw [e5] at e6;rw [if_neg (fun h=>by rw [hp] at h;exact absurd h.1 (by decide)),if_neg (fun h=>by rw [hp] at h;exact absurd h.1 (by decide)),if_pos ⟨hp,hs⟩];unfold entryS;rw [e1,e2,e3,e4,oL_list,oL_list,e6,dparse_dtx h.1,if_pos rfl]
theorem step_close {cs:List S77} {p:PSt} {cl:Int} (hp:p.part=2) (hd:0≤p.dg∧p.dg≤4) (ho:-1000000000000000≤cl∧cl≤1000000000000000) :
    stepS cs p (closeLn cl p.dg.toNat)=({ p with part:=3,cl:=cl },0):=by
  have h4:p.dg.toNat≤4:=by omega
  obtain ⟨ws,j,h1,h2⟩:=(cuts_close h4 ho).cutW (mon_short (by decide) h4 ho);obtain ⟨x,y,rfl,hx,hy⟩:=two_words h2;rw [step_of h1 (Nat.succ_pos _)];unfold moveS;have hx0:(rd_T93 [x,y] 0).f0=1:=hx.1;have hx1:(rd_T93 [x,y] 0).f1.data.toList=kwC:=congrArg (fun s=>s.data.toList) hx.2
  have hs:shapedS [x,y] kwC [2]=true:=by
    rw [shapedS_yes ⟨hx0,hx1,rfl⟩];show (kOk 2 y.f0 && true)=true
    rw [hy.1];rfl
  have hn:¬ (p.part=2∧shapedS [x,y] kwL [2,2,3,3]=true):=fun h=>by
    have:2=5:=shapedS_len h.2;exact absurd this (by decide)
  have e1:wB [x,y] 1=oL (textL cl p.dg.toNat):=hy.2;have e2:((p.dg.toNat:Nat):Int)=p.dg:=by omega
  have e3:=parse_text cl p.dg.toNat h4 ho.1 ho.2;rw [e2] at e3;rw [if_neg (fun h=>by rw [hp] at h;exact absurd h.1 (by decide)),if_neg (fun h=>by rw [hp] at h;exact absurd h.1 (by decide)),if_neg hn,if_pos ⟨hp,hs⟩,e1,oL_list,e3]
theorem go_ents {cs:List S77} (R:List S44):∀ (p:PSt) (i:Nat) (T:List (List UInt8)),p.part=2→(0≤p.dg∧p.dg≤4)→(∀ x∈R,OkL x) →
    goS cs p (R.map (entLn p.dg.toNat)++T) i=goS cs { p with ls:=p.ls++R } T (i+R.length):=by
  induction R with
  | nil=>intro p i T hp hd h;show goS cs p T i=_;rw [List.append_nil];rfl
  | cons l r ih =>
    intro p i T hp hd h;show goS cs p (entLn p.dg.toNat l :: (r.map (entLn p.dg.toNat)++T)) i=_
    rw [goS,step_ent hp hd (h l List.mem_cons_self),if_pos rfl];have:=ih { p with ls:=p.ls++[l] } (i+1) T hp hd (fun x hx=>h x (List.mem_cons_of_mem _ hx));rw [show i+(l :: r).length=i+1+r.length from by rw [List.length_cons];omega];rw [show p.ls++l :: r=(p.ls++[l])++r from by simp];exact this
theorem parse_textX {cs:List S77} {acc cur:ByteArray} {no op cl:Int} {ls:List S44} (hr:rtL cs=true) (hk:checkS acc cur no op cl ls=0) (hd:(dgL cs cur).2=true) :
    parseS (textX acc cur no op cl ls (dgL cs cur).1).data.toList cs=(acc,cur,no,op,cl,ls,0,0):=by
  have hl:=check_okl hk;obtain ⟨c1,c2,c3,c4,c5,c6⟩:=checkS_ok hk;have hf:=dgL_fits hr hd;have ho:=inS_at c4.1;have hc:=inS_at c4.2;rw [textX_list hf ho hc hl];unfold parseS;rw [if_pos hr,div_unL _ (all_nof c1 c2 c3 hl)];unfold allLn;rw [goS,step_head c1 c2 c3 hd,if_pos rfl,goS,step_open (p:=⟨(dgL cs cur).1,1,acc,cur,no,0,0,[]⟩) rfl hf ho,if_pos rfl];have:=go_ents (cs:=cs) ls ⟨(dgL cs cur).1,2,acc,cur,no,op,0,[]⟩ (0+1+1) [closeLn cl (dgL cs cur).1.toNat] rfl hf hl;rw [List.nil_append] at this;rw [this,goS,step_close (p:=⟨(dgL cs cur).1,2,acc,cur,no,op,0,ls⟩) rfl hf hc,if_pos rfl,goS];unfold endS finS chkS;rw [if_pos rfl,if_pos rfl];show (if checkS acc cur no op cl ls=0 then _ else _)=_
  rw [if_pos hk]
theorem textX_size {acc cur:ByteArray} {no op cl:Int} {ls:List S44} (d:Int) (h:checkS acc cur no op cl ls=0):(textX acc cur no op cl ls d).size≤200000:=by
  have body:∀ (R:List S44) (x:ByteArray),(bodyX d R x).size≤x.size+400 * R.length:=by
    intro R;induction R with
    | nil=>intro x;exact Nat.le_refl _
    | cons l r ih =>
      intro x;rw [bodyX];have:=ih (x++lineX d l);have:=lineX_len d l;rw [ByteArray.size_append] at *;rw [List.length_cons];omega
  obtain ⟨c1,c2,c3,c4,c5,c6⟩:=checkS_ok h;have h1:=codeW_len c1;have h2:=codeL_len c2;rw [← size_eq'] at h1 h2;have h3:=body ls (stmt_Text.head acc cur (oL (Lib.itoa no)) (textS op d).1);have hn:(oL (Lib.itoa no)).size≤20:=itoa_size no (by unfold I64;omega);have ht:=textS_size op d;have hc:=textS_size cl d;rw [head_len] at h3;have s6:(⟨#[99,108,111,115,101,32]⟩:ByteArray).size=6:=rfl;have s1:(⟨#[10]⟩:ByteArray).size=1:=rfl;unfold textX stmt_Text.tail;rw [ByteArray.size_append,ByteArray.size_append,ByteArray.size_append,s6,s1];omega
end Go.Proofs.YtmlcdpfcafmmcaaDoor.A
