-- By pack.py, a program of this session's.
import Derived.Deep.Slices
import Derived.Lib.SmallJoins
import Derived.SizedLaws
import Derived.Test.YtlblkojjpagbkaaDoorZ2
import Derived.Test.YtlblkojjpagbkaaDoorZ3
set_option linter.unusedVariables false
set_option linter.unusedSimpArgs false
namespace Go.Proofs.YtlblkojjpagbkaaDoor
namespace A
open Go.RowKit B WW WL WM
theorem zq34 {P:Prop} (h:P:=by repeat (first|exact (Kd.C_below HR0_1.out HB.out)|(with_reducible refine Kd.C_alloc ?_ _)|(with_reducible refine Kd.C_drewN ?_ _)|(with_reducible refine Kd.C_drew ?_))):P:=h
theorem zq35 {P:Prop} (h:P:=by (with_reducible repeat (first|refine blk_drewN ?_ _|refine blk_drew ?_|refine blk_alloc ?_ _));exact BK226.out):P:=h
theorem zq36 {P:Prop} (h:P:=by (with_reducible repeat (first|refine blk_drewN ?_ _|refine blk_drew ?_|refine blk_alloc ?_ _));exact BK227.out):P:=h
theorem zq37 {P:Prop} (h:P:=by (with_reducible repeat (first|refine blk_drewN ?_ _|refine blk_drew ?_|refine blk_alloc ?_ _));exact BK228.out):P:=h
theorem zq39 {P:Prop} (h:P:=by (with_reducible repeat (first|refine blk_drewN ?_ _|refine blk_drew ?_|refine blk_alloc ?_ _));refine blk_far ?_ NB226_230.out _;(with_reducible repeat (first|refine blk_drewN ?_ _|refine blk_drew ?_|refine blk_alloc ?_ _));refine blk_far ?_ NB226_230.out _;(with_reducible repeat (first|refine blk_drewN ?_ _|refine blk_drew ?_|refine blk_alloc ?_ _));refine blk_far ?_ NB226_230.out _;(with_reducible repeat (first|refine blk_drewN ?_ _|refine blk_drew ?_|refine blk_alloc ?_ _));refine blk_far ?_ NB226_230.out _;(with_reducible repeat (first|refine blk_drewN ?_ _|refine blk_drew ?_|refine blk_alloc ?_ _));refine blk_far ?_ NB226_230.out _;(with_reducible repeat (first|refine blk_drewN ?_ _|refine blk_drew ?_|refine blk_alloc ?_ _));exact BK226.out):P:=h
theorem zq40 {P:Prop} (h:P:=by (with_reducible repeat (first|refine blk_drewN ?_ _|refine blk_drew ?_|refine blk_alloc ?_ _));refine blk_far ?_ NB227_230.out _;(with_reducible repeat (first|refine blk_drewN ?_ _|refine blk_drew ?_|refine blk_alloc ?_ _));refine blk_far ?_ NB227_230.out _;(with_reducible repeat (first|refine blk_drewN ?_ _|refine blk_drew ?_|refine blk_alloc ?_ _));refine blk_far ?_ NB227_230.out _;(with_reducible repeat (first|refine blk_drewN ?_ _|refine blk_drew ?_|refine blk_alloc ?_ _));refine blk_far ?_ NB227_230.out _;(with_reducible repeat (first|refine blk_drewN ?_ _|refine blk_drew ?_|refine blk_alloc ?_ _));refine blk_far ?_ NB227_230.out _;(with_reducible repeat (first|refine blk_drewN ?_ _|refine blk_drew ?_|refine blk_alloc ?_ _));exact BK227.out):P:=h
theorem zq41 {P:Prop} (h:P:=by (with_reducible repeat (first|refine blk_drewN ?_ _|refine blk_drew ?_|refine blk_alloc ?_ _));refine blk_far ?_ NB228_230.out _;(with_reducible repeat (first|refine blk_drewN ?_ _|refine blk_drew ?_|refine blk_alloc ?_ _));refine blk_far ?_ NB228_230.out _;(with_reducible repeat (first|refine blk_drewN ?_ _|refine blk_drew ?_|refine blk_alloc ?_ _));refine blk_far ?_ NB228_230.out _;(with_reducible repeat (first|refine blk_drewN ?_ _|refine blk_drew ?_|refine blk_alloc ?_ _));refine blk_far ?_ NB228_230.out _;(with_reducible repeat (first|refine blk_drewN ?_ _|refine blk_drew ?_|refine blk_alloc ?_ _));refine blk_far ?_ NB228_230.out _;(with_reducible repeat (first|refine blk_drewN ?_ _|refine blk_drew ?_|refine blk_alloc ?_ _));exact BK228.out):P:=h
theorem zq44 {P:Prop} (h:P:=by (with_reducible repeat (first|apply Kd.R_alloc|apply Kd.R_drewN|apply Kd.R_drew));exact Kd.R_mono HO233.out (fun _ hk=>hk.2)):P:=h
theorem zq45 {P:Prop} (h:P:=by (with_reducible repeat (first|refine blk_drewN ?_ _|refine blk_drew ?_|refine blk_alloc ?_ _));exact BK230.out):P:=h
theorem zq46 {P:Prop} (h:P:=by (with_reducible repeat (first|apply Kd.R_alloc|apply Kd.R_drewN|apply Kd.R_drew));exact HO236.out):P:=h
theorem zq48 {P:Prop} (h:P:=by (with_reducible repeat (first|apply Kd.R_alloc|apply Kd.R_drewN|apply Kd.R_drew));exact Kd.R_mono HO236.out (fun _ hk=>⟨hk.2,hk.1⟩)):P:=h
theorem zq49 {P:Prop} (h:P:=by (with_reducible repeat (first|apply Kd.R_alloc|apply Kd.R_drewN|apply Kd.R_drew));exact Kd.R_mono HO239.out (fun _ hk=>⟨hk.1.2,hk.2⟩)):P:=h
theorem zq50 {P:Prop} (h:P:=by (with_reducible repeat (first|apply Kd.R_alloc|apply Kd.R_drewN|apply Kd.R_drew));exact HO233.out):P:=h
theorem zq51 {P:Prop} (h:P:=by (with_reducible repeat (first|apply Kd.R_alloc|apply Kd.R_drewN|apply Kd.R_drew));exact HO239.out):P:=h
theorem zq52 {P:Prop} (h:P:=by (with_reducible repeat (first|apply Kd.R_alloc|apply Kd.R_drewN|apply Kd.R_drew));exact Kd.R_mono HO233.out (fun _ hk=>⟨hk.2,hk.1.2⟩)):P:=h
theorem zq53 {P:Prop} (h:P:=by (with_reducible repeat (first|apply Kd.R_alloc|apply Kd.R_drewN|apply Kd.R_drew));exact Kd.R_mono HO239.out (fun _ hk=>⟨hk.2,hk.1.2⟩)):P:=h
theorem zq54 {P:Prop} (h:P:=by (with_reducible repeat (first|apply Kd.R_alloc|apply Kd.R_drewN|apply Kd.R_drew));exact Kd.R_mono HO239.out (fun _ hk=>⟨hk.2,hk.1⟩)):P:=h
theorem zq55 {P:Prop} (h:P:=by (with_reducible repeat (first|apply Kd.R_alloc|apply Kd.R_drewN|apply Kd.R_drew));exact Kd.R_mono HO233.out (fun _ hk=>⟨hk.1.2,hk.2⟩)):P:=h
theorem zq56 {P:Prop} (h:P:=by repeat (first|(with_reducible first|exact HB.out|exact Below.refl _ _|apply below_alloc|apply pw_below_drewN|apply below_drew1|refine below_set ?_ GE226.out|refine below_set ?_ GE227.out|refine below_set ?_ GE228.out|refine below_set ?_ GE230.out)|exact HB.out)):P:=h
theorem zq58 {P:Prop} (h:P:=by (with_reducible repeat (first|refine blk_drewN ?_ _|refine blk_drew ?_|refine blk_alloc ?_ _));refine blk_far ?_ NB226_230.out _;(with_reducible repeat (first|refine blk_drewN ?_ _|refine blk_drew ?_|refine blk_alloc ?_ _));exact BK226.out):P:=h
theorem zq59 {P:Prop} (h:P:=by (with_reducible repeat (first|refine blk_drewN ?_ _|refine blk_drew ?_|refine blk_alloc ?_ _));refine blk_far ?_ NB227_230.out _;(with_reducible repeat (first|refine blk_drewN ?_ _|refine blk_drew ?_|refine blk_alloc ?_ _));exact BK227.out):P:=h
theorem zq60 {P:Prop} (h:P:=by (with_reducible repeat (first|refine blk_drewN ?_ _|refine blk_drew ?_|refine blk_alloc ?_ _));refine blk_far ?_ NB228_230.out _;(with_reducible repeat (first|refine blk_drewN ?_ _|refine blk_drew ?_|refine blk_alloc ?_ _));exact BK228.out):P:=h
theorem zq61 {P:Prop} (h:P:=by (with_reducible repeat (first|refine blk_drewN ?_ _|refine blk_drew ?_|refine blk_alloc ?_ _));refine blk_put (cs:=#[.string a0_0,.slice A0_1 l0_1.length c0_1,.string a0_2,.string a0_3,.slice A0_4 l0_4.length c0_4]) ?_ 1 _ rfl;(with_reducible repeat (first|refine blk_drewN ?_ _|refine blk_drew ?_|refine blk_alloc ?_ _));exact BK230.out):P:=h
end A
namespace A
open Go.RowKit B WW WL WM
theorem words_Code_at (s:ByteArray) (hs:s.size≤1000000):words_Code.f s=some (codeW s.data.toList):=by unfold words_Code.f;rw [if_pos (by omega)]
theorem words_Plain_at (s:ByteArray) (hs:s.size≤1000000):words_Plain.f s=some (plainW s.data.toList):=by unfold words_Plain.f;rw [if_pos (by omega)]
theorem rules_counts_eq (f:Int):rules_counts.f f=some (numB f):=by
  unfold rules_counts.f numB;by_cases h:f=1
  · rw [if_pos h,decide_eq_true (Or.inl h)]
  · rw [if_neg h];congr 1;rw [Bool.eq_iff_iff,beq_iff_eq,decide_eq_true_iff];omega
def tagL:Option ByteArray→List S35→Bool
 |_,[]=>true
 |p,t :: r=>codeW t.f0.data.toList && codeW t.f1.data.toList && (match p with|none=>true|some q=>Op.bytesLess q.toList t.f0.toList) && tagL (some t.f0) r
theorem tagL_nil (p:Option ByteArray):tagL p []=true:=by cases p <;> rfl
theorem tagL_cons (p:Option ByteArray) (t:S35) (r:List S35):tagL p (t :: r)=(codeW t.f0.data.toList && codeW t.f1.data.toList && (match p with|none=>true|some q=>Op.bytesLess q.toList t.f0.toList) && tagL (some t.f0) r):=by cases p <;> rfl
def tagsOk (tg:List S35):Bool:=decide (tg.length≤6) && tagL none tg
def ShortT (tg:List S35):Prop:=∀ x∈tg,x.f0.size≤1000000∧x.f1.size≤1000000
theorem rd50_at {l:List S35} {i:Nat} {x:S35} {r:List S35} (h:l.drop i=x :: r):i < l.length∧rd_T35 l (i:Int)=x∧l.drop (i+1)=r:=by
  have hlt:i < l.length:=by
    rcases Nat.lt_or_ge i l.length with h1|h1
    · exact h1
    · rw [List.drop_eq_nil_of_le h1] at h;cases h
  rw [List.drop_eq_getElem_cons hlt] at h;obtain ⟨h1,h2⟩:=List.cons.inj h;refine ⟨hlt,?_,h2⟩;unfold rd_T35;rw [Int.toNat_natCast,List.getD_eq_getElem?_getD,List.getElem?_eq_getElem hlt,← h1];rfl
def prevT (l:List S35) (i:Nat):Option ByteArray:=if i=0 then none else some (rd_T35 l ((i - 1:Nat):Int)).f0
def nameB (nm acc par:ByteArray):Bool:=codeW nm.data.toList && codeW acc.data.toList && (decide (par.toList=[]) || codeW par.data.toList)
def bigT:List S35→Bool
 |[]=>false
 |t :: r=>if (t.f0.size:Int)+(t.f1.size:Int) > 400 then true else bigT r
theorem bigT_all {tg:List S35} (h:¬ bigT tg=true):∀ x∈tg,x.f0.size+x.f1.size≤400:=by
  induction tg with
 |nil=>intro x hx;cases hx
 |cons y r ih =>
    rw [bigT] at h;split at h
    · exact absurd rfl h
    intro x hx;rcases List.mem_cons.mp hx with rfl|hx
    · omega
    · exact ih h x hx
end A
namespace B
open Go.Lib Go.RowKit WW
theorem tabAt_of {P:Program} {W:World} {name:String} {g:Nat} {zs:List Int} (h:Lib.TabIs P W name .i64 zs) (hg:P.globalNamed name=some g) (hz:0 < zs.length):TabAt g zs W:=by
  refine ⟨lt_of_cell (h.cell hg 0 hz),fun i hi=>?_⟩;rw [h.cell hg i hi,List.getD_eq_getElem?_getD,List.getElem?_eq_getElem hi];rfl
theorem spAt_of {W : World} (h : Lib.TabIs Tryd.prog W "strings.asciiSpace" .u8 Lib.asciiSpaceTab) : SpAt W :=
  have hc:∀ c:Nat,c < 256→W.cell? ⟨0,c,none⟩=some (.int .u8 (if Lib.isSp (UInt8.ofNat c) then 1 else 0)):=fun c hc=>by rw [h.cell (by kernel_rfl) c (by rw [Lib.asciiSpaceTab_length];exact hc),Lib.asciiSpaceTab_at c hc]
  ⟨lt_of_cell (hc 0 (by decide)),hc⟩
theorem gl_of_laid {D : DataW Unit} {W : World} (h : laidMet Tryd.prog [("accounting/days.lengths", Lib.tabData .i64 monthLens), ("unicode.White_Space", D), ("strings.asciiSpace", Lib.tabData .u8 Lib.asciiSpaceTab)] W) (hm : ∃ m, W.cell? ⟨1, 0, none⟩ = some (.int .i64 m)) : Gl W :=
  ⟨tabAt_of (Lib.tabIs_of_head (g:=3) (t:=150) (e:=3) (n:=12) (by kernel_rfl) (by kernel_rfl) (by kernel_rfl) Tryd.underlying3 (by kernel_rfl) (by kernel_rfl) h) (by kernel_rfl) (by decide),
   spAt_of (Lib.tabIs_of_head (g:=0) (t:=98) (e:=5) (n:=256) (by kernel_rfl) (by kernel_rfl) (by kernel_rfl) Tryd.underlying5 (by kernel_rfl) (by kernel_rfl) (laidMet.tail (laidMet.tail h))),
   ⟨hm.elim fun m h=>lt_of_cell h,hm⟩⟩
end B
namespace A
open Go.RowKit B WW WL WM
attribute [local go_sem] max2_int min2_int max_two min_two max_three min_three max_four min_four
set_option maxHeartbeats 8000000
set_option maxRecDepth 100000
def lw48_RulesNarrow.T4:Bool×List (List Nat×List Nat):=(true,[([],[]),([],[]),([1],[1]),([0,2],[0,2]),([],[]),([4],[4]),([3,5,3],[3,5]),([0,1,2,3,4,5,6],[]),([7,6,6,0,1,2,3,4,5,6],[6,7])])
def lw48_RulesNarrow.B4:List Nat:=[0,0,2,7,0,16,63,127,255]
theorem lw48_RulesNarrow.bits4:waitsOk lw48_RulesNarrow.T4.2 lw48_RulesNarrow.B4=true:=by kernel_rfl
end A
namespace WW
open Go.RowKit
namespace Kd
section
variable {α β:Type} {d:Kd α} {d':Kd β} {e e':Nat} {w w1 W:World} {base b b':Nat} {ok ok' okv oku:Nat→Prop} {v u:Value} {xs:List α} {ys:List β}
theorem R_base (h:d.R e w base ok v xs):∀ k,v.ownBlock=some k→base≤k:=by
  obtain ⟨inner,ho⟩:=R_own h;exact own_base ho
end
end Kd
end WW
namespace WW
open Go.RowKit
theorem KeepBut.own {w w1:World} {g:Nat} {row:Option Nat} {base:Nat} {e:TypeId} {size n:Nat} {v:Value} {xs:List Value} (h:KeepBut w w1 g row) (ho:w.ownsRow base e size v n xs) (hg:v.ownBlock≠some g) (hr:v.ownBlock=none∨v.ownBlock≠row):w1.ownsRow base e size v n xs:=by
  obtain ⟨h1,h2⟩:=ho;refine ⟨h1,?_⟩;rcases h2 with h2|⟨b,cap,cur,rfl,hb,hh,r⟩
  · exact .inl h2
  · refine .inr ⟨b,cap,cur,rfl,hb,h.blk hh ?_ ?_,r⟩
    · intro e
      exact hg (by rw [← e];rfl)
    · rcases hr with hr|hr
      · simp [Value.ownBlock] at hr
      · exact hr
end WW
namespace WL
open WW (Aside0)
section
variable {md:Region.Mode} {ops:Array Oper} {T:Bool×List (List Nat×List Nat)} {l l' li lj lk:Array Bool} {ds:List Nat} {i j k:Nat}
theorem two_of (hT:rtab md ops=T) (h:(readyT T.2 l.toList == [i,j] && l.toList.set i true == li.toList && l.toList.set j true == lj.toList)=true):(Region.ready md ops l == [i,j] && l.setIfInBounds i true == li && l.setIfInBounds j true == lj)=true:=by
  simp only [Bool.and_eq_true] at h ⊢
  obtain ⟨⟨h1,h2⟩,h3⟩:=h;subst hT;exact ⟨⟨by rw [ready_eq];exact h1,set_of h2⟩,set_of h3⟩
end
end WL
namespace B
open Go.Deep Go.ChangeShapes Go.WideShapes Go.ChangeAt Go.Joins WW
theorem arg_weights {H:Type} {P:Program} {ts:List TypeId} {ds:List (DataW H)} {j:Nat} {t:TypeId} {d:DataW H} (hsz:(DataW.weightsEach P ts ds).all (·≤reachBytes)=true) (ht:ts[j]?=some t) (hd:ds[j]?=some d):∀ x∈d.weights P t,x≤reachBytes :=
  fun x hx=>by simpa using List.all_eq_true.1 hsz x (DataW.weights_mem_each ht hd x hx)
end B

end Go.Proofs.YtlblkojjpagbkaaDoor