-- By pack.py, a program of this session's.
import Derived.Deep.Slices
import Derived.Lib.SmallJoins
import Derived.SizedLaws
import Derived.Test.YtkbgkekegjfkfaaGreatDoorX2
import Derived.Test.YtkbgkekegjfkfaaGreatDoorX3
set_option linter.unusedVariables false
set_option linter.unusedSimpArgs false
namespace Go.Proofs.YtkbgkekegjfkfaaGreatDoor.A
open Go.RowKit B WW WL WM
theorem isWdB_eq (c:UInt8):isWdB c=(isLet c || isDig c):=by
  have h:∀ n:Nat,n < 256→isWdB (UInt8.ofNat n)=(isLet (UInt8.ofNat n) || isDig (UInt8.ofNat n)):=by decide +kernel
  have:=h c.toNat c.toNat_lt;rwa [UInt8.ofNat_toNat] at this
theorem isPrn_iff (c:UInt8):isPrn c=true ↔ 32≤c.toNat∧c.toNat≤126:=by unfold isPrn;simp only [Bool.and_eq_true,decide_eq_true_iff]
theorem words_Code_at (s:ByteArray) (hs:s.size≤1000000):words_Code.f s=some (codeW s.data.toList):=by unfold words_Code.f;rw [if_pos (by omega)]
theorem words_Plain_at (s:ByteArray) (hs:s.size≤1000000):words_Plain.f s=some (plainW s.data.toList):=by unfold words_Plain.f;rw [if_pos (by omega)]
theorem rules_counts_eq (f:Int):rules_counts.f f=some (numB f):=by
  unfold rules_counts.f numB;by_cases h:f=1
  · rw [if_pos h,decide_eq_true (Or.inl h)]
  · rw [if_neg h];congr 1;rw [Bool.eq_iff_iff,beq_iff_eq,decide_eq_true_iff];omega
def tagL:Option ByteArray→List S50→Bool
  | _,[]=>true
  | p,t :: r=>codeW t.f0.data.toList && codeW t.f1.data.toList && (match p with | none=>true | some q=>Op.bytesLess q.toList t.f0.toList) && tagL (some t.f0) r
theorem tagL_nil (p:Option ByteArray):tagL p []=true:=by cases p <;> rfl
theorem tagL_cons (p:Option ByteArray) (t:S50) (r:List S50):tagL p (t :: r)=(codeW t.f0.data.toList && codeW t.f1.data.toList && (match p with | none=>true | some q=>Op.bytesLess q.toList t.f0.toList) && tagL (some t.f0) r):=by cases p <;> rfl
def tagsOk (tg:List S50):Bool:=decide (tg.length≤6) && tagL none tg
def ShortT (tg:List S50):Prop:=∀ x∈tg,x.f0.size≤1000000∧x.f1.size≤1000000
theorem rd50_at {l:List S50} {i:Nat} {x:S50} {r:List S50} (h:l.drop i=x :: r):i < l.length∧rd_T50 l (i:Int)=x∧l.drop (i+1)=r:=by
  have hlt:i < l.length:=by
    rcases Nat.lt_or_ge i l.length with h1 | h1
    · exact h1
    · rw [List.drop_eq_nil_of_le h1] at h;cases h
  rw [List.drop_eq_getElem_cons hlt] at h;obtain ⟨h1,h2⟩:=List.cons.inj h;refine ⟨hlt,?_,h2⟩;unfold rd_T50;rw [Int.toNat_natCast,List.getD_eq_getElem?_getD,List.getElem?_eq_getElem hlt,← h1];rfl
def prevT (l:List S50) (i:Nat):Option ByteArray:=if i=0 then none else some (rd_T50 l ((i - 1:Nat):Int)).f0
def nameB (nm acc par:ByteArray):Bool:=codeW nm.data.toList && codeW acc.data.toList && (decide (par.toList=[]) || codeW par.data.toList)
def bigT:List S50→Bool
  | []=>false
  | t :: r=>if (t.f0.size:Int)+(t.f1.size:Int) > 400 then true else bigT r
theorem bigT_all {tg:List S50} (h:¬ bigT tg=true):∀ x∈tg,x.f0.size+x.f1.size≤400:=by
  induction tg with
  | nil=>intro x hx;cases hx
  | cons y r ih =>
    rw [bigT] at h;split at h
    · exact absurd rfl h
    intro x hx;rcases List.mem_cons.mp hx with rfl | hx
    · omega
    · exact ih h x hx
end Go.Proofs.YtkbgkekegjfkfaaGreatDoor.A
namespace Go.Proofs.YtkbgkekegjfkfaaGreatDoor.A
open Go.RowKit B WW WL WM
attribute [local go_sem] max2_int min2_int max_two min_two max_three min_three max_four min_four
set_option maxHeartbeats 8000000
set_option maxRecDepth 100000
def livesG:List S50:=[⟨⟨#[100,101,112,116]⟩,⟨#[120]⟩⟩]
def lw48_lives.f:Option Bool:=some true
structure S87 where
  f0:Int
  f1:ByteArray
  f2:Int
def k87:Kd S87:=Kd.iso (Kd.pair (Kd.int .i64) (Kd.pair Kd.string (Kd.int .i64))) (fun x:S87=>(x.f0,x.f1,x.f2))
abbrev cells25Z:Array Value:=#[.string ⟨#[]⟩,.slice none 0 0,.string ⟨#[]⟩,.string ⟨#[]⟩,.slice none 0 0]
end Go.Proofs.YtkbgkekegjfkfaaGreatDoor.A
namespace Go.Proofs.YtkbgkekegjfkfaaGreatDoor.B
open Go.Lib Go.RowKit WW
theorem tabAt_of {P:Program} {W:World} {name:String} {g:Nat} {zs:List Int} (h:Lib.TabIs P W name .i64 zs) (hg:P.globalNamed name=some g) (hz:0 < zs.length):TabAt g zs W:=by
  refine ⟨lt_of_cell (h.cell hg 0 hz),fun i hi=>?_⟩;rw [h.cell hg i hi,List.getD_eq_getElem?_getD,List.getElem?_eq_getElem hi];rfl
theorem spAt_of {W : World} (h : Lib.TabIs Tryz.prog W "strings.asciiSpace" .u8 Lib.asciiSpaceTab) : SpAt W :=
  have hc:∀ c:Nat,c < 256→W.cell? ⟨0,c,none⟩=some (.int .u8 (if Lib.isSp (UInt8.ofNat c) then 1 else 0)):=fun c hc=>by rw [h.cell (by kernel_rfl) c (by rw [Lib.asciiSpaceTab_length];exact hc),Lib.asciiSpaceTab_at c hc]
  ⟨lt_of_cell (hc 0 (by decide)),hc⟩
theorem gl_of_laid {D : DataW Unit} {W : World} (h : laidMet Tryz.prog [("accounting/days.lengths", Lib.tabData .i64 monthLens), ("unicode.White_Space", D), ("strings.asciiSpace", Lib.tabData .u8 Lib.asciiSpaceTab)] W) (hm : ∃ m, W.cell? ⟨2, 0, none⟩ = some (.int .i64 m)) : Gl W :=
  ⟨tabAt_of (Lib.tabIs_of_head (g:=3) (t:=184) (e:=3) (n:=12) (by kernel_rfl) (by kernel_rfl) (by kernel_rfl) Tryz.underlying3 (by kernel_rfl) (by kernel_rfl) h) (by kernel_rfl) (by decide),
   spAt_of (Lib.tabIs_of_head (g:=0) (t:=133) (e:=5) (n:=256) (by kernel_rfl) (by kernel_rfl) (by kernel_rfl) Tryz.underlying5 (by kernel_rfl) (by kernel_rfl) (laidMet.tail (laidMet.tail h))),
   ⟨hm.elim fun m h=>lt_of_cell h,hm⟩⟩
end Go.Proofs.YtkbgkekegjfkfaaGreatDoor.B
namespace Go.Proofs.YtkbgkekegjfkfaaGreatDoor.WW
open Go.RowKit
theorem KeepBut.own {w w1:World} {g:Nat} {row:Option Nat} {base:Nat} {e:TypeId} {size n:Nat} {v:Value} {xs:List Value} (h:KeepBut w w1 g row) (ho:w.ownsRow base e size v n xs) (hg:v.ownBlock≠some g) (hr:v.ownBlock=none∨v.ownBlock≠row):w1.ownsRow base e size v n xs:=by
  obtain ⟨h1,h2⟩:=ho;refine ⟨h1,?_⟩;rcases h2 with h2 | ⟨b,cap,cur,rfl,hb,hh,r⟩
  · exact .inl h2
  · refine .inr ⟨b,cap,cur,rfl,hb,h.blk hh ?_ ?_,r⟩
    · intro e
      exact hg (by rw [← e];rfl)
    · rcases hr with hr | hr
      · simp [Value.ownBlock] at hr
      · exact hr
end Go.Proofs.YtkbgkekegjfkfaaGreatDoor.WW
namespace Go.Proofs.YtkbgkekegjfkfaaGreatDoor.B
open Go.Deep Go.ChangeShapes Go.WideShapes Go.ChangeAt Go.Joins WW
theorem arg_weights {H:Type} {P:Program} {ts:List TypeId} {ds:List (DataW H)} {j:Nat} {t:TypeId} {d:DataW H} (hsz:(DataW.weightsEach P ts ds).all (·≤reachBytes)=true) (ht:ts[j]?=some t) (hd:ds[j]?=some d):∀ x∈d.weights P t,x≤reachBytes :=
  fun x hx=>by simpa using List.all_eq_true.1 hsz x (DataW.weights_mem_each ht hd x hx)
end Go.Proofs.YtkbgkekegjfkfaaGreatDoor.B
namespace Go.Proofs.YtkbgkekegjfkfaaGreatDoor.A
open Go.RowKit B WW WL WM
theorem Ev.livR:Ev (fun _:Nat=>(lw48_lives.f).bind fun t=>some t) true:=show Ev (fun _:Nat=>some true) true from Ev.is rfl
end Go.Proofs.YtkbgkekegjfkfaaGreatDoor.A
namespace Go.Proofs.YtkbgkekegjfkfaaGreatDoor.A
open Go.RowKit B WW WL WM
theorem zq48 {P:Prop} (h:P:=by repeat (first | exact (Kd.C_below HR0_1.out HB.out) | (with_reducible refine Kd.C_alloc ?_ _) | (with_reducible refine Kd.C_drewN ?_ _) | (with_reducible refine Kd.C_drew ?_))):P:=h
end Go.Proofs.YtkbgkekegjfkfaaGreatDoor.A
