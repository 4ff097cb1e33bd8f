-- By pack.py, a program of this session's.
import Derived.Test.YtkbgkekegjfkfaaGreatDoorZ0
import Derived.Test.YtkbgkekegjfkfaaGreatDoorZ1
set_option linter.unusedVariables false
set_option linter.unusedSimpArgs false
namespace Go.Proofs.YtkbgkekegjfkfaaGreatDoor
namespace A
open Go.RowKit B WW WL WM
theorem zq2 {P:Prop} (h:P:=by repeat (first|(with_reducible first|exact Below.refl _ _|apply below_drew|apply pw_below_drewN|apply below_alloc)|(with_reducible refine below_setN ?_ (by simp) _))):P:=h
theorem zq3 {P:Prop} (h:P:=by repeat (first|(with_reducible first|exact HB.out|apply below_drew|apply pw_below_drewN|apply below_alloc)|(with_reducible refine below_setN ?_ (by simp) _))):P:=h
theorem zq11 {P:Prop} (h:P:=by first|(go_simp;done)|(go_simp;rfl)):P:=h
theorem zq12 {P:Prop} (h:P:=by repeat (first|(with_reducible first|exact HB.out|apply below_alloc|apply pw_below_drewN|apply below_drew1|refine below_set ?_ GE228.out|refine below_set ?_ GE229.out)|exact HB.out)):P:=h
theorem zq21 {P:Prop} (h:P:=by repeat (first|(with_reducible first|exact HB.out|apply below_alloc|apply pw_below_drewN|apply below_drew1|refine below_set ?_ GE236.out)|exact HB.out)):P:=h
theorem zq22 {P:Prop} (h:P:=by repeat (first|(with_reducible first|exact HB.out|exact Below.refl _ _|apply below_alloc|apply pw_below_drewN|apply below_drew1)|exact HB.out)):P:=h
theorem zq29 {P:Prop} (h:P:=by repeat (first|(with_reducible first|exact HB.out|apply below_alloc|apply pw_below_drewN|apply below_drew1|refine below_set ?_ GE250.out)|exact HB.out)):P:=h
theorem zq30 {P:Prop} (h:P:=by (try simp only [List.map_toArray,List.map_cons,List.map_nil]);first|done|rfl):P:=h
theorem zq34 {P:Prop} (h:P:=by (try simp only [List.map_toArray,List.map_cons,List.map_nil]);first|done|rfl|(simp only [List.length_drop,List.length_take];rfl)):P:=h
theorem zq36 {P:Prop} (h:P:=by repeat (first|(with_reducible first|exact HB.out|apply below_alloc|apply pw_below_drewN|apply below_drew1|refine below_set ?_ GE134.out)|exact HB.out)):P:=h
theorem zq39 {P:Prop} (h:P:=by repeat (first|(with_reducible first|exact HB.out|apply below_alloc|apply pw_below_drewN|apply below_drew1|refine below_set ?_ GE149.out)|exact HB.out)):P:=h
theorem zq44 {P:Prop} (h:P:=by repeat (first|(with_reducible first|exact HB.out|apply below_alloc|apply pw_below_drewN|apply below_drew1|refine below_set ?_ GE245.out|refine below_set ?_ GE246.out)|exact HB.out)):P:=h
theorem zq60 {P:Prop} (h:P:=by repeat (first|(with_reducible first|exact HB.out|apply below_alloc|apply pw_below_drewN|apply below_drew1|refine below_set ?_ GE403.out|refine below_set ?_ GE408.out)|exact HB.out)):P:=h
theorem zq64 {P:Prop} (h:P:=by repeat (first|(with_reducible first|exact HB.out|apply below_alloc|apply pw_below_drewN|apply below_drew1|refine below_set ?_ GE421.out)|exact HB.out)):P:=h
theorem zq92 {P:Prop} (h:P:=by repeat (first|(with_reducible first|exact HB.out|apply below_alloc|apply pw_below_drewN|apply below_drew1|refine below_set ?_ GE475.out)|exact HB.out)):P:=h
theorem zq106 {P:Prop} (h:P:=by repeat (first|(with_reducible first|exact HB.out|apply below_alloc|apply pw_below_drewN|apply below_drew1|refine below_set ?_ GE497.out)|exact HB.out)):P:=h
theorem zq108 {P:Prop} (h:P:=by repeat (first|(with_reducible first|exact HB.out|apply below_alloc|apply pw_below_drewN|apply below_drew1|refine below_set ?_ GE497.out|refine below_set ?_ GE509.out)|exact HB.out)):P:=h
theorem zq117 {P:Prop} (h:P:=by repeat (first|(with_reducible first|exact HB.out|apply below_alloc|apply pw_below_drewN|apply below_drew1|refine below_set ?_ GE109.out)|exact HB.out)):P:=h
theorem zq119 {P:Prop} (h:P:=by repeat (first|(with_reducible first|exact HB.out|apply below_alloc|apply pw_below_drewN|apply below_drew1|refine below_set ?_ GE113.out)|exact HB.out)):P:=h
theorem zq121 {P:Prop} (h:P:=by repeat (first|(with_reducible first|exact HB.out|apply below_alloc|apply pw_below_drewN|apply below_drew1|refine below_set ?_ GE117.out)|exact HB.out)):P:=h
theorem zq123 {P:Prop} (h:P:=by repeat (first|(with_reducible first|exact HB.out|apply below_alloc|apply pw_below_drewN|apply below_drew1|refine below_set ?_ GE156.out|refine below_set ?_ GE158.out)|exact HB.out)):P:=h
theorem zq125 {P:Prop} (h:P:=by rw [← hq_];exact (by repeat (first|(with_reducible first|exact HB.out|apply below_alloc|apply pw_below_drewN|apply below_drew1|refine below_set ?_ GE163.out)|exact HB.out))):P:=h
theorem zq126 {P:Prop} (h:P:=by repeat (first|(with_reducible first|exact HB.out|apply below_alloc|apply pw_below_drewN|apply below_drew1|refine below_set ?_ GE163.out)|exact HB.out)):P:=h
theorem zq128 {P:Prop} (h:P:=by repeat (first|(with_reducible first|exact HB.out|apply below_alloc|apply pw_below_drewN|apply below_drew1|refine below_set ?_ GE175.out)|exact HB.out)):P:=h
theorem zq129 {P:Prop} (h:P:=by repeat (first|(with_reducible first|exact HB.out|apply below_alloc|apply pw_below_drewN|apply below_drew1|refine below_set ?_ GE201.out)|exact HB.out)):P:=h
end A
namespace B
open Go.Lib Go.RowKit WW
theorem ret_int {k:IntKind} {a b:Int} (h:a=b):Ending.returned (.int k a)=.returned (.int k b):=by rw [h]
def trow (u a:Nat):Array Value:=Array.ofFn (n:=20) fun t=>if a≤t.val then .int .u8 ((48+u / 10 ^ (19 - t.val) % 10:Nat):Int) else .int .u8 0
theorem trow_size (u a:Nat):(trow u a).size=20:=by simp [trow]
theorem trow_at (u a i:Nat) (h:i < 20):(trow u a)[i]?=some (.int .u8 (if a≤i then ((48+u / 10 ^ (19 - i) % 10:Nat):Int) else 0)):=by
  simp only [trow,Array.getElem?_ofFn,h,dif_pos]
  split <;> rfl
theorem trow_start (u:Nat):trow u 20=Array.replicate 20 (.int .u8 0):=by
  apply Array.ext_getElem?;intro i;by_cases h:i < 20
  · rw [trow_at u 20 i h,if_neg (by omega),Array.getElem?_replicate,if_pos h]
  · rw [Array.getElem?_eq_none (by simp [trow_size];omega),Array.getElem?_eq_none (by simp;omega)]
theorem trow_set (u a k:Nat) (v:Int) (h:a+k=19) (hv:v=((48+u / 10 ^ k % 10:Nat):Int)):(trow u (a+1)).setIfInBounds a (.int .u8 v)=trow u a:=by
  apply Array.ext_getElem?;intro i;by_cases hi:i < 20
  · rw [Array.getElem?_setIfInBounds,trow_at u a i hi,trow_at u (a+1) i hi,trow_size]
    by_cases e:a=i
    · subst e;rw [if_pos rfl,if_pos hi,if_pos (Nat.le_refl _),hv,show 19 - a=k by omega]
    · rw [if_neg e]
      by_cases h2:a≤i
      · rw [if_pos h2,if_pos (by omega)]
      · rw [if_neg h2,if_neg (by omega)]
  · rw [Array.getElem?_eq_none (by simp [trow_size];omega),Array.getElem?_eq_none (by simp [trow_size];omega)]
theorem add_plain' (b j:Nat):(⟨b,0,none⟩:Addr).add j=⟨b,j,none⟩:=by
  unfold Addr.add;split
  · rename_i h;subst h;rfl
  · simp
theorem mul_ways {a0 a1:Int} {m:Int×Bool} (hm:m=fit (a0 * a1)) {x y:Int} (hx:x=((a0.natAbs * a1.natAbs:Nat):Int) / 18446744073709551616) (hy:y=((a0.natAbs * a1.natAbs:Nat):Int) % 18446744073709551616) (s:Bool)
    (hs:(decide (a0 < 0) != decide (a1 < 0))=s) :
    (m=(a0 * a1,true)∧wrap64 (a0 * a1)=a0 * a1∧x≤0∧y≤(if s=true then 9223372036854775808 else 9223372036854775807))∨(m=(0,false)∧0 < x)∨(m=(0,false)∧x≤0∧(if s=true then 9223372036854775808 else 9223372036854775807) < y):=by
  obtain ⟨p,hp⟩:∃ p:Nat,p=a0.natAbs * a1.natAbs:=⟨_,rfl⟩
  have q1:=@fit_of_mul_neg a0 a1 p hp;have q2:=@fit_of_mul_neg' a0 a1 p hp;have q3:=@fit_of_mul_pos a0 a1 p hp;have q4:=@fit_of_mul_pos' a0 a1 p hp;rw [← hp] at hx hy;rw [← hm] at q1 q2 q3 q4
  have hw:m=(a0 * a1,true)→wrap64 (a0 * a1)=a0 * a1:=fun h=>by
    have h2:=hm.symm.trans h;unfold fit at h2;split at h2
    · rename_i h3;unfold I64 at h3;unfold wrap64;omega
    · simp at h2
  cases s
  · by_cases hle:p≤9223372036854775807
    · exact .inl ⟨q3 hs hle,hw (q3 hs hle),by omega,by simp;omega⟩
    · have:=q4 hs hle
      by_cases h0:0 < x
      · exact .inr (.inl ⟨this,h0⟩)
      · exact .inr (.inr ⟨this,by omega,by simp;omega⟩)
  · by_cases hle:p≤9223372036854775808
    · exact .inl ⟨q1 hs hle,hw (q1 hs hle),by omega,by simp;omega⟩
    · have:=q2 hs hle
      by_cases h0:0 < x
      · exact .inr (.inl ⟨this,h0⟩)
      · exact .inr (.inr ⟨this,by omega,by simp;omega⟩)
theorem ret_tup {k:IntKind} {a b:Int} {c:Value} (h:a=b):Ending.returned (.tuple #[.int k a,c])=.returned (.tuple #[.int k b,c]):=by rw [h]
theorem DInv.start {c R0 W:Nat} (h:R0 < c) (hW:W < 18446744073709551616):DInv c R0 W 64 0 R0 :=
  ⟨Nat.le_refl _,by rw [Nat.div_eq_of_lt (show W < 2 ^ 64 from hW)];simp,h,h,hW⟩
theorem DInv.next {c R0 W k Q r:Nat} (h:DInv c R0 W (k+1) Q r) :
    (c≤2 * r+W / 2 ^ k % 2→DInv c R0 W k (2 * Q+1) (2 * r+W / 2 ^ k % 2 - c))∧(2 * r+W / 2 ^ k % 2 < c→DInv c R0 W k (2 * Q) (2 * r+W / 2 ^ k % 2)):=by
  have hk:=h.le;have h1:2 ^ (64 - k)=2 * 2 ^ (64 - (k+1)):=by rw [show 64 - k=64 - (k+1)+1 by omega,Nat.pow_succ];omega
  have h2:W / 2 ^ k=2 * (W / 2 ^ (k+1))+W / 2 ^ k % 2:=by rw [Nat.pow_succ,← Nat.div_div_eq_div_mul];omega
  have h3:=h.eq;have h4:=h.lt
  have key:R0 * 2 ^ (64 - k)+W / 2 ^ k=2 * (Q * c)+(2 * r+W / 2 ^ k % 2):=by
    rw [h1,show R0 * (2 * 2 ^ (64 - (k+1)))=2 * (R0 * 2 ^ (64 - (k+1))) by rw [Nat.mul_left_comm]];omega
  constructor
  · intro hc
    refine ⟨by omega,?_,by omega,h.lt0,h.ltW⟩;rw [key,Nat.add_mul,Nat.one_mul,Nat.mul_assoc];omega
  · intro hc
    refine ⟨by omega,?_,hc,h.lt0,h.ltW⟩;rw [key,Nat.mul_assoc]
theorem bcell {W w1:World} (hb:Below W.heap.size W w1):(∀ b o,b < W.heap.size→w1.cell? ⟨b,o,none⟩=W.cell? ⟨b,o,none⟩)∧(∀ b o,b < W.heap.size→w1.frozen? ⟨b,o,none⟩=W.frozen? ⟨b,o,none⟩) :=
  ⟨fun b o h=>hb.cell (p:=⟨b,o,none⟩) h,fun b o h=>hb.frozen (p:=⟨b,o,none⟩) h⟩
theorem spAt_of {W : World} (h : Lib.TabIs Tryz.prog W "strings.asciiSpace" .u8 Lib.asciiSpaceTab) : SpAt W :=
  have hc:∀ c:Nat,c < 256→W.cell? ⟨0,c,none⟩=some (.int .u8 (if Lib.isSp (UInt8.ofNat c) then 1 else 0)):=fun c hc=>by rw [h.cell (by kernel_rfl) c (by rw [Lib.asciiSpaceTab_length];exact hc),Lib.asciiSpaceTab_at c hc]
  ⟨lt_of_cell (hc 0 (by decide)),hc⟩
end B
namespace WW
open Go.RowKit
namespace Kd
section
variable {α:Type} {d:Kd α} {e:Nat} {w w1:World} {base:Nat} {ok ok':Nat→Prop} {v:Value} {xs:List α}
theorem R_far (h:d.R e w base ok v xs) {p:Addr} (hok:∀ k,ok k→k≠p.block) (u:Value):d.R e (w.setCell p u) base ok v xs:=R_step h (fun k ho _=>Below.heap_setCell w p u k (hok k ho))
theorem R_keep (h:d.R e w base ok v xs) {g:Nat} (hk:KeepBut w w1 g none) (hok:∀ k,ok k→k≠g):d.R e w1 base ok v xs:=R_step h (fun k ho hlt=>hk.2 k hlt (hok k ho) (by simp))
theorem R_types (h:d.R e w base ok v xs) {g t:Nat} {cells:Array Value} (hb:w.heap[g]?=some (.cells cells t (0,0))) (ht:∀ q,q∈e :: d.E→q≠t):d.R e w base (fun k=>ok k∧k≠g) v xs :=
  R_mono (R_bound h) (fun k hk=>⟨hk.1,by
    obtain ⟨_,_,_,q,hq,cells',hc⟩:=hk;rintro rfl;rw [hc] at hb;injection hb with hb
    injection hb with _ hb
    exact ht q hq hb⟩)
theorem R_set (h:d.R e w base ok v xs) {g t:Nat} {cells:Array Value} (hb:w.heap[g]?=some (.cells cells t (0,0))) (ht:∀ q,q∈e :: d.E→q≠t) (j:Nat) (u:Value):d.R e (w.setCell ⟨g,j,none⟩ u) base ok v xs :=
  R_mono (R_far (p:=⟨g,j,none⟩) (R_types h hb ht) (fun _ hk=>hk.2) u) (fun _ hk=>hk.1)
theorem R_own (h:d.R e w base ok v xs):∃ inner,w.ownsRow base e d.sz v xs.length inner:=by
  obtain ⟨_,inner,ho,_⟩:=h;exact ⟨inner,ho⟩
end
end Kd
end WW
namespace WW
open Go.RowKit
namespace Kd
section
variable {α β:Type} {d:Kd α} {d':Kd β} {e e':Nat} {w w1 W:World} {base b b':Nat} {ok ok' okv oku:Nat→Prop} {v u:Value} {xs:List α} {ys:List β}
theorem R_lt (h:d.R e w base ok v xs):∀ k,v.ownBlock=some k→k < w.heap.size:=by
  obtain ⟨inner,ho⟩:=R_own h;exact own_lt ho
theorem R_base (h:d.R e w base ok v xs):∀ k,v.ownBlock=some k→base≤k:=by
  obtain ⟨inner,ho⟩:=R_own h;exact own_base ho
theorem R_away (h:d.R e w base ok v xs) {g:Nat} (hok:∀ k,ok k→k≠g):some g≠v.ownBlock:=fun e=>hok g (h.1 g e.symm) rfl
theorem R_form (h:d.R e w base ok v xs) (hp:0 < xs.length):∃ g cap,v=.slice (some ⟨g,0,none⟩) xs.length cap∧base≤g∧g < w.heap.size∧∃ cells,w.heap[g]?=some (.cells cells e (0,0)):=by
  obtain ⟨inner,ho⟩:=R_own h;obtain ⟨g,cap,he,hb,hl⟩:=ho.form hp;obtain ⟨cells,hc⟩:=own_typed ho g (by rw [he];simp [Value.ownBlock]);exact ⟨g,cap,he,hb,hl,cells,hc⟩
theorem R_over (h:d.R e W b ok u xs) (hv:d'.R e' W b' ok' v ys) (ht:∀ q,q∈e :: d.E→q≠e') (hg:W.grownBy w1 v.ownBlock):d.R e w1 b ok u xs:=by
  obtain ⟨inner,ho⟩:=R_own hv;refine R_mono (R_move (R_bound h) (fun k hk=>hg.block k hk.2.2.1 (fun he=>?_))) (fun _ hk=>hk.1);obtain ⟨_,_,_,q,hq,cells,hc⟩:=hk;obtain ⟨cells',hc'⟩:=own_typed ho k he.symm;rw [hc] at hc';injection hc' with hc'
  injection hc' with _ hc'
  exact ht q hq hc'
end
end Kd
end WW
namespace A
open Go.RowKit B WW WL WM
def gS (kind:Nat) (R:List UInt8) (i n most:Nat):Nat×List UInt8×Nat×Nat×Nat:=(kind,R.take n,i+n,if most < n then i else 0,if most < n then 9 else 0)
def wordH (R:List UInt8) (i:Nat):Nat×List UInt8×Nat×Nat×Nat:=if signN R=0 then (4,[],i,i,5) else gS 4 R i (signN R) 60
theorem drop_at {L:List UInt8} {i:Nat} {c:UInt8} {r:List UInt8} (h:L.drop i=c :: r):i < L.length∧L.getD i 0=c∧L.drop (i+1)=r:=by
  have hlt:i < L.length:=by
    rcases Nat.lt_or_ge i L.length with h1|h1
    · exact h1
    · rw [List.drop_eq_nil_of_le h1] at h;cases h
  rw [List.drop_eq_getElem_cons hlt] at h;obtain ⟨h1,h2⟩:=List.cons.inj h;exact ⟨hlt,by rw [List.getD_eq_getElem?_getD,List.getElem?_eq_getElem hlt,← h1];rfl,h2⟩
theorem drop_len {L:List UInt8} {i:Nat} {R:List UInt8} (h:L.drop i=R):R.length=L.length - i:=by rw [← h,List.length_drop]
def toI (l:List UInt8):List Int:=l.map (fun c=>(c.toNat:Int))
theorem toI_len (l:List UInt8):(toI l).length=l.length:=by unfold toI;rw [List.length_map]
theorem toI_snoc (l:List UInt8) (c:UInt8):toI l++[(c.toNat:Int)]=toI (l++[c]):=by unfold toI;rw [List.map_append];rfl
theorem wd6_g (L:List UInt8) (hL:L.length≤1000000) (i n kind most:Nat) (h:i+n≤L.length) {f:Nat→Option (Int×ByteArray×Int×Int×Int×Int)} (v:Int×ByteArray×Int×Int×Int×Int)
    (hv:v=if most < n then (0,⟨#[]⟩,0,0,(i:Int),9) else ((kind:Int),oL ((L.drop i).take n),(i:Int),((i+n:Nat):Int),0,0)) (hf:Ev f v):∃ v,Wd6 (gS kind (L.drop i) i n most) i v∧Ev f v:=by
  refine ⟨v,?_,hf⟩;subst hv;unfold Wd6 gS;by_cases hm:most < n
  · rw [if_pos hm];dsimp only;rw [if_pos hm,if_pos hm];exact ⟨rfl,fun _=>rfl,fun h=>by omega⟩
  · rw [if_neg hm];dsimp only;rw [if_neg hm,if_neg hm];exact ⟨rfl,fun h=>absurd rfl h,fun _=>⟨rfl,rfl,rfl,rfl⟩⟩
end A
end Go.Proofs.YtkbgkekegjfkfaaGreatDoor
namespace Go.Proofs
open Go.Shelf
theorem Tryz.lays156:Go.Proofs.Lays.n156 Tryz.prog Tryz.lays156_ren:={
  mixed:=by kernel_rfl
  f156:=Tryz.func32.trans (congrArg some (by kernel_rfl))
  f165:=Tryz.func75.trans (congrArg some (by kernel_rfl))
  f166:=Tryz.func76.trans (congrArg some (by kernel_rfl))
  f169:=Tryz.func77.trans (congrArg some (by kernel_rfl))
  f240:=Tryz.func103.trans (congrArg some (by kernel_rfl))
  f241:=Tryz.func104.trans (congrArg some (by kernel_rfl))
  f276:=Tryz.func135.trans (congrArg some (by kernel_rfl))
  f277:=Tryz.func136.trans (congrArg some (by kernel_rfl))
  t0:=Tryz.underlying0
  a0:=Tryz.isAgg0
  z0:=Tryz.sizeOf0
  v0:=Tryz.zeroValue0
  t3:=Tryz.underlying3
  a3:=Tryz.isAgg3
  z3:=Tryz.sizeOf3
  v3:=Tryz.zeroValue3
  t4:=Tryz.underlying4
  a4:=Tryz.isAgg4
  z4:=Tryz.sizeOf4
  v4:=Tryz.zeroValue4
  t9:=Tryz.underlying9
  a9:=Tryz.isAgg9
  z9:=Tryz.sizeOf9
  v9:=Tryz.zeroValue9
  t20:=Tryz.underlying20
  a20:=Tryz.isAgg20
  z20:=Tryz.sizeOf20
  v20:=Tryz.zeroValue20
  t31:=Tryz.underlying58
  a31:=Tryz.isAgg58
  z31:=Tryz.sizeOf58
  v31:=Tryz.zeroValue58
  t37:=Tryz.underlying102
  a37:=Tryz.isAgg102
  z37:=Tryz.sizeOf102
  v37:=Tryz.zeroValue102
  t70:=Tryz.underlying101
  a70:=Tryz.isAgg101
  z70:=Tryz.sizeOf101
  v70:=Tryz.zeroValue101
  t72:=Tryz.underlying104
  a72:=Tryz.isAgg104
  z72:=Tryz.sizeOf104
  v72:=Tryz.zeroValue104
  t75:=Tryz.underlying107
  a75:=Tryz.isAgg107
  z75:=Tryz.sizeOf107
  v75:=Tryz.zeroValue107
  t76:=Tryz.underlying108
  a76:=Tryz.isAgg108
  z76:=Tryz.sizeOf108
  v76:=Tryz.zeroValue108
  t127:=Tryz.underlying141
  a127:=Tryz.isAgg141
  z127:=Tryz.sizeOf141
  v127:=Tryz.zeroValue141
  t164:=Tryz.underlying164
  a164:=Tryz.isAgg164
  z164:=Tryz.sizeOf164
  v164:=Tryz.zeroValue164 }
theorem Tryz.lays144:Go.Proofs.Lays.n144 Tryz.prog Tryz.lays144_ren:={
  mixed:=by kernel_rfl
  f143:=Tryz.func96.trans (congrArg some (by kernel_rfl))
  f144:=Tryz.func64.trans (congrArg some (by kernel_rfl))
  f217:=Tryz.func141.trans (congrArg some (by kernel_rfl))
  f219:=Tryz.func130.trans (congrArg some (by kernel_rfl))
  f224:=Tryz.func143.trans (congrArg some (by kernel_rfl))
  f225:=Tryz.func142.trans (congrArg some (by kernel_rfl))
  f266:=Tryz.func148.trans (congrArg some (by kernel_rfl))
  f267:=Tryz.func144.trans (congrArg some (by kernel_rfl))
  f314:=Tryz.func149.trans (congrArg some (by kernel_rfl))
  t3:=Tryz.underlying3
  a3:=Tryz.isAgg3
  z3:=Tryz.sizeOf3
  v3:=Tryz.zeroValue3
  t4:=Tryz.underlying4
  a4:=Tryz.isAgg4
  z4:=Tryz.sizeOf4
  v4:=Tryz.zeroValue4
  t5:=Tryz.underlying5
  a5:=Tryz.isAgg5
  z5:=Tryz.sizeOf5
  v5:=Tryz.zeroValue5
  t9:=Tryz.underlying9
  a9:=Tryz.isAgg9
  z9:=Tryz.sizeOf9
  v9:=Tryz.zeroValue9
  t46:=Tryz.underlying172
  a46:=Tryz.isAgg172
  z46:=Tryz.sizeOf172
  v46:=Tryz.zeroValue172
  t51:=Tryz.underlying161
  a51:=Tryz.isAgg161
  z51:=Tryz.sizeOf161
  v51:=Tryz.zeroValue161
  t146:=Tryz.underlying185
  a146:=Tryz.isAgg185
  z146:=Tryz.sizeOf185
  v146:=Tryz.zeroValue185
  g1:=by kernel_rfl }
theorem Tryz.lays99:Go.Proofs.Lays.n99 Tryz.prog Tryz.lays99_ren:={
  mixed:=by kernel_rfl
  f99:=Tryz.func66.trans (congrArg some (by kernel_rfl))
  f206:=Tryz.func97.trans (congrArg some (by kernel_rfl))
  t3:=Tryz.underlying3
  a3:=Tryz.isAgg3
  z3:=Tryz.sizeOf3
  v3:=Tryz.zeroValue3
  t4:=Tryz.underlying4
  a4:=Tryz.isAgg4
  z4:=Tryz.sizeOf4
  v4:=Tryz.zeroValue4
  t9:=Tryz.underlying9
  a9:=Tryz.isAgg9
  z9:=Tryz.sizeOf9
  v9:=Tryz.zeroValue9 }
theorem Tryz.lays157:Go.Proofs.Lays.n157 Tryz.prog Tryz.lays157_ren:={
  mixed:=by kernel_rfl
  f157:=Tryz.func71.trans (congrArg some (by kernel_rfl))
  f199:=Tryz.func99.trans (congrArg some (by kernel_rfl))
  f229:=Tryz.func98.trans (congrArg some (by kernel_rfl))
  f261:=Tryz.func131.trans (congrArg some (by kernel_rfl))
  f311:=Tryz.func145.trans (congrArg some (by kernel_rfl))
  f312:=Tryz.func146.trans (congrArg some (by kernel_rfl))
  t0:=Tryz.underlying0
  a0:=Tryz.isAgg0
  z0:=Tryz.sizeOf0
  v0:=Tryz.zeroValue0
  t3:=Tryz.underlying3
  a3:=Tryz.isAgg3
  z3:=Tryz.sizeOf3
  v3:=Tryz.zeroValue3
  t4:=Tryz.underlying4
  a4:=Tryz.isAgg4
  z4:=Tryz.sizeOf4
  v4:=Tryz.zeroValue4
  t5:=Tryz.underlying5
  a5:=Tryz.isAgg5
  z5:=Tryz.sizeOf5
  v5:=Tryz.zeroValue5
  t9:=Tryz.underlying9
  a9:=Tryz.isAgg9
  z9:=Tryz.sizeOf9
  v9:=Tryz.zeroValue9
  t21:=Tryz.underlying21
  a21:=Tryz.isAgg21
  z21:=Tryz.sizeOf21
  v21:=Tryz.zeroValue21
  t31:=Tryz.underlying58
  a31:=Tryz.isAgg58
  z31:=Tryz.sizeOf58
  v31:=Tryz.zeroValue58
  t40:=Tryz.underlying135
  a40:=Tryz.isAgg135
  z40:=Tryz.sizeOf135
  v40:=Tryz.zeroValue135
  t46:=Tryz.underlying172
  a46:=Tryz.isAgg172
  z46:=Tryz.sizeOf172
  v46:=Tryz.zeroValue172
  t49:=Tryz.underlying177
  a49:=Tryz.isAgg177
  z49:=Tryz.sizeOf177
  v49:=Tryz.zeroValue177
  t51:=Tryz.underlying161
  a51:=Tryz.isAgg161
  z51:=Tryz.sizeOf161
  v51:=Tryz.zeroValue161
  t119:=Tryz.underlying133
  a119:=Tryz.isAgg133
  z119:=Tryz.sizeOf133
  t141:=Tryz.underlying163
  a141:=Tryz.isAgg163
  z141:=Tryz.sizeOf163
  v141:=Tryz.zeroValue163
  t152:=Tryz.underlying158
  a152:=Tryz.isAgg158
  z152:=Tryz.sizeOf158
  v152:=Tryz.zeroValue158
  t154:=Tryz.underlying160
  a154:=Tryz.isAgg160
  z154:=Tryz.sizeOf160
  v154:=Tryz.zeroValue160
  t193:=Tryz.underlying173
  a193:=Tryz.isAgg173
  z193:=Tryz.sizeOf173
  v193:=Tryz.zeroValue173
  t194:=Tryz.underlying174
  a194:=Tryz.isAgg174
  z194:=Tryz.sizeOf174
  v194:=Tryz.zeroValue174
  t196:=Tryz.underlying176
  a196:=Tryz.isAgg176
  z196:=Tryz.sizeOf176
  v196:=Tryz.zeroValue176
  t198:=Tryz.underlying179
  a198:=Tryz.isAgg179
  z198:=Tryz.sizeOf179
  v198:=Tryz.zeroValue179
  t201:=Tryz.underlying182
  a201:=Tryz.isAgg182
  z201:=Tryz.sizeOf182
  v201:=Tryz.zeroValue182
  t226:=Tryz.underlying187
  a226:=Tryz.isAgg187
  z226:=Tryz.sizeOf187
  v226:=Tryz.zeroValue187
  t227:=Tryz.underlying188
  a227:=Tryz.isAgg188
  z227:=Tryz.sizeOf188
  v227:=Tryz.zeroValue188
  g0:=by kernel_rfl
  g6:=by kernel_rfl }
end Go.Proofs
namespace Go.Proofs.YtkbgkekegjfkfaaGreatDoor
namespace WW
open Go.RowKit
section
variable {w w1:World} {base n size:Nat} {e:TypeId} {v:Value} {xs:List Value}
theorem add_at (g o j:Nat):(⟨g,o,none⟩:Addr).add j=⟨g,o+j,none⟩:=by unfold Addr.add;split <;> simp_all
theorem setCells_far {g:Nat}:∀ (vs:List Value) (o:Nat) {w:World} (k:Nat),k≠g→(w.setCells g o vs).heap[k]?=w.heap[k]?
 |[],_,_,_,_=>rfl
 |v :: r,o,w,k,hk=>by
    rw [World.setCells,setCells_far r (o+1) k hk];exact Below.heap_setCell w ⟨g,o,none⟩ v k hk
theorem setCells_same (g:Nat):∀ (vs:List Value) (o:Nat) (w:World),(w.setCells g o vs).os=w.os∧(w.setCells g o vs).tape=w.tape∧(w.setCells g o vs).output=w.output∧(w.setCells g o vs).heap.size=w.heap.size
 |[],_,_=>⟨rfl,rfl,rfl,rfl⟩
 |v :: r,o,w=>by
    obtain ⟨h1,h2,h3,h4⟩:=setCells_same g r (o+1) (w.setCell ⟨g,o,none⟩ v);rw [World.setCells];exact ⟨h1,h2,h3,by rw [h4];simp [World.setCell]⟩
end
end WW
namespace WL
section
variable {P:Program} {ops:Array Oper} {Q:Exit→Act→World→Prop} {md:Region.Mode} {S:World→Prop} {ds:List Nat}
theorem norm_ {fuel:Nat} {l:Array Bool} {a a':Act} {w:World} (ha:a=a') (h:wpAnyLast P md ops Q S ds fuel l a' w):wpAnyLast P md ops Q S ds fuel l a w:=by
  subst ha;exact h
theorem call_ {oi:Oper} {N:Option Tmp} {a:Act} {w:World} {K:Act→World→Prop} (f:FuncId) (args:Array Value) (hw:Region.wanted oi (yielded ops a.tmps)=true) (hN:oi.dst=N) (hrun:(execOp a.eval oi).run P w=.ok (.enter f args) w)
    (h:Calls P f args w fun e w'=>∃ v,e=.returned v∧K (a.put N v) w'):if Region.wanted oi (yielded ops a.tmps)=true then Oper.wp P oi a w K Q else K (a.put N undef) w:=by
  rw [if_pos hw];subst hN;unfold Oper.wp;rw [hrun,Oper.upon_enter];refine h.mono fun e w'' hh=>?_
  obtain ⟨v,rfl,hk⟩:=hh;exact hk
theorem goes_ {oi : Oper} {N : Option Tmp} {a : Act} {w : World} {K : Act → World → Prop} {f : FuncId} {fn : Func} {as_ : Array Operand} {ts : Array TypeId} (hf : P.funcs[f]? = some fn) (hname : (fn.name == "runtime.NumGoroutine") = false) (hb : fn.body.isSome = true) (args : Array Value)
    (hw:Region.wanted oi (yielded ops a.tmps)=true) (hN:oi.dst=N) (hop:oi.op=.call { callee:=.value (.func f),args:=as_,argTypes:=ts }) (hargs:as_.map a.eval=args)
    (h:Calls P f args w fun e w'=>∃ v,e=.returned v∧K (a.put N v) w'):if Region.wanted oi (yielded ops a.tmps)=true then Oper.wp P oi a w K Q else K (a.put N undef) w:=by
  refine call_ f args hw hN ?_ h;have he:=enters_ hf hname hb args w;unfold execOp;simp [hop,resolve,Deferred.ofValue,invoke,Act.eval,hargs,he]
theorem value_ {oi:Oper} {N:Option Tmp} {a:Act} {w w1:World} {v:Value} {K:Act→World→Prop} (hw:Region.wanted oi (yielded ops a.tmps)=true) (hN:oi.dst=N) (hrun:(execOp a.eval oi).run P w=.ok (.value v) w1)
    (h:K (a.put N v) w1):if Region.wanted oi (yielded ops a.tmps)=true then Oper.wp P oi a w K Q else K (a.put N undef) w:=by
  rw [if_pos hw];subst hN;unfold Oper.wp;rw [hrun];exact h
end
end WL
namespace B
open Go.RowKit
theorem any_set {W:World} {a b:Addr} (v:Value) (h:∃ x,W.cell? a=some x):∃ x,(W.setCell b v).cell? a=some x:=by
  obtain ⟨x,hx⟩:=h;by_cases e:b=a
  · subst e;exact ⟨v,World.cell?_setCell_same _ _ _ hx⟩
  · exact ⟨x,by rw [World.cell?_setCell_other (h:=e)];exact hx⟩
theorem any_drew {W:World} {a:Addr} (h:∃ x,W.cell? a=some x):∃ x,W.drew.cell? a=some x:=h
theorem has_drew {W:World} {a:Addr} {v:Value} (h:W.cell? a=some v):W.drew.cell? a=some v:=h
end B
namespace WW
open Go.RowKit
namespace Kd
section
variable {α:Type} {d:Kd α} {e e':Nat} {w w1 W:World} {base:Nat} {ok:Nat→Prop} {u v:Value} {xs:List α}
theorem R_elder' (hu:d.R e W base ok u xs) (hbase:∀ k,v.ownBlock=some k→W.heap.size≤k) (hb:Below W.heap.size W w1):d.R e w1 base (fun k=>ok k∧some k≠v.ownBlock) u xs :=
  R_mono (R_move (R_bound hu) (fun k hk=>hb.block k hk.2.2.1)) (fun k hk=>⟨hk.1,fun he=>by have:=hbase k he.symm;have:=hk.2.2.1;omega⟩)
theorem R_new' (h:d.R e w1 W.heap.size ok v xs) (hlt:∀ k,u.ownBlock=some k→k < W.heap.size):d.R e w1 W.heap.size (fun k=>ok k∧some k≠u.ownBlock) v xs :=
  R_mono (R_bound h) (fun k hk=>⟨hk.1,fun he=>by have:=hlt k he.symm;have:=hk.2.1;omega⟩)
end
end Kd
end WW
namespace WW
open Go.RowKit
namespace Kd
section
variable {α:Type} {d:Kd α} {e base g:Nat} {ok:Nat→Prop} {w w1:World} {v:Value} {xs:List α} {o:Obj}
theorem R_elderB (h:d.R e w base ok v xs) (a:Nat) (ha:w.heap.size≤a):d.R e w base (fun k=>ok k∧k≠a) v xs:=R_mono (R_bound h) (fun k hk=>⟨hk.1,by have:=hk.2.2.1;omega⟩)
theorem freshB (hb:w.heap[g]?=some o):∀ k,w.heap.size≤k→k≠g:=fun k hk=>by have:=blk_lt hb;omega
end
end Kd
end WW
namespace WW
open Go.RowKit
theorem more_rounds {α:Type} {g:Nat→Option α} (h:∀ k,LeO (g k) (g (k+1))) (k:Nat):∀ j,LeO (g k) (g (k+j))
 |0=>LeO.refl _
 |j+1=>(more_rounds h k j).trans (h (k+j))
theorem at_rounds {α:Type} {g:Nat→Option α} (h:∀ k,LeO (g k) (g (k+1))) {k k':Nat} (hk:k≤k') {r:α} (hr:g k=some r):g k'=some r:=by
  have:=more_rounds h k (k' - k) r hr;rwa [Nat.add_sub_cancel' hk] at this
theorem Ev.of {α:Type} {g:Nat→Option α} {r:α} (hg:∀ k,LeO (g k) (g (k+1))) {k:Nat} (h:g k=some r):Ev g r:=⟨k,fun _ hk=>at_rounds hg hk h⟩
theorem own_base' {w:World} {base:Nat} {e:TypeId} {size n:Nat} {v:Value} {xs:List Value} (h:w.ownsRow base e size v n xs):v.ownBlock=none∨∃ b,v.ownBlock=some b∧base≤b:=by
  cases hv:v.ownBlock with
 |none=>exact .inl rfl
 |some b=>exact .inr ⟨b,rfl,own_base h b hv⟩
end WW
namespace WW
open Go.RowKit
namespace Foot
variable {P Q:World→Prop} {W W1:World} {ok ok':Nat→Prop}
theorem now (h:Foot P W ok):P W:=h W (fun _ _ _=>rfl)
theorem imp (h:Foot P W ok) (hi:∀ W',P W'→Q W'):Foot Q W ok:=fun W' hW=>hi W' (h W' hW)
end Foot
end WW
namespace WW
open Go.RowKit
section
variable {P:Program} {ops:Array Oper} {o:Oper} {a:Act} {Q:Exit→Act→World→Prop} {K:Act→World→Prop}
theorem step_append_cells {w0 W:World} (base:Nat) (hw:Region.wanted o (yielded ops a.tmps)=true) (s x:Operand) (t e:TypeId) (z:Value) (size bytes:Nat)
    (ho:o.op=.call { callee:=.builtin .append,args:=#[s,x],argTypes:=#[t,t] })
    (ht:P.underlying t=some (.slice e)) (hinfo:(P.info? e).map (fun i=>(i.zero,i.size,i.bytes))=some (some z,size,bytes)) (hz:z.cells.size=size) (hs0:0 < size) (hb0:0 < bytes)
    (v:Value) (n:Nat) (xs ys:List Value) (hs:a.eval s=v) (hx:a.eval x=.slice (some ⟨W.heap.size,0,none⟩) 1 1) (hys:ys.length=size) (h1:∀ u∈ys,u.oneCell'=true)
    (HO:W.ownsRow base e size v n xs) (HB:Below base w0 W) (hbase:base≤W.heap.size) (hl:(n+1) * bytes≤140737488355328)
    (h:∀ v1 w1,w1.ownsRow base e size v1 (n+1) (xs++ys)→Below base w0 w1→W.grownBy w1 v.ownBlock→(v1.ownBlock=v.ownBlock∨∃ b,v1.ownBlock=some b∧W.heap.size≤b)→K (a.put o.dst v1) w1) :
    if Region.wanted o (yielded ops a.tmps)=true then Oper.wp P o a (W.alloc (.cells ys.toArray e)) K Q else K (a.put o.dst undef) (W.alloc (.cells ys.toArray e)):=by
  obtain ⟨i0,hi,hzz⟩:=Option.map_eq_some_iff.1 hinfo;simp only [Prod.mk.injEq] at hzz
  obtain ⟨hz0,hz1,hz2⟩:=hzz;have hlen:n+1≤140737488355328:=Nat.le_trans (Nat.le_mul_of_pos_right _ hb0) hl;rw [if_pos hw]
  obtain ⟨v1,w1,hr,hown,hg,_,hat⟩:=run_append_own_at (P:=P) (W.alloc (.cells ys.toArray e)) base t o.type e i0 z size bytes ht hi hz0 hz1 hz2 hz hs0 v n xs (HO.alloc _) ⟨W.heap.size,0,none⟩ 1 1 ys (by rw [hys];simp)
    (by simpa using World.news_of_block (cs:=ys.toArray) (t:=e) (fr:=(0,0)) (heap_alloc_new W (.cells ys.toArray e))) h1 (by simp only [maxLen];omega) hl (by simp;omega)
  unfold Oper.wp execOp;simp only [ho,resolve,invoke,builtin,Sem.run_bind,Sem.run_pure,Result.andThen_ok,List.map_toArray,List.map_cons,List.map_nil,hs,hx,hr]
  refine h v1 w1 hown ((HB.alloc hbase _).grown hg (by simp;omega) (own_base HO)) (World.grownBy.trans (World.grownBy_alloc W _ _) hg) ?_;rcases hat with hat|hat
  · exact .inl hat
  · exact .inr ⟨_,hat,by simp⟩
end
end WW
namespace WW
open Go.RowKit
section
variable {P:Program}
theorem results_ct {fn:Func} {p u:Tmp} {ty:TypeId} (h:fn.results=#[.cell p ty,.tmp u]) (tmps:Array Value) (w:World) (g:Nat) (t:TypeId) (cs:Array Value) (fr:Nat×Nat) (d:TypeDesc)
    (hp:tmps.getD p undef=.pointer (some ⟨g,0,none⟩)) (hg:w.heap[g]?=some (.cells cs t fr))
    (hu:P.underlying ty=some d) (hd:(match d with|.struct _|.array _ _=>true|_=>false)=true) (hi:(P.info? ty).map (·.size)=some cs.size) :
    (results fn tmps).run P w=.ok (.tuple #[.agg cs,tmps.getD u undef]) w:=by
  have hp':tmps[p]?.getD undef=.pointer (some ⟨g,0,none⟩):=by simpa using hp
  simp [results,h,hp',asAddr,run_loadVar_row w g t ty cs fr d hg hu hd hi]
end
end WW
namespace WW
open Go.RowKit
namespace Kd
section
variable {α β:Type} {d:Kd α} {d':Kd β} {e e' base base' n:Nat} {ok ok':Nat→Prop} {w W w1 W1:World} {v u:Value} {xs:List α} {ys:List β} {A:Option Addr} {c:Nat}
theorem R_base2 (h:d.R e w base ok v xs):v.ownBlock=none∨∃ k,v.ownBlock=some k∧base≤k:=by
  obtain ⟨inner,ho⟩:=R_own h;exact own_base' ho
end
end Kd
end WW
namespace WW
open Go.RowKit
namespace Kd
section
variable {α:Type} {d:Kd α} {e base g n cap:Nat} {ok okp:Nat→Prop} {W:World} {xs:List α}
theorem R_elem (h:d.R e W base ok (.slice (some ⟨g,0,none⟩) n cap) xs) (z:α) (i:Int) (h0:0≤i) (h1:i < n) :
    ∃ c,c.length=d.sz∧d.M W base (fun k=>ok k∧k≠g) (xs.getD i.toNat z) c∧(∀ j u,c[j]?=some u→W.cell? ⟨g,i.toNat * d.sz+j,none⟩=some u)∧∀ j,W.frozen? ⟨g,i.toNat * d.sz+j,none⟩=false:=by
  obtain ⟨hn,hnc,hC⟩:=R_reads' h;obtain ⟨_,inner,ho,hr⟩:=h;have hil:i.toNat < xs.length:=by omega
  have hseg:i.toNat * d.sz+d.sz≤inner.length:=by rw [hr.1,← Nat.succ_mul];exact Nat.mul_le_mul_right _ hil
  have hM:=hr.2 i.toNat _ (List.getElem?_eq_getElem hil);refine ⟨(inner.drop (i.toNat * d.sz)).take d.sz,by rw [List.length_take,List.length_drop];omega,?_,fun j u hu=>?_,fun j=>?_⟩
  · rw [List.getD_eq_getElem?_getD,List.getElem?_eq_getElem hil]
    exact d.M_mono (fun k hk=>⟨hk.1,fun he=>hk.2 (by rw [he];simp [Value.ownBlock])⟩) hM
  · rw [List.getElem?_take] at hu
    split at hu
    · rw [List.getElem?_drop] at hu
      have:=ho.cells (g:=g) (by simp [Value.ownBlock]) _ u hu;rwa [add_plain] at this
    · cases hu
  · obtain ⟨cells,hc⟩:=own_typed ho g (by simp [Value.ownBlock])
    exact blk_frozen hc _
end
end Kd
end WW
namespace WW
open Go.RowKit
namespace Kd
theorem reps_append {α:Type} {R:α→List Value→Prop} {size:Nat} {ps qs:List α} {cs ds:List Value} (h:Reps R size ps cs) (h':Reps R size qs ds):Reps R size (ps++qs) (cs++ds):=by
  refine ⟨by rw [List.length_append,List.length_append,h.1,h'.1,Nat.add_mul],fun j p hj=>?_⟩;rcases Nat.lt_or_ge j ps.length with hlt|hge
  · rw [List.getElem?_append_left hlt] at hj
    have hle:j * size+size≤cs.length:=by rw [h.1,← Nat.succ_mul];exact Nat.mul_le_mul_right _ hlt
    rw [List.drop_append_of_le_length (by omega),List.take_append_of_le_length (by rw [List.length_drop];omega)];exact h.2 j p hj
  · rw [List.getElem?_append_right hge] at hj
    have h2:=h'.2 (j - ps.length) p hj;have hle:ps.length * size≤j * size:=Nat.mul_le_mul_right _ hge;rw [List.drop_append,List.drop_eq_nil_of_le (by rw [h.1];exact hle),List.nil_append,h.1,← Nat.sub_mul];exact h2
end Kd
end WW
namespace WW
open Go.RowKit
section
variable {w W W2:World} {S S2 S':Nat→Prop}
theorem Kept.of_grown {row:Option Nat} (hg:W.grownBy W2 row) (h:Kept w W S) (hr:∀ k,row=some k→S k∨w.heap.size≤k):Kept w W2 S :=
  h.then_ (S2:=fun k=>row=some k) ⟨hg.size,fun i hi hn=>hg.block i hi (fun he=>hn he.symm)⟩ hr
end
end WW

end Go.Proofs.YtkbgkekegjfkfaaGreatDoor