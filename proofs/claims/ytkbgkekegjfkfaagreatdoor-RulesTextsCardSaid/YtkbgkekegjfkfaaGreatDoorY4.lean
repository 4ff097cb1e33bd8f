-- By pack.py, a program of this session's.
import Derived.Test.YtkbgkekegjfkfaaGreatDoorY0
import Derived.Test.YtkbgkekegjfkfaaGreatDoorY1
set_option linter.unusedVariables false
set_option linter.unusedSimpArgs false
namespace Go.Proofs.YtkbgkekegjfkfaaGreatDoor.A
open Go.RowKit B WW WL WM
theorem zq11 {P:Prop} (h:P:=by first | (go_simp;done) | (go_simp;rfl)):P:=h
theorem zq12 {P:Prop} (h:P:=by repeat (first | (with_reducible first | exact HB.out | apply below_alloc | apply pw_below_drewN | apply below_drew1 | refine below_set ?_ GE228.out | refine below_set ?_ GE229.out) | exact HB.out)):P:=h
theorem zq21 {P:Prop} (h:P:=by repeat (first | (with_reducible first | exact HB.out | apply below_alloc | apply pw_below_drewN | apply below_drew1 | refine below_set ?_ GE236.out) | exact HB.out)):P:=h
theorem zq22 {P:Prop} (h:P:=by repeat (first | (with_reducible first | exact HB.out | exact Below.refl _ _ | apply below_alloc | apply pw_below_drewN | apply below_drew1) | exact HB.out)):P:=h
theorem zq29 {P:Prop} (h:P:=by repeat (first | (with_reducible first | exact HB.out | apply below_alloc | apply pw_below_drewN | apply below_drew1 | refine below_set ?_ GE250.out) | exact HB.out)):P:=h
theorem zq30 {P:Prop} (h:P:=by (try simp only [List.map_toArray,List.map_cons,List.map_nil]);first | done | rfl):P:=h
theorem zq44 {P:Prop} (h:P:=by repeat (first | (with_reducible first | exact HB.out | apply below_alloc | apply pw_below_drewN | apply below_drew1 | refine below_set ?_ GE245.out | refine below_set ?_ GE246.out) | exact HB.out)):P:=h
theorem zq94 {P:Prop} (h:P:=by repeat (first | (with_reducible first | exact HB.out | apply below_alloc | apply pw_below_drewN | apply below_drew1 | refine below_set ?_ GE101.out) | exact HB.out)):P:=h
theorem zq109 {P:Prop} (h:P:=by repeat (first | (with_reducible first | exact HB.out | apply below_alloc | apply pw_below_drewN | apply below_drew1 | refine below_set ?_ GE357.out) | exact HB.out)):P:=h
theorem zq110 {P:Prop} (h:P:=by repeat (first | (with_reducible first | exact HB.out | exact Below.refl _ _ | apply below_alloc | apply pw_below_drewN | apply below_drew1 | refine below_set ?_ GE357.out) | exact HB.out)):P:=h
theorem zq112 {P:Prop} (h:P:=by exact Kd.C_below HR0_1.out (by repeat (first | (with_reducible first | exact HB.out | apply below_alloc | apply pw_below_drewN | apply below_drew1 | refine below_set ?_ GE357.out | refine below_set ?_ GE375.out) | exact HB.out))):P:=h
theorem zq113 {P:Prop} (h:P:=by exact Kd.C_below HR0_4.out (by repeat (first | (with_reducible first | exact HB.out | apply below_alloc | apply pw_below_drewN | apply below_drew1 | refine below_set ?_ GE357.out | refine below_set ?_ GE375.out) | exact HB.out))):P:=h
theorem zq115 {P:Prop} (h:P:=by repeat (first | (with_reducible first | exact HB.out | apply below_alloc | apply pw_below_drewN | apply below_drew1 | refine below_set ?_ GE357.out | refine below_set ?_ GE375.out) | exact HB.out)):P:=h
theorem zq121 {P:Prop} (h:P:=by repeat (first | (with_reducible first | exact HB.out | apply below_alloc | apply pw_below_drewN | apply below_drew1 | refine below_set ?_ GE117.out) | exact HB.out)):P:=h
theorem zq123 {P:Prop} (h:P:=by repeat (first | (with_reducible first | exact HB.out | apply below_alloc | apply pw_below_drewN | apply below_drew1 | refine below_set ?_ GE156.out | refine below_set ?_ GE158.out) | exact HB.out)):P:=h
theorem zq128 {P:Prop} (h:P:=by repeat (first | (with_reducible first | exact HB.out | apply below_alloc | apply pw_below_drewN | apply below_drew1 | refine below_set ?_ GE175.out) | exact HB.out)):P:=h
theorem zq129 {P:Prop} (h:P:=by repeat (first | (with_reducible first | exact HB.out | apply below_alloc | apply pw_below_drewN | apply below_drew1 | refine below_set ?_ GE201.out) | exact HB.out)):P:=h
end Go.Proofs.YtkbgkekegjfkfaaGreatDoor.A
namespace Go.Proofs.YtkbgkekegjfkfaaGreatDoor.B
open Go.Lib Go.RowKit WW
theorem ret_int {k:IntKind} {a b:Int} (h:a=b):Ending.returned (.int k a)=.returned (.int k b):=by rw [h]
def trow (u a:Nat):Array Value:=Array.ofFn (n:=20) fun t=>if a≤t.val then .int .u8 ((48+u / 10 ^ (19 - t.val) % 10:Nat):Int) else .int .u8 0
theorem trow_size (u a:Nat):(trow u a).size=20:=by simp [trow]
theorem trow_at (u a i:Nat) (h:i < 20):(trow u a)[i]?=some (.int .u8 (if a≤i then ((48+u / 10 ^ (19 - i) % 10:Nat):Int) else 0)):=by
  simp only [trow,Array.getElem?_ofFn,h,dif_pos]
  split <;> rfl
theorem trow_start (u:Nat):trow u 20=Array.replicate 20 (.int .u8 0):=by
  apply Array.ext_getElem?;intro i;by_cases h:i < 20
  · rw [trow_at u 20 i h,if_neg (by omega),Array.getElem?_replicate,if_pos h]
  · rw [Array.getElem?_eq_none (by simp [trow_size];omega),Array.getElem?_eq_none (by simp;omega)]
theorem trow_set (u a k:Nat) (v:Int) (h:a+k=19) (hv:v=((48+u / 10 ^ k % 10:Nat):Int)):(trow u (a+1)).setIfInBounds a (.int .u8 v)=trow u a:=by
  apply Array.ext_getElem?;intro i;by_cases hi:i < 20
  · rw [Array.getElem?_setIfInBounds,trow_at u a i hi,trow_at u (a+1) i hi,trow_size]
    by_cases e:a=i
    · subst e;rw [if_pos rfl,if_pos hi,if_pos (Nat.le_refl _),hv,show 19 - a=k by omega]
    · rw [if_neg e]
      by_cases h2:a≤i
      · rw [if_pos h2,if_pos (by omega)]
      · rw [if_neg h2,if_neg (by omega)]
  · rw [Array.getElem?_eq_none (by simp [trow_size];omega),Array.getElem?_eq_none (by simp [trow_size];omega)]
theorem add_plain' (b j:Nat):(⟨b,0,none⟩:Addr).add j=⟨b,j,none⟩:=by
  unfold Addr.add;split
  · rename_i h;subst h;rfl
  · simp
theorem mul_ways {a0 a1:Int} {m:Int×Bool} (hm:m=fit (a0 * a1)) {x y:Int} (hx:x=((a0.natAbs * a1.natAbs:Nat):Int) / 18446744073709551616) (hy:y=((a0.natAbs * a1.natAbs:Nat):Int) % 18446744073709551616) (s:Bool)
    (hs:(decide (a0 < 0) != decide (a1 < 0))=s) :
    (m=(a0 * a1,true)∧wrap64 (a0 * a1)=a0 * a1∧x≤0∧y≤(if s=true then 9223372036854775808 else 9223372036854775807))∨(m=(0,false)∧0 < x)∨(m=(0,false)∧x≤0∧(if s=true then 9223372036854775808 else 9223372036854775807) < y):=by
  obtain ⟨p,hp⟩:∃ p:Nat,p=a0.natAbs * a1.natAbs:=⟨_,rfl⟩
  have q1:=@fit_of_mul_neg a0 a1 p hp;have q2:=@fit_of_mul_neg' a0 a1 p hp;have q3:=@fit_of_mul_pos a0 a1 p hp;have q4:=@fit_of_mul_pos' a0 a1 p hp;rw [← hp] at hx hy;rw [← hm] at q1 q2 q3 q4
  have hw:m=(a0 * a1,true)→wrap64 (a0 * a1)=a0 * a1:=fun h=>by
    have h2:=hm.symm.trans h;unfold fit at h2;split at h2
    · rename_i h3;unfold I64 at h3;unfold wrap64;omega
    · simp at h2
  cases s
  · by_cases hle:p≤9223372036854775807
    · exact .inl ⟨q3 hs hle,hw (q3 hs hle),by omega,by simp;omega⟩
    · have:=q4 hs hle
      by_cases h0:0 < x
      · exact .inr (.inl ⟨this,h0⟩)
      · exact .inr (.inr ⟨this,by omega,by simp;omega⟩)
  · by_cases hle:p≤9223372036854775808
    · exact .inl ⟨q1 hs hle,hw (q1 hs hle),by omega,by simp;omega⟩
    · have:=q2 hs hle
      by_cases h0:0 < x
      · exact .inr (.inl ⟨this,h0⟩)
      · exact .inr (.inr ⟨this,by omega,by simp;omega⟩)
theorem ret_tup {k:IntKind} {a b:Int} {c:Value} (h:a=b):Ending.returned (.tuple #[.int k a,c])=.returned (.tuple #[.int k b,c]):=by rw [h]
theorem DInv.start {c R0 W:Nat} (h:R0 < c) (hW:W < 18446744073709551616):DInv c R0 W 64 0 R0 :=
  ⟨Nat.le_refl _,by rw [Nat.div_eq_of_lt (show W < 2 ^ 64 from hW)];simp,h,h,hW⟩
theorem DInv.next {c R0 W k Q r:Nat} (h:DInv c R0 W (k+1) Q r) :
    (c≤2 * r+W / 2 ^ k % 2→DInv c R0 W k (2 * Q+1) (2 * r+W / 2 ^ k % 2 - c))∧(2 * r+W / 2 ^ k % 2 < c→DInv c R0 W k (2 * Q) (2 * r+W / 2 ^ k % 2)):=by
  have hk:=h.le;have h1:2 ^ (64 - k)=2 * 2 ^ (64 - (k+1)):=by rw [show 64 - k=64 - (k+1)+1 by omega,Nat.pow_succ];omega
  have h2:W / 2 ^ k=2 * (W / 2 ^ (k+1))+W / 2 ^ k % 2:=by rw [Nat.pow_succ,← Nat.div_div_eq_div_mul];omega
  have h3:=h.eq;have h4:=h.lt
  have key:R0 * 2 ^ (64 - k)+W / 2 ^ k=2 * (Q * c)+(2 * r+W / 2 ^ k % 2):=by
    rw [h1,show R0 * (2 * 2 ^ (64 - (k+1)))=2 * (R0 * 2 ^ (64 - (k+1))) by rw [Nat.mul_left_comm]];omega
  constructor
  · intro hc
    refine ⟨by omega,?_,by omega,h.lt0,h.ltW⟩;rw [key,Nat.add_mul,Nat.one_mul,Nat.mul_assoc];omega
  · intro hc
    refine ⟨by omega,?_,hc,h.lt0,h.ltW⟩;rw [key,Nat.mul_assoc]
theorem lt_of_cell {w:World} {a:Addr} {v:Value} (h:w.cell? a=some v):a.block < w.heap.size:=by
  unfold World.cell? at h
  cases hh:w.heap[a.block]? with
  | none=>rw [hh] at h;cases h
  | some o=>exact (Array.getElem?_eq_some_iff.1 hh).1
end Go.Proofs.YtkbgkekegjfkfaaGreatDoor.B
namespace Go.Proofs.YtkbgkekegjfkfaaGreatDoor.A
open Go.RowKit B WW WL WM
def gS (kind:Nat) (R:List UInt8) (i n most:Nat):Nat×List UInt8×Nat×Nat×Nat:=(kind,R.take n,i+n,if most < n then i else 0,if most < n then 9 else 0)
def wordH (R:List UInt8) (i:Nat):Nat×List UInt8×Nat×Nat×Nat:=if signN R=0 then (4,[],i,i,5) else gS 4 R i (signN R) 60
theorem drop_at {L:List UInt8} {i:Nat} {c:UInt8} {r:List UInt8} (h:L.drop i=c :: r):i < L.length∧L.getD i 0=c∧L.drop (i+1)=r:=by
  have hlt:i < L.length:=by
    rcases Nat.lt_or_ge i L.length with h1 | h1
    · exact h1
    · rw [List.drop_eq_nil_of_le h1] at h;cases h
  rw [List.drop_eq_getElem_cons hlt] at h;obtain ⟨h1,h2⟩:=List.cons.inj h;exact ⟨hlt,by rw [List.getD_eq_getElem?_getD,List.getElem?_eq_getElem hlt,← h1];rfl,h2⟩
theorem drop_len {L:List UInt8} {i:Nat} {R:List UInt8} (h:L.drop i=R):R.length=L.length - i:=by rw [← h,List.length_drop]
def toI (l:List UInt8):List Int:=l.map (fun c=>(c.toNat:Int))
theorem toI_len (l:List UInt8):(toI l).length=l.length:=by unfold toI;rw [List.length_map]
theorem toI_snoc (l:List UInt8) (c:UInt8):toI l++[(c.toNat:Int)]=toI (l++[c]):=by unfold toI;rw [List.map_append];rfl
def tailW (ws:List (List UInt8)):List UInt8:=(ws.map ([32]++·)).flatten
theorem tailW_nil:tailW []=[]:=rfl
theorem tailW_cons (w:List UInt8) (r:List (List UInt8)):tailW (w :: r)=32 :: (w++tailW r):=rfl
theorem partyW_len (par:ByteArray):(tailW (partyW par)).length≤7+par.size:=by
  unfold partyW;rw [size_eq'];split
  · exact Nat.zero_le _
  · rw [tailW_cons,tailW_cons,tailW_nil];simp only [List.length_cons,List.length_append,List.length_nil];omega
theorem partyT_fst (par:ByteArray):(partyT par).map (·.1)=partyW par:=by unfold partyT partyW;split <;> rfl
end Go.Proofs.YtkbgkekegjfkfaaGreatDoor.A
namespace Go.Proofs
open Go.Shelf
theorem Tryz.lays156:Go.Proofs.Lays.n156 Tryz.prog Tryz.lays156_ren:={
  mixed:=by kernel_rfl
  f156:=Tryz.func32.trans (congrArg some (by kernel_rfl))
  f165:=Tryz.func75.trans (congrArg some (by kernel_rfl))
  f166:=Tryz.func76.trans (congrArg some (by kernel_rfl))
  f169:=Tryz.func77.trans (congrArg some (by kernel_rfl))
  f240:=Tryz.func103.trans (congrArg some (by kernel_rfl))
  f241:=Tryz.func104.trans (congrArg some (by kernel_rfl))
  f276:=Tryz.func135.trans (congrArg some (by kernel_rfl))
  f277:=Tryz.func136.trans (congrArg some (by kernel_rfl))
  t0:=Tryz.underlying0
  a0:=Tryz.isAgg0
  z0:=Tryz.sizeOf0
  v0:=Tryz.zeroValue0
  t3:=Tryz.underlying3
  a3:=Tryz.isAgg3
  z3:=Tryz.sizeOf3
  v3:=Tryz.zeroValue3
  t4:=Tryz.underlying4
  a4:=Tryz.isAgg4
  z4:=Tryz.sizeOf4
  v4:=Tryz.zeroValue4
  t9:=Tryz.underlying9
  a9:=Tryz.isAgg9
  z9:=Tryz.sizeOf9
  v9:=Tryz.zeroValue9
  t20:=Tryz.underlying20
  a20:=Tryz.isAgg20
  z20:=Tryz.sizeOf20
  v20:=Tryz.zeroValue20
  t31:=Tryz.underlying58
  a31:=Tryz.isAgg58
  z31:=Tryz.sizeOf58
  v31:=Tryz.zeroValue58
  t37:=Tryz.underlying102
  a37:=Tryz.isAgg102
  z37:=Tryz.sizeOf102
  v37:=Tryz.zeroValue102
  t70:=Tryz.underlying101
  a70:=Tryz.isAgg101
  z70:=Tryz.sizeOf101
  v70:=Tryz.zeroValue101
  t72:=Tryz.underlying104
  a72:=Tryz.isAgg104
  z72:=Tryz.sizeOf104
  v72:=Tryz.zeroValue104
  t75:=Tryz.underlying107
  a75:=Tryz.isAgg107
  z75:=Tryz.sizeOf107
  v75:=Tryz.zeroValue107
  t76:=Tryz.underlying108
  a76:=Tryz.isAgg108
  z76:=Tryz.sizeOf108
  v76:=Tryz.zeroValue108
  t127:=Tryz.underlying141
  a127:=Tryz.isAgg141
  z127:=Tryz.sizeOf141
  v127:=Tryz.zeroValue141
  t164:=Tryz.underlying164
  a164:=Tryz.isAgg164
  z164:=Tryz.sizeOf164
  v164:=Tryz.zeroValue164 }
theorem Tryz.lays144:Go.Proofs.Lays.n144 Tryz.prog Tryz.lays144_ren:={
  mixed:=by kernel_rfl
  f143:=Tryz.func96.trans (congrArg some (by kernel_rfl))
  f144:=Tryz.func64.trans (congrArg some (by kernel_rfl))
  f217:=Tryz.func141.trans (congrArg some (by kernel_rfl))
  f219:=Tryz.func130.trans (congrArg some (by kernel_rfl))
  f224:=Tryz.func143.trans (congrArg some (by kernel_rfl))
  f225:=Tryz.func142.trans (congrArg some (by kernel_rfl))
  f266:=Tryz.func148.trans (congrArg some (by kernel_rfl))
  f267:=Tryz.func144.trans (congrArg some (by kernel_rfl))
  f314:=Tryz.func149.trans (congrArg some (by kernel_rfl))
  t3:=Tryz.underlying3
  a3:=Tryz.isAgg3
  z3:=Tryz.sizeOf3
  v3:=Tryz.zeroValue3
  t4:=Tryz.underlying4
  a4:=Tryz.isAgg4
  z4:=Tryz.sizeOf4
  v4:=Tryz.zeroValue4
  t5:=Tryz.underlying5
  a5:=Tryz.isAgg5
  z5:=Tryz.sizeOf5
  v5:=Tryz.zeroValue5
  t9:=Tryz.underlying9
  a9:=Tryz.isAgg9
  z9:=Tryz.sizeOf9
  v9:=Tryz.zeroValue9
  t46:=Tryz.underlying172
  a46:=Tryz.isAgg172
  z46:=Tryz.sizeOf172
  v46:=Tryz.zeroValue172
  t51:=Tryz.underlying161
  a51:=Tryz.isAgg161
  z51:=Tryz.sizeOf161
  v51:=Tryz.zeroValue161
  t146:=Tryz.underlying185
  a146:=Tryz.isAgg185
  z146:=Tryz.sizeOf185
  v146:=Tryz.zeroValue185
  g1:=by kernel_rfl }
theorem Tryz.lays99:Go.Proofs.Lays.n99 Tryz.prog Tryz.lays99_ren:={
  mixed:=by kernel_rfl
  f99:=Tryz.func66.trans (congrArg some (by kernel_rfl))
  f206:=Tryz.func97.trans (congrArg some (by kernel_rfl))
  t3:=Tryz.underlying3
  a3:=Tryz.isAgg3
  z3:=Tryz.sizeOf3
  v3:=Tryz.zeroValue3
  t4:=Tryz.underlying4
  a4:=Tryz.isAgg4
  z4:=Tryz.sizeOf4
  v4:=Tryz.zeroValue4
  t9:=Tryz.underlying9
  a9:=Tryz.isAgg9
  z9:=Tryz.sizeOf9
  v9:=Tryz.zeroValue9 }
theorem Tryz.lays157:Go.Proofs.Lays.n157 Tryz.prog Tryz.lays157_ren:={
  mixed:=by kernel_rfl
  f157:=Tryz.func71.trans (congrArg some (by kernel_rfl))
  f199:=Tryz.func99.trans (congrArg some (by kernel_rfl))
  f229:=Tryz.func98.trans (congrArg some (by kernel_rfl))
  f261:=Tryz.func131.trans (congrArg some (by kernel_rfl))
  f311:=Tryz.func145.trans (congrArg some (by kernel_rfl))
  f312:=Tryz.func146.trans (congrArg some (by kernel_rfl))
  t0:=Tryz.underlying0
  a0:=Tryz.isAgg0
  z0:=Tryz.sizeOf0
  v0:=Tryz.zeroValue0
  t3:=Tryz.underlying3
  a3:=Tryz.isAgg3
  z3:=Tryz.sizeOf3
  v3:=Tryz.zeroValue3
  t4:=Tryz.underlying4
  a4:=Tryz.isAgg4
  z4:=Tryz.sizeOf4
  v4:=Tryz.zeroValue4
  t5:=Tryz.underlying5
  a5:=Tryz.isAgg5
  z5:=Tryz.sizeOf5
  v5:=Tryz.zeroValue5
  t9:=Tryz.underlying9
  a9:=Tryz.isAgg9
  z9:=Tryz.sizeOf9
  v9:=Tryz.zeroValue9
  t21:=Tryz.underlying21
  a21:=Tryz.isAgg21
  z21:=Tryz.sizeOf21
  v21:=Tryz.zeroValue21
  t31:=Tryz.underlying58
  a31:=Tryz.isAgg58
  z31:=Tryz.sizeOf58
  v31:=Tryz.zeroValue58
  t40:=Tryz.underlying135
  a40:=Tryz.isAgg135
  z40:=Tryz.sizeOf135
  v40:=Tryz.zeroValue135
  t46:=Tryz.underlying172
  a46:=Tryz.isAgg172
  z46:=Tryz.sizeOf172
  v46:=Tryz.zeroValue172
  t49:=Tryz.underlying177
  a49:=Tryz.isAgg177
  z49:=Tryz.sizeOf177
  v49:=Tryz.zeroValue177
  t51:=Tryz.underlying161
  a51:=Tryz.isAgg161
  z51:=Tryz.sizeOf161
  v51:=Tryz.zeroValue161
  t119:=Tryz.underlying133
  a119:=Tryz.isAgg133
  z119:=Tryz.sizeOf133
  t141:=Tryz.underlying163
  a141:=Tryz.isAgg163
  z141:=Tryz.sizeOf163
  v141:=Tryz.zeroValue163
  t152:=Tryz.underlying158
  a152:=Tryz.isAgg158
  z152:=Tryz.sizeOf158
  v152:=Tryz.zeroValue158
  t154:=Tryz.underlying160
  a154:=Tryz.isAgg160
  z154:=Tryz.sizeOf160
  v154:=Tryz.zeroValue160
  t193:=Tryz.underlying173
  a193:=Tryz.isAgg173
  z193:=Tryz.sizeOf173
  v193:=Tryz.zeroValue173
  t194:=Tryz.underlying174
  a194:=Tryz.isAgg174
  z194:=Tryz.sizeOf174
  v194:=Tryz.zeroValue174
  t196:=Tryz.underlying176
  a196:=Tryz.isAgg176
  z196:=Tryz.sizeOf176
  v196:=Tryz.zeroValue176
  t198:=Tryz.underlying179
  a198:=Tryz.isAgg179
  z198:=Tryz.sizeOf179
  v198:=Tryz.zeroValue179
  t201:=Tryz.underlying182
  a201:=Tryz.isAgg182
  z201:=Tryz.sizeOf182
  v201:=Tryz.zeroValue182
  t226:=Tryz.underlying187
  a226:=Tryz.isAgg187
  z226:=Tryz.sizeOf187
  v226:=Tryz.zeroValue187
  t227:=Tryz.underlying188
  a227:=Tryz.isAgg188
  z227:=Tryz.sizeOf188
  v227:=Tryz.zeroValue188
  g0:=by kernel_rfl
  g6:=by kernel_rfl }
end Go.Proofs
namespace Go.Proofs.YtkbgkekegjfkfaaGreatDoor.WW
open Go.RowKit
section
variable {w w1:World} {base n size:Nat} {e:TypeId} {v:Value} {xs:List Value}
theorem add_at (g o j:Nat):(⟨g,o,none⟩:Addr).add j=⟨g,o+j,none⟩:=by unfold Addr.add;split <;> simp_all
theorem setCells_far {g:Nat}:∀ (vs:List Value) (o:Nat) {w:World} (k:Nat),k≠g→(w.setCells g o vs).heap[k]?=w.heap[k]?
  | [],_,_,_,_=>rfl
  | v :: r,o,w,k,hk=>by
    rw [World.setCells,setCells_far r (o+1) k hk];exact Below.heap_setCell w ⟨g,o,none⟩ v k hk
theorem setCells_same (g:Nat):∀ (vs:List Value) (o:Nat) (w:World),(w.setCells g o vs).os=w.os∧(w.setCells g o vs).tape=w.tape∧(w.setCells g o vs).output=w.output∧(w.setCells g o vs).heap.size=w.heap.size
  | [],_,_=>⟨rfl,rfl,rfl,rfl⟩
  | v :: r,o,w=>by
    obtain ⟨h1,h2,h3,h4⟩:=setCells_same g r (o+1) (w.setCell ⟨g,o,none⟩ v);rw [World.setCells];exact ⟨h1,h2,h3,by rw [h4];simp [World.setCell]⟩
end
end Go.Proofs.YtkbgkekegjfkfaaGreatDoor.WW
namespace Go.Proofs.YtkbgkekegjfkfaaGreatDoor.WW
open Go.RowKit
theorem more_rounds {α:Type} {g:Nat→Option α} (h:∀ k,LeO (g k) (g (k+1))) (k:Nat):∀ j,LeO (g k) (g (k+j))
  | 0=>LeO.refl _
  | j+1=>(more_rounds h k j).trans (h (k+j))
theorem at_rounds {α:Type} {g:Nat→Option α} (h:∀ k,LeO (g k) (g (k+1))) {k k':Nat} (hk:k≤k') {r:α} (hr:g k=some r):g k'=some r:=by
  have:=more_rounds h k (k' - k) r hr;rwa [Nat.add_sub_cancel' hk] at this
theorem KeepBut.blk {w w1:World} {g g':Nat} {row:Option Nat} {o:Obj} (h:KeepBut w w1 g row) (hb:w.heap[g']?=some o) (hg:g'≠g) (hr:some g'≠row):w1.heap[g']?=some o:=(h.2 g' (blk_lt hb) hg hr).trans hb
theorem KeepBut.own {w w1:World} {g:Nat} {row:Option Nat} {base:Nat} {e:TypeId} {size n:Nat} {v:Value} {xs:List Value} (h:KeepBut w w1 g row) (ho:w.ownsRow base e size v n xs) (hg:v.ownBlock≠some g) (hr:v.ownBlock=none∨v.ownBlock≠row):w1.ownsRow base e size v n xs:=by
  obtain ⟨h1,h2⟩:=ho;refine ⟨h1,?_⟩;rcases h2 with h2 | ⟨b,cap,cur,rfl,hb,hh,r⟩
  · exact .inl h2
  · refine .inr ⟨b,cap,cur,rfl,hb,h.blk hh ?_ ?_,r⟩
    · intro e
      exact hg (by rw [← e];rfl)
    · rcases hr with hr | hr
      · simp [Value.ownBlock] at hr
      · exact hr
theorem Ev.of {α:Type} {g:Nat→Option α} {r:α} (hg:∀ k,LeO (g k) (g (k+1))) {k:Nat} (h:g k=some r):Ev g r:=⟨k,fun _ hk=>at_rounds hg hk h⟩
theorem keep_far {w W:World} {g:Nat} {row:Option Nat} (h:KeepBut w W g row) {p:Addr} (hp:w.heap.size≤p.block) (u:Value):KeepBut w (W.setCell p u) g row :=
  ⟨by simpa [World.setCell] using h.1,fun i hi hg hr=>(Below.heap_setCell W p u i (by omega)).trans (h.2 i hi hg hr)⟩
end Go.Proofs.YtkbgkekegjfkfaaGreatDoor.WW
namespace Go.Proofs.YtkbgkekegjfkfaaGreatDoor.WW
open Go.RowKit
namespace Kd
section
variable {α:Type} {d:Kd α} {e base g:Nat} {ok:Nat→Prop} {w w1:World} {v:Value} {xs:List α} {o:Obj}
theorem R_elderB (h:d.R e w base ok v xs) (a:Nat) (ha:w.heap.size≤a):d.R e w base (fun k=>ok k∧k≠a) v xs:=R_mono (R_bound h) (fun k hk=>⟨hk.1,by have:=hk.2.2.1;omega⟩)
theorem freshB (hb:w.heap[g]?=some o):∀ k,w.heap.size≤k→k≠g:=fun k hk=>by have:=blk_lt hb;omega
end
end Kd
end Go.Proofs.YtkbgkekegjfkfaaGreatDoor.WW
namespace Go.Proofs.YtkbgkekegjfkfaaGreatDoor.WW
open Go.RowKit
namespace Kd
section
variable {α:Type} {d:Kd α} {e:Nat} {w w1:World} {base:Nat} {ok ok':Nat→Prop} {v:Value} {xs:List α}
theorem R_types (h:d.R e w base ok v xs) {g t:Nat} {cells:Array Value} (hb:w.heap[g]?=some (.cells cells t (0,0))) (ht:∀ q,q∈e :: d.E→q≠t):d.R e w base (fun k=>ok k∧k≠g) v xs :=
  R_mono (R_bound h) (fun k hk=>⟨hk.1,by
    obtain ⟨_,_,_,q,hq,cells',hc⟩:=hk;rintro rfl;rw [hc] at hb;injection hb with hb
    injection hb with _ hb
    exact ht q hq hb⟩)
theorem R_own (h:d.R e w base ok v xs):∃ inner,w.ownsRow base e d.sz v xs.length inner:=by
  obtain ⟨_,inner,ho,_⟩:=h;exact ⟨inner,ho⟩
end
end Kd
end Go.Proofs.YtkbgkekegjfkfaaGreatDoor.WW
namespace Go.Proofs.YtkbgkekegjfkfaaGreatDoor.WW
open Go.RowKit
namespace Kd
section
variable {α β:Type} {d:Kd α} {d':Kd β} {e e':Nat} {w w1 W:World} {base b b':Nat} {ok ok' okv oku:Nat→Prop} {v u:Value} {xs:List α} {ys:List β}
theorem R_lt (h:d.R e w base ok v xs):∀ k,v.ownBlock=some k→k < w.heap.size:=by
  obtain ⟨inner,ho⟩:=R_own h;exact own_lt ho
theorem R_away (h:d.R e w base ok v xs) {g:Nat} (hok:∀ k,ok k→k≠g):some g≠v.ownBlock:=fun e=>hok g (h.1 g e.symm) rfl
theorem R_form (h:d.R e w base ok v xs) (hp:0 < xs.length):∃ g cap,v=.slice (some ⟨g,0,none⟩) xs.length cap∧base≤g∧g < w.heap.size∧∃ cells,w.heap[g]?=some (.cells cells e (0,0)):=by
  obtain ⟨inner,ho⟩:=R_own h;obtain ⟨g,cap,he,hb,hl⟩:=ho.form hp;obtain ⟨cells,hc⟩:=own_typed ho g (by rw [he];simp [Value.ownBlock]);exact ⟨g,cap,he,hb,hl,cells,hc⟩
theorem R_over (h:d.R e W b ok u xs) (hv:d'.R e' W b' ok' v ys) (ht:∀ q,q∈e :: d.E→q≠e') (hg:W.grownBy w1 v.ownBlock):d.R e w1 b ok u xs:=by
  obtain ⟨inner,ho⟩:=R_own hv;refine R_mono (R_move (R_bound h) (fun k hk=>hg.block k hk.2.2.1 (fun he=>?_))) (fun _ hk=>hk.1);obtain ⟨_,_,_,q,hq,cells,hc⟩:=hk;obtain ⟨cells',hc'⟩:=own_typed ho k he.symm;rw [hc] at hc';injection hc' with hc'
  injection hc' with _ hc'
  exact ht q hq hc'
end
end Kd
end Go.Proofs.YtkbgkekegjfkfaaGreatDoor.WW
namespace Go.Proofs.YtkbgkekegjfkfaaGreatDoor.WW
open Go.RowKit
namespace Kd
theorem reps_append {α:Type} {R:α→List Value→Prop} {size:Nat} {ps qs:List α} {cs ds:List Value} (h:Reps R size ps cs) (h':Reps R size qs ds):Reps R size (ps++qs) (cs++ds):=by
  refine ⟨by rw [List.length_append,List.length_append,h.1,h'.1,Nat.add_mul],fun j p hj=>?_⟩;rcases Nat.lt_or_ge j ps.length with hlt | hge
  · rw [List.getElem?_append_left hlt] at hj
    have hle:j * size+size≤cs.length:=by rw [h.1,← Nat.succ_mul];exact Nat.mul_le_mul_right _ hlt
    rw [List.drop_append_of_le_length (by omega),List.take_append_of_le_length (by rw [List.length_drop];omega)];exact h.2 j p hj
  · rw [List.getElem?_append_right hge] at hj
    have h2:=h'.2 (j - ps.length) p hj;have hle:ps.length * size≤j * size:=Nat.mul_le_mul_right _ hge;rw [List.drop_append,List.drop_eq_nil_of_le (by rw [h.1];exact hle),List.nil_append,h.1,← Nat.sub_mul];exact h2
end Kd
end Go.Proofs.YtkbgkekegjfkfaaGreatDoor.WW
namespace Go.Proofs.YtkbgkekegjfkfaaGreatDoor.WW
open Go.RowKit
namespace Foot
variable {P Q:World→Prop} {W W1:World} {ok ok':Nat→Prop}
theorem imp (h:Foot P W ok) (hi:∀ W',P W'→Q W'):Foot Q W ok:=fun W' hW=>hi W' (h W' hW)
end Foot
end Go.Proofs.YtkbgkekegjfkfaaGreatDoor.WW
namespace Go.Proofs.YtkbgkekegjfkfaaGreatDoor.WL
section
variable {P:Program} {ops:Array Oper} {Q:Exit→Act→World→Prop} {md:Region.Mode} {S:World→Prop} {ds:List Nat}
theorem value_ {oi:Oper} {N:Option Tmp} {a:Act} {w w1:World} {v:Value} {K:Act→World→Prop} (hw:Region.wanted oi (yielded ops a.tmps)=true) (hN:oi.dst=N) (hrun:(execOp a.eval oi).run P w=.ok (.value v) w1)
    (h:K (a.put N v) w1):if Region.wanted oi (yielded ops a.tmps)=true then Oper.wp P oi a w K Q else K (a.put N undef) w:=by
  rw [if_pos hw];subst hN;unfold Oper.wp;rw [hrun];exact h
end
end Go.Proofs.YtkbgkekegjfkfaaGreatDoor.WL
