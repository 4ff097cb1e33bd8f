/- The program's arithmetic on numbers of any size: trim, less, minus, div, reduce. -/
import Derived.Test.YtoenhagbgfkihaaAx6
import Derived.Test.YtoenhagbgfkihaaAx7
import Derived.Test.YtoenhagbgfkihaaL6
namespace Go.Proofs.Ytoenhagbgfkihaa.A
open Go.RowKit Go.Proofs.Ytoenhagbgfkihaa.B Go.Proofs.YtoenhagbgfkihaaW.PrintWords Go.Proofs.YtoenhagbgfkihaaW.PrintLast Go.Proofs.YtoenhagbgfkihaaW.PrintMore
set_option linter.unusedVariables false
set_option linter.unusedSimpArgs false
def im (l : List Nat) : List Int := l.map (fun (d : Nat) => (d : Int))
theorem im_length (l : List Nat) : (im l).length = l.length := by unfold im; rw [List.length_map]
theorem im_append (l m : List Nat) : im (l ++ m) = im l ++ im m := by unfold im; rw [List.map_append]
theorem im_drop (l : List Nat) (n : Nat) : (im l).drop n = im (l.drop n) := by unfold im; rw [List.map_drop]
theorem im_set (l : List Nat) (n v : Nat) : (im l).set n (v : Int) = im (l.set n v) := by unfold im; rw [List.map_set]
theorem rd_im (l : List Nat) (i : Nat) : rd (im l) (i : Int) = ((l.getD i 0 : Nat) : Int) := by
  unfold rd im
  rw [Int.toNat_natCast, List.getD_eq_getElem?_getD, List.getD_eq_getElem?_getD, List.getElem?_map]
  cases l[i]? <;> rfl
theorem ftrim_ev (l : List Nat) : Ev (fun k => frac_digits_trim.f k (im l)) (im (tr l)) := by
  unfold frac_digits_trim.f
  induction l with
  | nil =>
    refine Ev.step (fun k => by rw [frac_digits_trim.l0]) ?_
    exact Ev.no (by rw [im_length]; decide) (Ev.is rfl)
  | cons x l ih =>
    refine Ev.step (fun k => by rw [frac_digits_trim.l0]) (Ev.yes (by rw [im_length, List.length_cons]; omega) (Ev.yes (by rw [im_length, List.length_cons]; omega) ?_))
    have e : rd (im (x :: l)) 0 = (x : Int) := by have := rd_im (x :: l) 0; simpa using this
    rw [e, tr_cons]
    refine Ev.both (fun h => Ev.yes (by rw [im_length, List.length_cons]; omega) ?_) (fun h => Ev.is (by rw [if_neg (by omega)]))
    rw [if_pos (by omega), im_drop]
    exact ih
theorem ofNat_lt {x y : Nat} (hx : x < 256) (hy : y < 256) : (UInt8.ofNat x < UInt8.ofNat y) ↔ x < y := by
  rw [UInt8.lt_iff_toNat_lt, UInt8.toNat_ofNat', UInt8.toNat_ofNat', Nat.mod_eq_of_lt hx, Nat.mod_eq_of_lt hy]
theorem ofNat_eq {x y : Nat} (hx : x < 256) (hy : y < 256) : (UInt8.ofNat x = UInt8.ofNat y) ↔ x = y := by
  constructor
  · intro h
    have := congrArg UInt8.toNat h
    rwa [UInt8.toNat_ofNat', UInt8.toNat_ofNat', Nat.mod_eq_of_lt hx, Nat.mod_eq_of_lt hy] at this
  · intro h; rw [h]
theorem bytesLess_lex (c : Nat) (hc : c ≤ 100) : ∀ a b : List Nat, Digs a → Digs b → Op.bytesLess (a.map fun d => UInt8.ofNat (c + d)) (b.map fun d => UInt8.ofNat (c + d)) = lexN a b
  | [], [], _, _ => rfl
  | _ :: _, [], _, _ => rfl
  | [], _ :: _, _, _ => rfl
  | x :: a, y :: b, ha, hb => by
    obtain ⟨hx, ha⟩ := ha.cons
    obtain ⟨hy, hb⟩ := hb.cons
    simp only [List.map_cons, Op.bytesLess, lexN]
    rw [bytesLess_lex c hc a b ha hb]
    have e1 : decide (UInt8.ofNat (c + x) < UInt8.ofNat (c + y)) = decide (x < y) := by rw [decide_eq_decide, ofNat_lt (by omega) (by omega)]; omega
    have e2 : (UInt8.ofNat (c + x) == UInt8.ofNat (c + y)) = (x == y) := by rw [Bool.eq_iff_iff, beq_iff_eq, beq_iff_eq, ofNat_eq (by omega) (by omega)]; omega
    rw [e1, e2]
theorem strOf_im (l : List Nat) : (strOfNums (im l)).toList = l.map fun d => UInt8.ofNat (0 + d) := by
  rw [ByteArray.toList_eq]
  unfold strOfNums im
  rw [List.map_map]
  apply List.map_congr_left
  intro d _
  show UInt8.ofNat (d : Int).toNat = _
  rw [Int.toNat_natCast, Nat.zero_add]
theorem fless_eq (a b : List Nat) (da : Digs a) (db : Digs b) : frac_digits_less.f (im a) (im b) = some (lessN a b) := by
  unfold frac_digits_less.f lessN
  rw [im_length, im_length, strOf_im, strOf_im, bytesLess_lex 0 (by omega) a b da db]
  by_cases h : a.length = b.length
  · rw [if_pos (by omega), if_pos h]
  · rw [if_neg (by omega), if_neg h, Option.some.injEq, decide_eq_decide]; omega
theorem Digs.set {l : List Nat} (h : Digs l) (i v : Nat) (hv : v < 10) : Digs (l.set i v) := fun d hd => by
  rcases List.mem_or_eq_of_mem_set hd with hd | rfl
  · exact h d hd
  · exact hv
theorem Digs.getD {l : List Nat} (h : Digs l) (i : Nat) : l.getD i 0 < 10 := by
  rw [List.getD_eq_getElem?_getD]
  cases e : l[i]? with
  | none => decide
  | some x => exact h x (List.mem_of_getElem? e)
/-- One place of a subtraction. -/
theorem place (n m j : Nat) (a b o : List Nat) (ha : a.length = n) (ho : o.length = n) (hb : b.length = m) (hj : j < n) (br br' dig : Nat) (x : Nat) (hx : x = if j < m then b.getD (m - 1 - j) 0 else 0)
    (h : nv (a.drop (n - j)) + br * 10 ^ j = nv (b.drop (m - j)) + nv (o.drop (n - j))) (hd : a.getD (n - 1 - j) 0 + 10 * br' = x + dig + br) :
    nv (a.drop (n - (j + 1))) + br' * 10 ^ (j + 1) = nv (b.drop (m - (j + 1))) + nv ((o.set (n - 1 - j) dig).drop (n - (j + 1))) := by
  have h1 := nv_drop_last a j (by omega)
  have h2 := nv_drop_last (o.set (n - 1 - j) dig) j (by rw [List.length_set]; omega)
  rw [List.length_set, ho] at h2
  rw [ha] at h1
  have e1 : (o.set (n - 1 - j) dig).getD (n - 1 - j) 0 = dig := by
    rw [List.getD_eq_getElem?_getD, List.getElem?_set_self (by omega)]; rfl
  have e2 : (o.set (n - 1 - j) dig).drop (n - j) = o.drop (n - j) := by
    rw [List.drop_set, if_pos (by omega)]
  rw [e1, e2] at h2
  have h3 : nv (b.drop (m - (j + 1))) = x * 10 ^ j + nv (b.drop (m - j)) := by
    by_cases hjm : j < m
    · rw [hx, if_pos hjm]
      have := nv_drop_last b j (by omega)
      rw [hb] at this; exact this
    · rw [hx, if_neg hjm, show m - (j + 1) = 0 by omega, show m - j = 0 by omega, Nat.zero_mul, Nat.zero_add]
  rw [h1, h2, h3, Nat.pow_succ]
  generalize 10 ^ j = P at *
  generalize a.getD (n - 1 - j) 0 = u at *
  generalize nv (a.drop (n - j)) = A at *
  generalize nv (b.drop (m - j)) = B at *
  generalize nv (o.drop (n - j)) = O at *
  have e3 : (u + 10 * br') * P = (x + dig + br) * P := by rw [hd]
  have e4 : u * P + br' * (P * 10) = x * P + dig * P + br * P := by
    rw [← Nat.add_mul, ← Nat.add_mul, ← e3, Nat.add_mul]; congr 1; rw [Nat.mul_comm P 10, ← Nat.mul_assoc, Nat.mul_comm br' 10]
  omega
theorem sub_end {n br : Nat} {a b o : List Nat} (ha : a.length = n) (ho : o.length = n) (hb : b.length ≤ n) (do_ : Digs o) (hle : nv b ≤ nv a)
    (h : nv (a.drop (n - n)) + br * 10 ^ n = nv (b.drop (b.length - n)) + nv (o.drop (n - n))) : nv o = nv a - nv b := by
  rw [Nat.sub_self, show b.length - n = 0 by omega, List.drop_zero, List.drop_zero, List.drop_zero] at h
  have h1 := nv_lt do_
  rw [ho] at h1
  rcases Nat.eq_zero_or_pos br with h0 | h0
  · subst h0; omega
  · have : 1 * 10 ^ n ≤ br * 10 ^ n := Nat.mul_le_mul_right _ h0
    omega
theorem w_in {x : Int} (h : -9000000000000000000 ≤ x ∧ x ≤ 9000000000000000000) : wrap64 x = x := by unfold wrap64; omega
theorem w_at (n j : Nat) (h : j < n) (hn : n ≤ 1000000) : wrap64 (wrap64 ((n : Int) - 1) - (j : Int)) = ((n - 1 - j : Nat) : Int) := by
  rw [w_in (x := (n : Int) - 1) (by omega), w_in (by omega)]; omega
theorem w_dig (u v br : Nat) (hu : u < 10) (hv : v < 10) (hb : br ≤ 1) : wrap64 (wrap64 (wrap64 (u : Int) - (br : Int)) - wrap64 (v : Int)) = (u : Int) - br - v := by
  rw [w_in (x := (u : Int)) (by omega), w_in (x := (v : Int)) (by omega), w_in (x := (u : Int) - br) (by omega), w_in (by omega)]
theorem w_dig0 (u br : Nat) (hu : u < 10) (hb : br ≤ 1) : wrap64 (wrap64 (u : Int) - (br : Int)) = (u : Int) - br := by
  rw [w_in (x := (u : Int)) (by omega), w_in (by omega)]
theorem w_ten (x : Int) (h : -20 ≤ x ∧ x < 0) (k : Nat) (hk : (k : Int) = x + 10) (hk' : k < 10) : wrap64 (x + 10) % 256 = (k : Int) := by
  rw [w_in (by omega)]; omega
theorem w_next (j : Nat) (h : j ≤ 1000000) : wrap64 ((j : Int) + 1) = ((j + 1 : Nat) : Int) := by rw [w_in (by omega)]; omega
theorem fminus_l0 (a b : List Nat) (n m : Nat) (ha : a.length = n) (hb : b.length = m) (hn : n ≤ 1000000) (hm : m ≤ n) (da : Digs a) (db : Digs b) (hle : nv b ≤ nv a) (d : Nat) : ∀ (j : Nat) (o : List Nat) (br : Nat), j + d = n → o.length = n → br ≤ 1 → Digs o →
    nv (a.drop (n - j)) + br * 10 ^ j = nv (b.drop (m - j)) + nv (o.drop (n - j)) →
    Ev (fun k => frac_digits_minus.l0 k (im a) (im b) (im o) (br : Int) (n : Int) (j : Int)) (im (dg (nv a - nv b))) := by
  induction d with
  | zero =>
    intro j o br hj ho hbr dO h
    obtain rfl : j = n := by omega
    refine Ev.step (fun k => by rw [frac_digits_minus.l0]) (Ev.no (by omega) (Ev.bind (ftrim_ev o) (Ev.is ?_)))
    rw [tr_eq_dg dO, sub_end ha ho (by omega) dO hle (by rw [hb]; exact h)]
  | succ d ih =>
    intro j o br hj ho hbr dO h
    have Hh := Aside0.mk h
    clear h
    have hja : j < n := by omega
    have ra : rd (im a) ((n - 1 - j : Nat) : Int) = ((a.getD (n - 1 - j) 0 : Nat) : Int) := rd_im _ _
    have la := da.getD (n - 1 - j)
    have lb := db.getD (m - 1 - j)
    have hj9 : j ≤ 1000000 := by omega
    have fin : ∀ (x dig br' : Nat), (x = if j < m then b.getD (m - 1 - j) 0 else 0) → dig < 10 → br' ≤ 1 → a.getD (n - 1 - j) 0 + 10 * br' = x + dig + br →
        Ev (fun k => frac_digits_minus.l0 k (im a) (im b) ((im o).set (n - 1 - j) (dig : Int)) (br' : Int) (n : Int) ((j + 1 : Nat) : Int)) (im (dg (nv a - nv b))) := by
      intro x dig br' hx hdig hbr' he
      rw [im_set]
      exact ih (j + 1) (o.set (n - 1 - j) dig) br' (by omega) (by rw [List.length_set]; exact ho) hbr' (dO.set _ _ hdig) (place n m j a b o ha ho hb hja br br' dig x hx Hh.out he)
    refine Ev.step (fun k => by rw [frac_digits_minus.l0]) (Ev.yes (by omega) ?_)
    rw [im_length, im_length, im_length, ha, hb, ho, w_at n j hja hn, w_next j hj9, ra, Int.toNat_natCast]
    refine Ev.yes (by omega) (Ev.yes (by omega) ?_)
    generalize hga : a.getD (n - 1 - j) 0 = u at *
    by_cases hjm : j < m
    · have hm9 : m ≤ 1000000 := by omega
      have rb : rd (im b) ((m - 1 - j : Nat) : Int) = ((b.getD (m - 1 - j) 0 : Nat) : Int) := rd_im _ _
      generalize b.getD (m - 1 - j) 0 = v at *
      refine Ev.yes (by omega) ?_
      rw [w_at m j hjm hm9, rb]
      refine Ev.yes (by omega) (Ev.yes (by omega) ?_)
      rw [w_dig u v br la lb hbr]
      refine Ev.both (fun hneg => Ev.yes (by omega) ?_) (fun hpos => Ev.yes (by omega) ?_)
      · rw [w_ten ((u : Int) - br - v) (by omega) (u + 10 - br - v) (by omega) (by omega)]
        exact fin v (u + 10 - br - v) 1 (by rw [if_pos hjm]) (by omega) (by omega) (by omega)
      · have w4 : ((u : Int) - br - v) % 256 = ((u - br - v : Nat) : Int) := by omega
        rw [w4]
        exact fin v (u - br - v) 0 (by rw [if_pos hjm]) (by omega) (by omega) (by omega)
    · refine Ev.no (by omega) ?_
      rw [w_dig0 u br la hbr]
      refine Ev.both (fun hneg => Ev.yes (by omega) ?_) (fun hpos => Ev.yes (by omega) ?_)
      · rw [w_ten ((u : Int) - br) (by omega) (u + 10 - br) (by omega) (by omega)]
        exact fin 0 (u + 10 - br) 1 (by rw [if_neg hjm]) (by omega) (by omega) (by omega)
      · have w4 : ((u : Int) - br) % 256 = ((u - br : Nat) : Int) := by omega
        rw [w4]
        exact fin 0 (u - br) 0 (by rw [if_neg hjm]) (by omega) (by omega) (by omega)
theorem drop_all (l : List Nat) : l.drop (l.length - 0) = [] := by rw [Nat.sub_zero, List.drop_length]
theorem Digs.replicate (n : Nat) : Digs (List.replicate n 0) := fun d hd => by rw [List.mem_replicate] at hd; omega
theorem dg_le_length {a b : Nat} (h : a ≤ b) : (dg a).length ≤ (dg b).length := by
  have h1 := nv_lt (digs_dg b)
  rw [nv_dg] at h1
  exact dg_length_le a _ (by omega)
theorem fminus_ev (a b : Nat) (hle : b ≤ a) (hn : (dg a).length ≤ 1000000) : Ev (fun k => frac_digits_minus.f k (im (dg a)) (im (dg b))) (im (dg (a - b))) := by
  unfold frac_digits_minus.f
  have hm := dg_le_length hle
  rw [im_length]
  refine Ev.yes (by omega) (Ev.yes (by omega) ?_)
  rw [Int.toNat_natCast, show List.replicate (dg a).length (0 : Int) = im (List.replicate (dg a).length 0) by unfold im; rw [List.map_replicate]; rfl]
  have := fminus_l0 (dg a) (dg b) _ _ rfl rfl hn hm (digs_dg a) (digs_dg b) (by rw [nv_dg, nv_dg]; exact hle) (dg a).length 0 (List.replicate (dg a).length 0) 0 (by omega) List.length_replicate (by omega) (Digs.replicate _) (by
    rw [Nat.sub_zero, List.drop_length, Nat.sub_zero, List.drop_length, show (List.replicate (dg a).length 0).drop (dg a).length = [] by
      apply List.drop_eq_nil_of_le; rw [List.length_replicate]; exact Nat.le_refl _]; rfl)
  rw [nv_dg, nv_dg] at this
  exact this
theorem w_q (q : Nat) (h : q ≤ 100000000) : wrap64 ((q : Int) + 1) = ((q + 1 : Nat) : Int) := by rw [w_in (by omega)]; omega
theorem w_by10 (q : Nat) (h : q ≤ 1000000) : wrap64 ((q : Int) * 10) = ((10 * q : Nat) : Int) := by rw [w_in (by omega)]; omega
/-- The inner loop of a division: how often the divisor can be taken away. -/
theorem fdiv_l1 (b : Nat) (hb : 0 < b) (hlb : (dg b).length ≤ 1000) (L : List Int) (n i : Int) (res : Int × List Int × Bool) (t : Nat) : ∀ (R q : Nat), R / b = t → R < 10 * b → q + t ≤ 100000000 →
    Ev (fun k => if ((q + t : Nat) : Int) > 1000000 then some (0, ([] : List Int), false) else frac_digits_div.l0 k (im (dg b)) ((q + t : Nat) : Int) (im (dg (R % b))) L n (wrap64 (i + 1))) res →
    Ev (fun k => frac_digits_div.l1 k (im (dg b)) (q : Int) (im (dg R)) L n i) res := by
  induction t with
  | zero =>
    intro R q ht hR hq h
    have hlt : R < b := by
      rcases Nat.lt_or_ge R b with h1 | h1
      · exact h1
      · have := Nat.div_pos h1 hb; omega
    refine Ev.step (fun k => by rw [frac_digits_div.l1]) ?_
    rw [fless_eq _ _ (digs_dg R) (digs_dg b), lessN_dg, decide_eq_true hlt]
    simp only [Option.bind_some, if_true]
    rw [Nat.mod_eq_of_lt hlt] at h
    exact h
  | succ t ih =>
    intro R q ht hR hq h
    have hge : b ≤ R := by
      rcases Nat.lt_or_ge R b with h1 | h1
      · rw [Nat.div_eq_of_lt h1] at ht; omega
      · exact h1
    have hRl : (dg R).length ≤ 1000000 := by
      have h1 := nv_lt (digs_dg b)
      rw [nv_dg] at h1
      have h2 : R < 10 ^ ((dg b).length + 1) := by rw [Nat.pow_succ]; omega
      have := dg_length_le R _ h2
      omega
    refine Ev.step (fun k => by rw [frac_digits_div.l1]) ?_
    rw [fless_eq _ _ (digs_dg R) (digs_dg b), lessN_dg, decide_eq_false (by omega)]
    simp only [Option.bind_some, Bool.false_eq_true, if_false]
    refine Ev.bind (fminus_ev R b hge hRl) ?_
    rw [w_q q (by omega)]
    have ht' : (R - b) / b = t := by
      have : R / b = (R - b) / b + 1 := by
        conv => lhs; rw [show R = (R - b) + b by omega]
        rw [Nat.add_div_right _ hb]
      omega
    refine ih (R - b) (q + 1) ht' (by omega) (by omega) ?_
    rw [show q + 1 + t = q + (t + 1) by omega, show (R - b) % b = R % b from (Nat.mod_eq_sub_mod hge).symm]
    exact h
theorem nv_take_le (l : List Nat) (i : Nat) : nv (l.take i) ≤ nv l := by
  conv => rhs; rw [← List.take_append_drop i l]
  rw [nv_append]
  exact Nat.le_trans (Nat.le_mul_of_pos_right _ (Nat.pow_pos (by decide))) (Nat.le_add_right _ _)
theorem step_div (P x b : Nat) (hb : 0 < b) : (10 * P + x) / b = 10 * (P / b) + (10 * (P % b) + x) / b ∧ (10 * P + x) % b = (10 * (P % b) + x) % b := by
  have h := Nat.div_add_mod P b
  have e : 10 * P + x = (10 * (P % b) + x) + b * (10 * (P / b)) := by
    have : b * (10 * (P / b)) = 10 * (b * (P / b)) := by rw [← Nat.mul_assoc, Nat.mul_comm b 10, Nat.mul_assoc]
    omega
  constructor
  · conv => lhs; rw [e]
    rw [Nat.add_mul_div_left _ _ hb, Nat.add_comm]
  · conv => lhs; rw [e]
    rw [Nat.add_mul_mod_self_left]
def fdivS (v b : Nat) : Int × List Int × Bool := if v / b ≤ 1000000 then (((v / b : Nat) : Int), im (dg (v % b)), true) else (0, [], false)
theorem fdiv_l0 (b : Nat) (hb : 0 < b) (hlb : (dg b).length ≤ 1000) (l : List Nat) (hl : l.length ≤ 1000000) (dl : Digs l) (d : Nat) : ∀ i : Nat, i + d = l.length → nv (l.take i) / b ≤ 1000000 →
    Ev (fun k => frac_digits_div.l0 k (im (dg b)) ((nv (l.take i) / b : Nat) : Int) (im (dg (nv (l.take i) % b))) (im l) (l.length : Int) (i : Int)) (fdivS (nv l) b) := by
  induction d with
  | zero =>
    intro i hi hq
    refine Ev.step (fun k => by rw [frac_digits_div.l0]) (Ev.no (by omega) (Ev.is ?_))
    rw [List.take_of_length_le (by omega)] at *
    unfold fdivS
    rw [if_pos hq]
  | succ d ih =>
    intro i hi hq
    have hil : i < l.length := by omega
    have htk : l.take (i + 1) = l.take i ++ [l.getD i 0] := by
      rw [List.take_succ_eq_append_getElem hil, List.getD_eq_getElem?_getD, List.getElem?_eq_getElem hil]; rfl
    have hx := dl.getD i
    have hrd : rd (im l) (i : Int) = ((l.getD i 0 : Nat) : Int) := rd_im l i
    have hmod : nv (l.take i) % b < b := Nat.mod_lt _ hb
    have hlen : (dg (nv (l.take i) % b)).length ≤ 1000 := Nat.le_trans (dg_le_length (by omega)) hlb
    have hsd := step_div (nv (l.take i)) (l.getD i 0) b hb
    rw [← nv_snoc, ← htk] at hsd
    have hmono := nv_take_le l (i + 1)
    generalize hP : nv (l.take i) = P at *
    generalize l.getD i 0 = x at *
    refine Ev.step (fun k => by rw [frac_digits_div.l0]) (Ev.yes (by omega) (Ev.yes (by omega) (Ev.yes (by rw [im_length]; omega) ?_)))
    rw [show wrap64 (((im (dg (P % b))).length : Int) + 1) = (((dg (P % b)).length + 1 : Nat) : Int) by rw [im_length]; exact w_next _ (by omega)]
    refine Ev.yes (by omega) (Ev.yes (by rw [Int.toNat_natCast]; omega) ?_)
    simp only [Option.bind_some]
    refine Ev.yes (by rw [im_length, List.length_replicate]; omega) (Ev.yes (by rw [List.length_append, im_length, List.length_replicate]; omega) ?_)
    rw [hrd, show (List.replicate 0 (0 : Int) ++ im (dg (P % b)) ++ [(x : Int)]) = im (dg (P % b) ++ [x]) by rw [im_append]; rfl]
    have hD : Digs (dg (P % b) ++ [x]) := (digs_dg _).append (Digs.mk hx Digs.nil)
    refine Ev.bind (ftrim_ev _) ?_
    rw [tr_eq_dg hD, nv_snoc, nv_dg]
    rw [w_by10 (P / b) hq]
    have hR : 10 * (P % b) + x < 10 * b := by omega
    have ht : (10 * (P % b) + x) / b < 10 := by rw [Nat.div_lt_iff_lt_mul hb]; exact hR
    refine fdiv_l1 b hb hlb (im l) _ _ _ _ _ _ rfl hR (by omega) ?_
    rw [← hsd.1, ← hsd.2]
    rw [w_next i (by omega)]
    refine Ev.both (fun h => Ev.is ?_) (fun h => ih (i + 1) (by omega) (by omega))
    unfold fdivS
    have := Nat.div_le_div_right (c := b) hmono
    rw [if_neg (by omega)]
theorem fdiv_ev (b : Nat) (hb : 0 < b) (hlb : (dg b).length ≤ 1000) (l : List Nat) (hl : l.length ≤ 1000000) (dl : Digs l) : Ev (fun k => frac_digits_div.f k (im l) (im (dg b))) (fdivS (nv l) b) := by
  unfold frac_digits_div.f
  have := fdiv_l0 b hb hlb l hl dl l.length 0 (by omega) (by simp [nv])
  rw [List.take_zero, nv_nil, Nat.zero_div, Nat.zero_mod, dg_zero] at this
  rw [im_length]
  exact this
def reduceS (A B : Nat) : Int × Int × Bool := if A / Nat.gcd A B ≤ 1000000 ∧ B / Nat.gcd A B ≤ 1000000 then (((A / Nat.gcd A B : Nat) : Int), ((B / Nat.gcd A B : Nat) : Int), true) else (0, 0, false)
theorem big_part {A g q y : Nat} (hg : 0 < g) (hgy : g ≤ y) (h : q * y ≤ A) (hq : 1000000 < q) : ¬ A / g ≤ 1000000 := by
  have h1 : q * g ≤ A := Nat.le_trans (Nat.mul_le_mul_left _ hgy) h
  have : q ≤ A / g := (Nat.le_div_iff_mul_le hg).mpr h1
  omega
theorem reduceS_no {A B : Nat} (h : ¬ A / Nat.gcd A B ≤ 1000000 ∨ ¬ B / Nat.gcd A B ≤ 1000000) : reduceS A B = (0, 0, false) := by
  unfold reduceS
  rw [if_neg (by omega)]
theorem wrap_next {q m b : Nat} (hq : q ≤ 1000000) (hm : m ≤ 1000000) (hb : b ≤ 1000000) : wrap64 (wrap64 ((q : Int) * (m : Int)) + (b : Int)) = ((q * m + b : Nat) : Int) := by
  have : q * m ≤ 1000000 * 1000000 := Nat.mul_le_mul hq hm
  rw [← Int.natCast_mul]
  generalize q * m = p at *
  rw [w_in (x := (p : Int)) (by omega), w_in (by omega)]; omega
theorem freduce_l0 (A B : Nat) (n : Nat) : ∀ (x y m0 m1 b0 b1 : Nat), y ≤ n → 0 < y → (dg x).length ≤ 1000 → (dg y).length ≤ 1000 → A = m0 * x + b0 * y → B = m1 * x + b1 * y → Nat.gcd x y = Nat.gcd A B → m0 ≤ 1000000 → m1 ≤ 1000000 → b0 ≤ 1000000 → b1 ≤ 1000000 → 1 ≤ m0 + m1 → 1 ≤ b0 + b1 →
    Ev (fun k => frac_reduce.l0 k (im (dg x)) (im (dg y)) (b0 : Int) (b1 : Int) (m0 : Int) (m1 : Int)) (reduceS A B) := by
  induction n with
  | zero => intro x y m0 m1 b0 b1 h1 h2; omega
  | succ n ih =>
    intro x y m0 m1 b0 b1 hyn hy hlx hly hA hB hg c1 c2 c3 c4 c5 c6
    have hg0 : 0 < Nat.gcd A B := by rw [← hg]; exact Nat.gcd_pos_of_pos_right _ hy
    have hgy : Nat.gcd A B ≤ y := by rw [← hg]; exact Nat.gcd_le_right _ hy
    have hdm := Nat.div_add_mod x y
    have hmod := Nat.mod_lt x hy
    refine Ev.step (fun k => by rw [frac_reduce.l0]) (Ev.bind (fdiv_ev y hy hly (dg x) (by omega) (digs_dg x)) ?_)
    rw [nv_dg]
    unfold fdivS
    by_cases hq' : 1000000 < x / y
    · rw [if_neg (by omega)]
      refine Ev.no (by decide) (Ev.is (reduceS_no ?_).symm)
      have hqy : x / y * y ≤ x := Nat.div_mul_le_self x y
      rcases Nat.eq_zero_or_pos m0 with h0 | h0
      · refine .inr (big_part hg0 hgy (q := x / y) ?_ hq')
        rw [hB]; exact Nat.le_trans hqy (Nat.le_trans (Nat.le_mul_of_pos_left _ (by omega)) (Nat.le_add_right _ _))
      · refine .inl (big_part hg0 hgy (q := x / y) ?_ hq')
        rw [hA]; exact Nat.le_trans hqy (Nat.le_trans (Nat.le_mul_of_pos_left _ h0) (Nat.le_add_right _ _))
    have hq : x / y ≤ 1000000 := by omega
    rw [if_pos hq]
    refine Ev.yes rfl ?_
    dsimp only
    rw [wrap_next hq c1 c3, wrap_next hq c2 c4, im_length]
    have hA' : A = (x / y * m0 + b0) * y + m0 * (x % y) := by
      rw [hA]
      conv => lhs; rw [← hdm]
      rw [Nat.mul_add, Nat.add_mul, Nat.mul_comm y (x / y), ← Nat.mul_assoc, Nat.mul_comm m0 (x / y)]
      omega
    have hB' : B = (x / y * m1 + b1) * y + m1 * (x % y) := by
      rw [hB]
      conv => lhs; rw [← hdm]
      rw [Nat.mul_add, Nat.add_mul, Nat.mul_comm y (x / y), ← Nat.mul_assoc, Nat.mul_comm m1 (x / y)]
      omega
    have n0 : 1 ≤ x / y * m0 + b0 + (x / y * m1 + b1) := by omega
    generalize x / y * m0 + b0 = N0 at *
    generalize x / y * m1 + b1 = N1 at *
    refine Ev.both (fun h => Ev.is (reduceS_no (.inl (big_part hg0 hgy (q := N0) (by rw [hA']; exact Nat.le_add_right _ _) (by omega)))).symm) (fun h1 => ?_)
    refine Ev.both (fun h => Ev.is (reduceS_no (.inr (big_part hg0 hgy (q := N1) (by rw [hB']; exact Nat.le_add_right _ _) (by omega)))).symm) (fun h2 => ?_)
    refine Ev.both (fun h => Ev.is ?_) (fun h3 => ?_)
    · have hr : x % y = 0 := by
        have : dg (x % y) = [] := List.eq_nil_of_length_eq_zero (by omega)
        exact (dg_nil_iff _).mp this
      have hgy' : Nat.gcd A B = y := by
        rw [← hg, Nat.gcd_comm, Nat.gcd_rec, hr, Nat.gcd_zero_left]
      rw [hr, Nat.mul_zero, Nat.add_zero] at hA' hB'
      unfold reduceS
      have q1 : A / Nat.gcd A B = N0 := by rw [hgy', hA', Nat.mul_div_cancel _ hy]
      have q2 : B / Nat.gcd A B = N1 := by rw [hgy', hB', Nat.mul_div_cancel _ hy]
      rw [q1, q2, if_pos ⟨by omega, by omega⟩]
    · have hr : x % y ≠ 0 := by intro h0; rw [h0, dg_zero] at h3; exact h3 rfl
      exact ih y (x % y) N0 N1 m0 m1 (by omega) (by omega) hly (Nat.le_trans (dg_le_length (by omega)) hly) hA' hB' (by
        rw [← hg, Nat.gcd_comm x y, Nat.gcd_rec y x, Nat.gcd_comm]) (by omega) (by omega) c1 c2 n0 c5
theorem freduce_ev (A B : Nat) (hB : 0 < B) (hlA : (dg A).length ≤ 1000) (hlB : (dg B).length ≤ 1000) : Ev (fun k => frac_reduce.f k (im (dg A)) (im (dg B))) (reduceS A B) := by
  unfold frac_reduce.f
  exact freduce_l0 A B B A B 1 0 0 1 (Nat.le_refl _) hB hlA hlB (by omega) (by omega) rfl (by omega) (by omega) (by omega) (by omega) (by omega) (by omega)
end Go.Proofs.Ytoenhagbgfkihaa.A
