/- The reference's arithmetic on numbers of any size: trim, less, minus, divide, common, number. -/
import Derived.Test.YtoenhagbgfkihaaAx14
import Derived.Test.YtoenhagbgfkihaaAx15
import Derived.Test.YtoenhagbgfkihaaL7
namespace Go.Proofs.Ytoenhagbgfkihaa.A
open Go.RowKit Go.Proofs.Ytoenhagbgfkihaa.B Go.Proofs.YtoenhagbgfkihaaW.PrintWords Go.Proofs.YtoenhagbgfkihaaW.PrintLast Go.Proofs.YtoenhagbgfkihaaW.PrintMore
set_option linter.unusedVariables false
set_option linter.unusedSimpArgs false
def i48 (l : List Nat) : List Int := l.map (fun (d : Nat) => ((48 + d : Nat) : Int))
theorem bt_bs (l : List Nat) (dl : Digs l) (i : Nat) (h : i < l.length) : bt (bs l) (i : Int) = ((48 + l.getD i 0 : Nat) : Int) := by
  have hd := dl.getD i
  rw [← bt_at (bs l) (i : Int) (by rw [Int.toNat_natCast, bs_size]; exact h)]
  congr 1
  have e : (bs l)[(i : Int).toNat]'(by rw [Int.toNat_natCast, bs_size]; exact h) = UInt8.ofNat (48 + l.getD i 0) := by
    have h2 : (bsL l)[i]'(by rw [bsL_length]; exact h) = UInt8.ofNat (48 + l.getD i 0) := by
      unfold bsL
      rw [List.getElem_map, List.getD_eq_getElem?_getD, List.getElem?_eq_getElem h]; rfl
    exact h2
  rw [e, UInt8.toNat_ofNat', Nat.mod_eq_of_lt (by omega)]
theorem bytesOf_bs (l : List Nat) (dl : Digs l) : bytesOf (bs l) = i48 l := by
  unfold bytesOf i48
  rw [bs_data]; unfold bsL
  rw [List.map_map]
  apply List.map_congr_left
  intro d hd
  have := dl d hd
  show ((UInt8.ofNat (48 + d)).toNat : Int) = _
  rw [UInt8.toNat_ofNat', Nat.mod_eq_of_lt (by omega)]
theorem strOf_i48 (l : List Nat) : strOfNums (i48 l) = bs l := by
  unfold strOfNums i48 bs bsL
  rw [List.map_map]
  rfl
theorem i48_length (l : List Nat) : (i48 l).length = l.length := by unfold i48; rw [List.length_map]
theorem i48_set (l : List Nat) (n v : Nat) : (i48 l).set n ((48 + v : Nat) : Int) = i48 (l.set n v) := by unfold i48; rw [List.map_set]
theorem i48_append (l m : List Nat) : i48 (l ++ m) = i48 l ++ i48 m := by unfold i48; rw [List.map_append]
theorem rtrim_ev (l : List Nat) (dl : Digs l) : Ev (fun k => accountingref03_trim.f k (bs l)) (bs (tr l)) := by
  unfold accountingref03_trim.f
  induction l with
  | nil =>
    refine Ev.step (fun k => by rw [accountingref03_trim.l0]) ?_
    exact Ev.no (by rw [bs_size]; decide) (Ev.is rfl)
  | cons x l ih =>
    refine Ev.step (fun k => by rw [accountingref03_trim.l0]) (Ev.yes (by rw [bs_size, List.length_cons]; omega) (Ev.yes (by rw [bs_size, List.length_cons]; omega) ?_))
    have e : bt (bs (x :: l)) 0 = ((48 + x : Nat) : Int) := bt_bs (x :: l) dl 0 (by rw [List.length_cons]; omega)
    rw [e, tr_cons]
    refine Ev.both (fun h => Ev.yes (by rw [bs_size, List.length_cons]; omega) ?_) (fun h => Ev.is (by rw [if_neg (by omega)]))
    rw [if_pos (by omega), bs_tail]
    exact ih dl.cons.2
theorem rless_eq (a b : List Nat) (da : Digs a) (db : Digs b) : accountingref03_less.f (bs a) (bs b) = some (lessN a b) := by
  unfold accountingref03_less.f lessN
  rw [bs_size, bs_size, bs_toList, bs_toList]
  unfold bsL
  rw [bytesLess_lex 48 (by omega) a b da db]
  by_cases h : a.length = b.length
  · rw [if_neg (by omega), if_pos (by omega), if_pos h]
  · rw [if_neg h]
    by_cases h1 : a.length < b.length
    · rw [if_pos (by omega), decide_eq_true h1]
    · rw [if_neg (by omega), if_neg (by omega), decide_eq_false h1]
theorem rminus_l0 (a b : List Nat) (n m : Nat) (ha : a.length = n) (hb : b.length = m) (hn : n ≤ 1000000) (hm : m ≤ n) (da : Digs a) (db : Digs b) (hle : nv b ≤ nv a) (d : Nat) : ∀ (j : Nat) (o : List Nat) (br : Nat), j + d = n → o.length = n → br ≤ 1 → Digs o →
    nv (a.drop (n - j)) + br * 10 ^ j = nv (b.drop (m - j)) + nv (o.drop (n - j)) →
    Ev (fun k => accountingref03_minus.l0 k (bs a) (bs b) (i48 o) (br : Int) ((j + 1 : Nat) : Int)) (bs (dg (nv a - nv b))) := by
  induction d with
  | zero =>
    intro j o br hj ho hbr dO h
    obtain rfl : j = n := by omega
    refine Ev.step (fun k => by rw [accountingref03_minus.l0]) (Ev.no (by rw [bs_size]; omega) ?_)
    rw [strOf_i48]
    have := rtrim_ev o dO
    rwa [tr_eq_dg dO, sub_end ha ho (by omega) dO hle (by rw [hb]; exact h)] at this
  | succ d ih =>
    intro j o br hj ho hbr dO h
    have Hh := Aside0.mk h
    clear h
    have hja : j < n := by omega
    have la := da.getD (n - 1 - j)
    have lb := db.getD (m - 1 - j)
    have fin : ∀ (x dig br' : Nat), (x = if j < m then b.getD (m - 1 - j) 0 else 0) → dig < 10 → br' ≤ 1 → a.getD (n - 1 - j) 0 + 10 * br' = x + dig + br →
        Ev (fun k => accountingref03_minus.l0 k (bs a) (bs b) ((i48 o).set (n - 1 - j) ((48 + dig : Nat) : Int)) (br' : Int) ((j + 1 + 1 : Nat) : Int)) (bs (dg (nv a - nv b))) := by
      intro x dig br' hx hdig hbr' he
      rw [i48_set]
      exact ih (j + 1) (o.set (n - 1 - j) dig) br' (by omega) (by rw [List.length_set]; exact ho) hbr' (dO.set _ _ hdig) (place n m j a b o ha ho hb hja br br' dig x hx Hh.out he)
    have hmn : mnDigit (bs a) (bs b) (br : Int) ((j + 1 : Nat) : Int) = (a.getD (n - 1 - j) 0 : Int) - br - ((if j < m then b.getD (m - 1 - j) 0 else 0 : Nat) : Int) := by
      unfold mnDigit
      rw [bs_size, bs_size, ha, hb, show (n : Int) - ((j + 1 : Nat) : Int) = ((n - 1 - j : Nat) : Int) by omega, bt_bs a da _ (by omega)]
      by_cases hjm : j < m
      · rw [if_pos (by omega), if_pos hjm, show (m : Int) - ((j + 1 : Nat) : Int) = ((m - 1 - j : Nat) : Int) by omega, bt_bs b db _ (by omega)]
        omega
      · rw [if_neg (by omega), if_neg hjm]
        omega
    refine Ev.step (fun k => by rw [accountingref03_minus.l0]) (Ev.yes (by rw [bs_size]; omega) ?_)
    rw [hmn, bs_size, ha, show ((n : Int) - ((j + 1 : Nat) : Int)).toNat = n - 1 - j by omega, show ((j + 1 : Nat) : Int) + 1 = ((j + 1 + 1 : Nat) : Int) by omega]
    have hx9 : (if j < m then b.getD (m - 1 - j) 0 else 0) < 10 := by split <;> omega
    generalize hx : (if j < m then b.getD (m - 1 - j) 0 else 0) = x at *
    generalize hga : a.getD (n - 1 - j) 0 = u at *
    refine Ev.both (fun hneg => ?_) (fun hpos => ?_)
    · rw [show (58 + ((u : Int) - br - (x : Int))) % 256 = ((48 + (u + 10 - br - x) : Nat) : Int) by omega]
      exact fin x (u + 10 - br - x) 1 rfl (by omega) (by omega) (by omega)
    · rw [show (48 + ((u : Int) - br - (x : Int))) % 256 = ((48 + (u - br - x) : Nat) : Int) by omega]
      exact fin x (u - br - x) 0 rfl (by omega) (by omega) (by omega)
theorem rminus_ev (a b : Nat) (hle : b ≤ a) (hn : (dg a).length ≤ 1000000) : Ev (fun k => accountingref03_minus.f k (bs (dg a)) (bs (dg b))) (bs (dg (a - b))) := by
  unfold accountingref03_minus.f
  have hm := dg_le_length hle
  refine Ev.yes ⟨by rw [bs_size]; omega, by rw [bs_size]; omega⟩ ?_
  rw [bytesOf_bs _ (digs_dg a)]
  have := rminus_l0 (dg a) (dg b) _ _ rfl rfl hn hm (digs_dg a) (digs_dg b) (by rw [nv_dg, nv_dg]; exact hle) (dg a).length 0 (dg a) 0 (by omega) rfl (by omega) (digs_dg a) (by
    rw [Nat.sub_zero, List.drop_length, Nat.sub_zero, List.drop_length]; rfl)
  rw [nv_dg, nv_dg] at this
  exact this
theorem rdiv_l1 (b : Nat) (hb : 0 < b) (hlb : (dg b).length ≤ 1000) (s : ByteArray) (Q : List Nat) (hQ : Q.length ≤ 1000000) (i : Int) (res : ByteArray × ByteArray) (t : Nat) : ∀ (R q : Nat), R / b = t → R < 10 * b → q + t < 10 →
    Ev (fun k => accountingref03_divide.l0 k s (bs (dg b)) (i48 (Q ++ [q + t])) (bs (dg (R % b))) (wrap64 (i + 1))) res →
    Ev (fun k => accountingref03_divide.l1 k s (bs (dg b)) (i48 Q) (bs (dg R)) i (q : Int)) res := by
  induction t with
  | zero =>
    intro R q ht hR hq h
    have hlt : R < b := by
      rcases Nat.lt_or_ge R b with h1 | h1
      · exact h1
      · have := Nat.div_pos h1 hb; omega
    refine Ev.step (fun k => by rw [accountingref03_divide.l1]) ?_
    rw [rless_eq _ _ (digs_dg R) (digs_dg b), lessN_dg, decide_eq_true hlt]
    simp only [Option.bind_some, if_true]
    rw [Nat.mod_eq_of_lt hlt] at h
    refine Ev.yes (by rw [i48_length]; omega) ?_
    rw [show wrap64 (48 + (q : Int)) % 256 = ((48 + q : Nat) : Int) by rw [w_in (by omega)]; omega]
    rw [i48_append] at h
    exact h
  | succ t ih =>
    intro R q ht hR hq h
    have hge : b ≤ R := by
      rcases Nat.lt_or_ge R b with h1 | h1
      · rw [Nat.div_eq_of_lt h1] at ht; omega
      · exact h1
    have hRl : (dg R).length ≤ 1000000 := by
      have h1 := nv_lt (digs_dg b)
      rw [nv_dg] at h1
      have h2 : R < 10 ^ ((dg b).length + 1) := by rw [Nat.pow_succ]; omega
      have := dg_length_le R _ h2
      omega
    refine Ev.step (fun k => by rw [accountingref03_divide.l1]) ?_
    rw [rless_eq _ _ (digs_dg R) (digs_dg b), lessN_dg, decide_eq_false (by omega)]
    simp only [Option.bind_some, Bool.false_eq_true, if_false]
    refine Ev.bind (rminus_ev R b hge hRl) ?_
    rw [w_q q (by omega)]
    have ht' : (R - b) / b = t := by
      have : R / b = (R - b) / b + 1 := by
        conv => lhs; rw [show R = (R - b) + b by omega]
        rw [Nat.add_div_right _ hb]
      omega
    refine ih (R - b) (q + 1) ht' (by omega) (by omega) ?_
    rw [show q + 1 + t = q + (t + 1) by omega, show (R - b) % b = R % b from (Nat.mod_eq_sub_mod hge).symm]
    exact h
theorem rdiv_l0 (b : Nat) (hb : 0 < b) (hlb : (dg b).length ≤ 1000) (l : List Nat) (hl : l.length ≤ 1000000) (dl : Digs l) (d : Nat) : ∀ (i : Nat) (Q : List Nat), i + d = l.length → Q.length = i → Digs Q → nv Q = nv (l.take i) / b →
    Ev (fun k => accountingref03_divide.l0 k (bs l) (bs (dg b)) (i48 Q) (bs (dg (nv (l.take i) % b))) (i : Int)) (bs (dg (nv l / b)), bs (dg (nv l % b))) := by
  induction d with
  | zero =>
    intro i Q hi hQ dQ hq
    refine Ev.step (fun k => by rw [accountingref03_divide.l0]) (Ev.no (by rw [bs_size]; omega) ?_)
    rw [List.take_of_length_le (by omega)] at *
    rw [strOf_i48]
    refine Ev.bind (rtrim_ev Q dQ) (Ev.is ?_)
    rw [tr_eq_dg dQ, hq]
  | succ d ih =>
    intro i Q hi hQ dQ hq
    have hil : i < l.length := by omega
    have htk : l.take (i + 1) = l.take i ++ [l.getD i 0] := by
      rw [List.take_succ_eq_append_getElem hil, List.getD_eq_getElem?_getD, List.getElem?_eq_getElem hil]; rfl
    have hx := dl.getD i
    have hex : (bs l).extract i (i + 1) = bs [l.getD i 0] := by
      rw [bs_extract, htk, List.drop_append_of_le_length (by rw [List.length_take]; omega), List.drop_eq_nil_of_le (by rw [List.length_take]; omega)]; rfl
    have hmod : nv (l.take i) % b < b := Nat.mod_lt _ hb
    have hlen : (dg (nv (l.take i) % b)).length ≤ 1000 := Nat.le_trans (dg_le_length (by omega)) hlb
    have hsd := step_div (nv (l.take i)) (l.getD i 0) b hb
    rw [← nv_snoc, ← htk] at hsd
    generalize hP : nv (l.take i) = P at *
    generalize l.getD i 0 = x at *
    refine Ev.step (fun k => by rw [accountingref03_divide.l0]) (Ev.yes (by rw [bs_size]; omega) (Ev.yes (by omega) ?_))
    rw [w_next i (by omega), Int.toNat_natCast, Int.toNat_natCast, hex, bs_size, bs_size, bs_size]
    refine Ev.yes (by omega) (Ev.yes (by omega) (Ev.yes (by rw [List.length_singleton]; omega) ?_))
    rw [bs_append]
    have hD : Digs (dg (P % b) ++ [x]) := (digs_dg _).append (Digs.mk hx Digs.nil)
    refine Ev.bind (rtrim_ev _ hD) ?_
    rw [tr_eq_dg hD, nv_snoc, nv_dg]
    have hR : 10 * (P % b) + x < 10 * b := by omega
    have ht : (10 * (P % b) + x) / b < 10 := by rw [Nat.div_lt_iff_lt_mul hb]; exact hR
    refine rdiv_l1 b hb hlb (bs l) Q (by omega) (i : Int) _ _ _ 0 rfl hR (by omega) ?_
    rw [← hsd.2, Nat.zero_add, w_next i (by omega)]
    refine ih (i + 1) (Q ++ [(10 * (P % b) + x) / b]) (by omega) (by rw [List.length_append, hQ]; rfl) (dQ.append (Digs.mk ht Digs.nil)) ?_
    rw [nv_snoc, hq, hsd.1]
theorem rdiv_ev (b : Nat) (hb : 0 < b) (hlb : (dg b).length ≤ 1000) (l : List Nat) (hl : l.length ≤ 1000000) (dl : Digs l) : Ev (fun k => accountingref03_divide.f k (bs l) (bs (dg b))) (bs (dg (nv l / b)), bs (dg (nv l % b))) := by
  unfold accountingref03_divide.f
  have := rdiv_l0 b hb hlb l hl dl l.length 0 [] (by omega) rfl Digs.nil (by rw [List.take_zero, nv_nil, Nat.zero_div])
  rw [List.take_zero, nv_nil, Nat.zero_mod, dg_zero] at this
  exact this
theorem bs_nil_iff (n : Nat) : (bs (dg n)).toList = ([] : List UInt8) ↔ n = 0 := by
  rw [bs_toList]; unfold bsL
  rw [List.map_eq_nil_iff, dg_nil_iff]
theorem rcommon_l0 (n : Nat) : ∀ x y : Nat, y ≤ n → (dg x).length ≤ 1000 → (dg y).length ≤ 1000 → Ev (fun k => accountingref03_common.l0 k (bs (dg x)) (bs (dg y))) (bs (dg (Nat.gcd x y))) := by
  induction n with
  | zero =>
    intro x y hy _ _
    obtain rfl : y = 0 := by omega
    refine Ev.step (fun k => by rw [accountingref03_common.l0]) (Ev.yes ((bs_nil_iff 0).mpr rfl) (Ev.is ?_))
    rw [Nat.gcd_zero_right]
  | succ n ih =>
    intro x y hy hlx hly
    refine Ev.step (fun k => by rw [accountingref03_common.l0]) ?_
    by_cases h0 : y = 0
    · subst h0
      refine Ev.yes ((bs_nil_iff 0).mpr rfl) (Ev.is ?_)
      rw [Nat.gcd_zero_right]
    · refine Ev.no (fun h => h0 ((bs_nil_iff y).mp h)) (Ev.bind (rdiv_ev y (by omega) hly (dg x) (by omega) (digs_dg x)) ?_)
      rw [nv_dg]
      have hlt := Nat.mod_lt x (show 0 < y by omega)
      have := ih y (x % y) (by omega) hly (Nat.le_trans (dg_le_length (by omega)) hly)
      rwa [show Nat.gcd y (x % y) = Nat.gcd x y by rw [Nat.gcd_comm x y, Nat.gcd_rec y x, Nat.gcd_comm]] at this
theorem rcommon_ev (x y : Nat) (hlx : (dg x).length ≤ 1000) (hly : (dg y).length ≤ 1000) : Ev (fun k => accountingref03_common.f k (bs (dg x)) (bs (dg y))) (bs (dg (Nat.gcd x y))) := by
  unfold accountingref03_common.f
  exact rcommon_l0 y x y (Nat.le_refl _) hlx hly
theorem nv_take_lt7 (l : List Nat) (dl : Digs l) (hl : l.length ≤ 7) (i : Nat) : nv (l.take i) < 10000000 := by
  have h1 : Digs (l.take i) := fun d hd => dl d (List.mem_of_mem_take hd)
  have h2 := nv_lt h1
  have h3 : 10 ^ (l.take i).length ≤ 10 ^ 7 := pow10_mono (by rw [List.length_take]; omega)
  omega
theorem rnumber_l0 (l : List Nat) (dl : Digs l) (hl : l.length ≤ 7) (d : Nat) : ∀ i : Nat, i + d = l.length → Ev (fun k => accountingref03_number.l0 k (bs l) ((nv (l.take i) : Nat) : Int) (i : Int)) ((nv l : Nat) : Int) := by
  induction d with
  | zero =>
    intro i hi
    refine Ev.step (fun k => by rw [accountingref03_number.l0]) (Ev.no (by rw [bs_size]; omega) (Ev.is ?_))
    rw [List.take_of_length_le (by omega)]
  | succ d ih =>
    intro i hi
    have hil : i < l.length := by omega
    have htk : l.take (i + 1) = l.take i ++ [l.getD i 0] := by
      rw [List.take_succ_eq_append_getElem hil, List.getD_eq_getElem?_getD, List.getElem?_eq_getElem hil]; rfl
    have hx := dl.getD i
    have hb := nv_take_lt7 l dl hl i
    have hn := ih (i + 1) (by omega)
    rw [htk, nv_snoc] at hn
    refine Ev.step (fun k => by rw [accountingref03_number.l0]) (Ev.yes (by rw [bs_size]; omega) (Ev.yes (by omega) ?_))
    rw [bt_bs l dl i hil]
    generalize nv (l.take i) = P at *
    generalize l.getD i 0 = x at *
    have e : wrap64 (wrap64 (wrap64 ((P : Int) * 10) + wrap64 ((48 + x : Nat) : Int)) - 48) = ((10 * P + x : Nat) : Int) := by
      rw [w_in (x := (P : Int) * 10) (by omega), w_in (x := ((48 + x : Nat) : Int)) (by omega), w_in (x := (P : Int) * 10 + ((48 + x : Nat) : Int)) (by omega), w_in (by omega)]; omega
    rw [e, w_next i (by omega)]
    exact hn
theorem rnumber_ev (l : List Nat) (dl : Digs l) (hl : l.length ≤ 7) : Ev (fun k => accountingref03_number.f k (bs l)) ((nv l : Nat) : Int) := by
  unfold accountingref03_number.f
  exact rnumber_l0 l dl hl l.length 0 (by omega)
end Go.Proofs.Ytoenhagbgfkihaa.A
