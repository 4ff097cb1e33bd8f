-- By gen.py, a program of this session's, over the print's forms: not the print's own text.
import Derived.Test.YthmpapnhomngnaaDoorB0
import Derived.Deep.LoopGhost
import Derived.Deep.RegionWith
import Derived.Deep.DeepCutAuto
import Derived.Laws.BitsLemmas
import Derived.Laws.BitsAllLaws
import Derived.Laws.Bits64b
import Derived.Lib.Hide
namespace Go.Proofs.YthmpapnhomngnaaDoor.B
open Go.Lib Go.RowKit Go.Proofs.YthmpapnhomngnaaDoorW.PrintWords

/-! ### the division of two words -/
/-- What the inner loop keeps: k bits of the word W are left; R0: the remainder before the word. -/
structure DInv (c R0 W k Q r : Nat) : Prop where
  le : k ≤ 64
  eq : R0 * 2 ^ (64 - k) + W / 2 ^ k = Q * c + r
  lt : r < c
  lt0 : R0 < c
  ltW : W < 18446744073709551616
theorem DInv.start {c R0 W : Nat} (h : R0 < c) (hW : W < 18446744073709551616) : DInv c R0 W 64 0 R0 :=
  ⟨Nat.le_refl _, by rw [Nat.div_eq_of_lt (show W < 2 ^ 64 from hW)]; simp, h, h, hW⟩
theorem DInv.bound {c R0 W k Q r : Nat} (h : DInv c R0 W k Q r) : Q < 2 ^ (64 - k) := by
  have h1 : W / 2 ^ k < 2 ^ (64 - k) := by
    rw [Nat.div_lt_iff_lt_mul (Nat.two_pow_pos k), ← Nat.pow_add, show 64 - k + k = 64 from by have := h.le; omega]
    exact h.ltW
  have h2 : (R0 + 1) * 2 ^ (64 - k) ≤ c * 2 ^ (64 - k) := Nat.mul_le_mul_right _ h.lt0
  have h3 : Q * c < c * 2 ^ (64 - k) := by
    have := h.eq
    rw [Nat.add_mul, Nat.one_mul] at h2
    omega
  rw [Nat.mul_comm] at h3
  exact Nat.lt_of_mul_lt_mul_left h3
theorem DInv.next {c R0 W k Q r : Nat} (h : DInv c R0 W (k + 1) Q r) :
    (c ≤ 2 * r + W / 2 ^ k % 2 → DInv c R0 W k (2 * Q + 1) (2 * r + W / 2 ^ k % 2 - c)) ∧ (2 * r + W / 2 ^ k % 2 < c → DInv c R0 W k (2 * Q) (2 * r + W / 2 ^ k % 2)) := by
  have hk := h.le
  have h1 : 2 ^ (64 - k) = 2 * 2 ^ (64 - (k + 1)) := by rw [show 64 - k = 64 - (k + 1) + 1 by omega, Nat.pow_succ]; omega
  have h2 : W / 2 ^ k = 2 * (W / 2 ^ (k + 1)) + W / 2 ^ k % 2 := by rw [Nat.pow_succ, ← Nat.div_div_eq_div_mul]; omega
  have h3 := h.eq
  have h4 := h.lt
  have key : R0 * 2 ^ (64 - k) + W / 2 ^ k = 2 * (Q * c) + (2 * r + W / 2 ^ k % 2) := by
    rw [h1, show R0 * (2 * 2 ^ (64 - (k + 1))) = 2 * (R0 * 2 ^ (64 - (k + 1))) by rw [Nat.mul_left_comm]]
    omega
  constructor
  · intro hc
    refine ⟨by omega, ?_, by omega, h.lt0, h.ltW⟩
    rw [key, Nat.add_mul, Nat.one_mul, Nat.mul_assoc]; omega
  · intro hc
    refine ⟨by omega, ?_, hc, h.lt0, h.ltW⟩
    rw [key, Nat.mul_assoc]
/-- The rest of the word is zero, and so is the remainder. -/
theorem DInv.early {c R0 W k Q : Nat} (h : DInv c R0 W (k + 1) Q 0) (hz : W * 2 ^ (63 - k) % 18446744073709551616 = 0) : DInv c R0 W 0 (Q * 2 ^ (k + 1)) 0 ∧ Q * 2 ^ (k + 1) < 18446744073709551616 := by
  have hk := h.le
  have hp : 2 ^ (k + 1) * 2 ^ (63 - k) = 18446744073709551616 := by rw [← Nat.pow_add, show k + 1 + (63 - k) = 64 by omega]
  have hm : W % 2 ^ (k + 1) = 0 := by
    rw [← hp, Nat.mul_mod_mul_right] at hz
    rcases Nat.mul_eq_zero.mp hz with h1 | h1
    · exact h1
    · exact absurd h1 (Nat.ne_of_gt (Nat.two_pow_pos _))
  have hW : W = W / 2 ^ (k + 1) * 2 ^ (k + 1) := by have := Nat.div_add_mod' W (2 ^ (k + 1)); omega
  have hb := h.bound
  refine ⟨⟨by omega, ?_, Nat.lt_of_le_of_lt (Nat.zero_le _) h.lt0, h.lt0, h.ltW⟩, ?_⟩
  · have h3 := h.eq
    have h3 : R0 * 2 ^ (64 - (k + 1)) + W / 2 ^ (k + 1) = Q * c := h3
    rw [Nat.add_zero]
    rw [Nat.pow_zero, Nat.div_one, Nat.sub_zero, Nat.mul_right_comm, ← h3, Nat.add_mul, Nat.mul_assoc R0, ← Nat.pow_add, ← hW, show 64 - (k + 1) + (k + 1) = 64 by omega]
  · have : Q * 2 ^ (k + 1) < 2 ^ (64 - (k + 1)) * 2 ^ (k + 1) := Nat.mul_lt_mul_of_pos_right hb (Nat.two_pow_pos _)
    rw [← Nat.pow_add, show 64 - (k + 1) + (k + 1) = 64 by omega] at this
    exact this
theorem DInv.done {c R0 W Q r : Nat} (h : DInv c R0 W 0 Q r) : Q = (R0 * 18446744073709551616 + W) / c ∧ r = (R0 * 18446744073709551616 + W) % c := by
  have h3 := h.eq
  rw [Nat.pow_zero, Nat.div_one, Nat.sub_zero] at h3
  have h4 : R0 * 18446744073709551616 + W = Q * c + r := h3
  rw [h4]
  have hc : 0 < c := Nat.lt_of_le_of_lt (Nat.zero_le _) h.lt0
  constructor
  · rw [Nat.add_comm, Nat.add_mul_div_right _ _ hc, Nat.div_eq_of_lt h.lt, Nat.zero_add]
  · rw [Nat.add_comm, Nat.add_mul_mod_self_right, Nat.mod_eq_of_lt h.lt]

/-- What the outer loop keeps: i words have been divided. -/
structure DOut (x y c i r q0 q1 : Nat) : Prop where
  at0 : i = 0 → r = 0 ∧ q0 = 0 ∧ q1 = 0
  at1 : i = 1 → r = x % c ∧ q0 = x / c ∧ q1 = 0
  at2 : i = 2 → r = (x % c * 18446744073709551616 + y) % c ∧ q0 = x / c ∧ q1 = (x % c * 18446744073709551616 + y) / c

theorem wu64n (n : Nat) : IntKind.u64.wrap (n : Int) = ((n % 18446744073709551616 : Nat) : Int) := by
  have : IntKind.u64.wrap (n : Int) = (n : Int) % 18446744073709551616 := by simp [IntKind.wrap, IntKind.signed, IntKind.bits]
  rw [this]; omega
theorem or_even (a : Nat) (h : 2 * a < 18446744073709551616) (b : Nat) (hb : b < 2) : bits .or .u64 ((2 * a : Nat) : Int) (b : Int) = ((2 * a + b : Nat) : Int) := by
  have := bits_join .u64 64 (by decide) (fun n h0 h1 => by rw [IntKind.wrap_u64]; omega) 1 ((2 * a : Nat) : Int) (b : Int) (by omega) (by omega) (by omega) (by omega) (by omega) (by omega)
  rw [this]; omega
theorem and_one (a : Nat) (h : a < 18446744073709551616) : bits .and .u64 (a : Int) 1 = ((a % 2 : Nat) : Int) := by
  have := bits_mask .u64 64 (by decide) (fun n h0 h1 => by rw [IntKind.wrap_u64]; omega) 1 (by decide) (a : Int) (by omega) (by omega)
  rw [show (2 : Int) ^ 1 - 1 = 1 by decide] at this
  rw [this]; omega

/-- The numbers of one round, as the walk spells them. -/
structure DNums (c W k Q r : Nat) (b s t : Int) (cv : Bool) : Prop where
  hb : bits BinOp.and IntKind.u64 ((W : Int) / 2 ^ k) 1 = b
  hs : IntKind.u64.wrap ((r : Int) * 2) = s
  ht : bits BinOp.or IntKind.u64 s b = t
  hc : ((r : Int) / 9223372036854775808 == 1) = cv
  hq : IntKind.u64.wrap ((Q : Int) * 2) = ((2 * Q : Nat) : Int)
  hq1 : bits BinOp.or IntKind.u64 ((2 * Q : Nat) : Int) 1 = ((2 * Q + 1 : Nat) : Int)
  ways : (cv = true ∧ c ≤ 2 * r + W / 2 ^ k % 2 ∧ IntKind.u64.wrap (t - (c : Int)) = ((2 * r + W / 2 ^ k % 2 - c : Nat) : Int)) ∨
    (cv = false ∧ (c : Int) ≤ t ∧ c ≤ 2 * r + W / 2 ^ k % 2 ∧ IntKind.u64.wrap (t - (c : Int)) = ((2 * r + W / 2 ^ k % 2 - c : Nat) : Int)) ∨
    (cv = false ∧ t < (c : Int) ∧ 2 * r + W / 2 ^ k % 2 < c ∧ t = ((2 * r + W / 2 ^ k % 2 : Nat) : Int))
theorem DInv.nums {c R0 W k Q r : Nat} (h : DInv c R0 W (k + 1) Q r) (hc : c < 18446744073709551616) : ∃ b s t cv, DNums c W k Q r b s t cv := by
  have hlt := h.lt
  have hQ : 2 * Q + 1 < 18446744073709551616 := by
    have hb := h.bound
    have hle := h.le
    have : 2 * 2 ^ (64 - (k + 1)) ≤ 2 ^ 64 := by
      rw [← Nat.pow_succ']; exact Nat.pow_le_pow_right (by decide) (by omega)
    have e : (2 : Nat) ^ 64 = 18446744073709551616 := by decide
    omega
  have hWk : W / 2 ^ k < 18446744073709551616 := Nat.lt_of_le_of_lt (Nat.div_le_self _ _) h.ltW
  have e0 : ((W : Int) / 2 ^ k) = ((W / 2 ^ k : Nat) : Int) := by rw [Int.natCast_ediv, Int.natCast_pow]; rfl
  obtain ⟨v, hv⟩ : ∃ v, v = W / 2 ^ k := ⟨_, rfl⟩
  rw [← hv] at hWk e0
  refine ⟨((v % 2 : Nat) : Int), ((2 * (r % 9223372036854775808) : Nat) : Int), ((2 * (r % 9223372036854775808) + v % 2 : Nat) : Int), decide (9223372036854775808 ≤ r), ?_, ?_, ?_, ?_, ?_, ?_, ?_⟩
  · rw [e0, and_one v hWk]
  · rw [show (r : Int) * 2 = ((2 * r : Nat) : Int) by omega, wu64n]; congr 1; omega
  · exact or_even _ (by omega) _ (by omega)
  · rw [Bool.eq_iff_iff, beq_iff_eq, decide_eq_true_iff]; omega
  · rw [show (Q : Int) * 2 = ((2 * Q : Nat) : Int) by omega, wu64n]; congr 1; omega
  · exact or_even Q (by omega) 1 (by omega)
  · rw [← hv]
    have wr : ∀ z : Int, IntKind.u64.wrap z = z % 18446744073709551616 := fun z => by simp [IntKind.wrap, IntKind.signed, IntKind.bits]
    by_cases h1 : 9223372036854775808 ≤ r
    · refine .inl ⟨decide_eq_true h1, by omega, ?_⟩
      rw [wr]; omega
    · have e : r % 9223372036854775808 = r := Nat.mod_eq_of_lt (by omega)
      rw [e]
      by_cases h2 : c ≤ 2 * r + v % 2
      · refine .inr (.inl ⟨decide_eq_false h1, by omega, h2, ?_⟩)
        rw [wr]; omega
      · exact .inr (.inr ⟨decide_eq_false h1, by omega, by omega, rfl⟩)
theorem m64_maskN (a : Nat) (ha : a < 18446744073709551616) : bits .and .u64 (a : Int) 4294967295 = ((a % 4294967296 : Nat) : Int) := by
  have h := bits_and_u64_nat a 4294967295 ha (by omega)
  have e : a &&& 4294967295 = a % 4294967296 := Nat.and_two_pow_sub_one_eq_mod a 32
  rw [e] at h
  exact h
theorem m64_divN (a : Nat) : (a : Int) / 4294967296 = ((a / 4294967296 : Nat) : Int) := by omega
theorem m64_mulN (a b : Nat) : (a : Int) * (b : Int) = ((a * b : Nat) : Int) := (Int.natCast_mul a b).symm
theorem m64_addN (a b : Nat) : (a : Int) + (b : Int) = ((a + b : Nat) : Int) := (Int.natCast_add a b).symm
theorem m64_wrapN (a : Nat) (ha : a < 18446744073709551616) : IntKind.u64.wrap (a : Int) = (a : Int) := by rw [IntKind.wrap_u64]; omega
theorem m64_wrapM (a : Nat) : IntKind.u64.wrap (a : Int) = ((a % 18446744073709551616 : Nat) : Int) := by rw [IntKind.wrap_u64]; omega
theorem m64_shl (a : Nat) : IntKind.u64.wrap ((a : Int) * 4294967296) = (((a % 4294967296) * 4294967296 : Nat) : Int) := by rw [IntKind.wrap_u64]; omega
theorem m64_join (a b : Nat) (ha : a < 4294967296) (hb : b < 4294967296) : bits .or .u64 ((a * 4294967296 : Nat) : Int) (b : Int) = ((a * 4294967296 + b : Nat) : Int) := by
  have := bits_join .u64 64 (by decide) (fun n h0 h1 => by rw [IntKind.wrap_u64]; omega) 32 ((a * 4294967296 : Nat) : Int) (b : Int) (by omega) (by omega) (by omega) (by omega) (by omega) (by omega)
  rw [this]; omega
theorem mul_lo (x y : Nat) : ((x % 4294967296 * (y / 4294967296) + ((x / 4294967296 * (y % 4294967296) + (x % 4294967296 * (y % 4294967296)) / 4294967296) % 4294967296)) % 4294967296) * 4294967296 + (x % 4294967296 * (y % 4294967296)) % 4294967296 = x * y % 18446744073709551616 := by
  have e : x * y = (x / 4294967296) * (y / 4294967296) * (4294967296 * 4294967296) + ((x / 4294967296) * (y % 4294967296) + (x % 4294967296) * (y / 4294967296)) * 4294967296 + (x % 4294967296) * (y % 4294967296) := by
    have h := Go.Lib.split_mul (x / 4294967296) (x % 4294967296) (y / 4294967296) (y % 4294967296) 4294967296
    rw [← h, Nat.div_add_mod' x 4294967296, Nat.div_add_mod' y 4294967296]
  rw [e]
  generalize (x / 4294967296) * (y / 4294967296) = a at *
  generalize (x / 4294967296) * (y % 4294967296) = b at *
  generalize (x % 4294967296) * (y / 4294967296) = c at *
  generalize (x % 4294967296) * (y % 4294967296) = d at *
  omega
/-- Is a quotient with remainder r rounded away from zero? -/
def mdAway (mode : Int) (neg odd : Bool) (r c : Nat) : Bool := decide (r ≠ 0) && (decide (mode = 2) || decide (mode = 3 ∧ c - r ≤ r) || decide (mode = 4 ∧ (c - r < r ∨ r = c - r ∧ odd = true)) || decide (mode = 5 ∧ neg = true))
def mdSigned (neg : Bool) (size : Nat) : Int × Int := if neg then (if 9223372036854775808 < size then (0, 4) else (-(size : Int), 0)) else if 9223372036854775808 ≤ size then (0, 4) else ((size : Int), 0)
def mulDivS (a b c mode : Int) : Int × Int :=
  if mode < 1 ∨ 5 < mode then (0, 10) else if c = 0 then (0, 2) else
    mdSigned (decide (a.natAbs * b.natAbs ≠ 0) && ((decide (a < 0) != decide (b < 0)) != decide (c < 0)))
      (a.natAbs * b.natAbs / c.natAbs + if mdAway mode (decide (a.natAbs * b.natAbs ≠ 0) && ((decide (a < 0) != decide (b < 0)) != decide (c < 0))) (decide (a.natAbs * b.natAbs / c.natAbs % 2 = 1)) (a.natAbs * b.natAbs % c.natAbs) c.natAbs = true then 1 else 0)
theorem md_hi {x y phi : Nat} (h : x * y / 18446744073709551616 = phi) (hx : x < 18446744073709551616) (hy : y < 18446744073709551616) : phi < 18446744073709551616 := by
  rw [← h, Nat.div_lt_iff_lt_mul (by decide)]
  exact Nat.mul_lt_mul'' hx hy
theorem md_q1 {phi plo z Q1 p : Nat} (hz : 0 < z) (h2 : p % 18446744073709551616 = plo) (h : (phi % z * 18446744073709551616 + plo) / z = Q1) : Q1 < 18446744073709551616 := by
  rw [← h, Nat.div_lt_iff_lt_mul hz]
  have h1 : phi % z < z := Nat.mod_lt _ hz
  have h3 : plo < 18446744073709551616 := by omega
  have h4 : (phi % z + 1) * 18446744073709551616 ≤ z * 18446744073709551616 := Nat.mul_le_mul_right _ h1
  have h5 : (phi % z + 1) * 18446744073709551616 = phi % z * 18446744073709551616 + 18446744073709551616 := by rw [Nat.add_mul, Nat.one_mul]
  have h6 : z * 18446744073709551616 = 18446744073709551616 * z := Nat.mul_comm z 18446744073709551616
  omega
theorem md_split' (M p z phi plo Q0 Q1 R : Nat) (hz : 0 < z) (h1 : p / M = phi) (h2 : p % M = plo) (hQ0 : phi / z = Q0) (hQ1 : (phi % z * M + plo) / z = Q1) (hR : (phi % z * M + plo) % z = R) :
    p / z = Q0 * M + Q1 ∧ p % z = R := by
  have e : p = (phi % z * M + plo) + z * (Q0 * M) := by
    have h3 : z * Q0 + phi % z = phi := by rw [← hQ0]; exact Nat.div_add_mod phi z
    have h4 : M * phi + plo = p := by rw [← h1, ← h2]; exact Nat.div_add_mod p M
    have h5 : z * (Q0 * M) + phi % z * M = M * phi := by rw [← Nat.mul_assoc, ← Nat.add_mul, h3, Nat.mul_comm]
    omega
  constructor
  · rw [e, Nat.add_mul_div_left _ _ hz, hQ1, Nat.add_comm]
  · rw [e, Nat.add_mul_mod_self_left, hR]
theorem md_split {p z phi plo Q0 Q1 R : Nat} (hz : 0 < z) (h1 : p / 18446744073709551616 = phi) (h2 : p % 18446744073709551616 = plo) (hQ0 : phi / z = Q0) (hQ1 : (phi % z * 18446744073709551616 + plo) / z = Q1) (hR : (phi % z * 18446744073709551616 + plo) % z = R) :
    p / z = Q0 * 18446744073709551616 + Q1 ∧ p % z = R := md_split' 18446744073709551616 p z phi plo Q0 Q1 R hz h1 h2 hQ0 hQ1 hR
theorem mdSigned_big (ng : Bool) {n : Nat} (h : 9223372036854775808 < n) : mdSigned ng n = (0, 4) := by
  unfold mdSigned
  cases ng
  · rw [if_neg (by decide), if_pos (by omega)]
  · rw [if_pos rfl, if_pos h]
theorem md_fin (a b c mode : Int) (x y z phi plo Q0 Q1 R : Nat) (pz ng : Bool) (hx : x = a.natAbs) (hy : y = b.natAbs) (hz : z = c.natAbs) (h1 : x * y / 18446744073709551616 = phi) (h2 : x * y % 18446744073709551616 = plo)
    (hQ0 : phi / z = Q0) (hQ1 : (phi % z * 18446744073709551616 + plo) / z = Q1) (hR : (phi % z * 18446744073709551616 + plo) % z = R) (hpz : pz = ((phi : Int) == 0 && (plo : Int) == 0)) (hng : ng = (!pz && ((!(!decide (a < 0) == decide (b < 0)) == decide (c < 0))))) (hzp : 0 < z)
    (hm : 1 ≤ mode ∧ mode ≤ 5) :
    (Q0 = 0 → mulDivS a b c mode = mdSigned ng (Q1 + if mdAway mode ng (decide (Q1 % 2 = 1)) R z = true then 1 else 0)) ∧ (¬ Q0 = 0 → mulDivS a b c mode = (0, 4)) := by
  obtain ⟨hd, hr⟩ := md_split hzp h1 h2 hQ0 hQ1 hR
  have hn : (decide (a.natAbs * b.natAbs ≠ 0) && ((decide (a < 0) != decide (b < 0)) != decide (c < 0))) = ng := by
    rw [hng, hpz, ← hx, ← hy]
    congr 1
    · rw [Bool.eq_iff_iff, decide_eq_true_iff, Bool.not_eq_true', Bool.and_eq_false_iff, beq_eq_false_iff_ne, beq_eq_false_iff_ne]
      generalize x * y = p at *
      omega
  unfold mulDivS
  rw [if_neg (by omega), if_neg (by omega), hn, ← hx, ← hy, ← hz, hd, hr]
  constructor
  · rintro rfl
    rw [Nat.zero_mul, Nat.zero_add]
  · intro h
    have hbig : 18446744073709551616 ≤ Q0 * 18446744073709551616 + Q1 := by omega
    obtain ⟨q, hq⟩ : ∃ q, q = Q0 * 18446744073709551616 + Q1 := ⟨_, rfl⟩
    rw [← hq] at hbig ⊢
    clear hq hd h
    exact mdSigned_big ng (by omega)
theorem ret_bool {a b : Bool} (h : a = b) : Ending.returned (.bool a) = .returned (.bool b) := by rw [h]
theorem bcell {W w1 : World} (hb : Below W.heap.size W w1) : (∀ b o, b < W.heap.size → w1.cell? ⟨b, o, none⟩ = W.cell? ⟨b, o, none⟩) ∧ (∀ b o, b < W.heap.size → w1.frozen? ⟨b, o, none⟩ = W.frozen? ⟨b, o, none⟩) :=
  ⟨fun b o h => hb.cell (p := ⟨b, o, none⟩) h, fun b o h => hb.frozen (p := ⟨b, o, none⟩) h⟩
end Go.Proofs.YthmpapnhomngnaaDoor.B

