-- By pack.py, a program of this session's: declarations of this seat's texts, put together for a claim.
import Derived.Test.YtelfiofnhchmbaaDoorZ5
namespace Go.Proofs.YtelfiofnhchmbaaDoor.A
open Go.RowKit Go.Proofs.YtelfiofnhchmbaaDoor.B Go.Proofs.YtelfiofnhchmbaaDoorW.PrintWords Go.Proofs.YtelfiofnhchmbaaDoorW.PrintLast Go.Proofs.YtelfiofnhchmbaaDoorW.PrintMore
theorem nDigits_le : ∀ (k u : Nat), u < 10 ^ (k + 1) → Lib.nDigits u ≤ k + 1
  | 0, u, h => by rw [Lib.nDigits_small (by simpa using h)]; exact Nat.le_refl _
  | k + 1, u, h => by
    by_cases hu : u < 10
    · rw [Lib.nDigits_small hu]; omega
    · rw [Lib.nDigits_big hu]
      have := nDigits_le k (u / 10) (by rw [Nat.pow_succ] at h; omega)
      omega
theorem ba_ext {s t : ByteArray} (h : s.data.toList = t.data.toList) : s = t := by
  cases s; cases t; simp only [ByteArray.mk.injEq]; exact Array.toList_inj.mp h
theorem ba_append (s t : ByteArray) : (s ++ t).data.toList = s.data.toList ++ t.data.toList := by simp
theorem itoa_size (n : Int) (h : I64 n) : (⟨(Lib.itoa n).toArray⟩ : ByteArray).size ≤ 20 := by
  have h2 : Lib.nDigits n.natAbs ≤ 19 := nDigits_le 18 n.natAbs (by unfold I64 at h; omega)
  rw [size_eq']
  show (Lib.itoa n).length ≤ 20
  by_cases h0 : n < 0
  · rw [itoa_neg' h0, List.length_cons, Lib.decDigits_length]; omega
  · rw [itoa_pos h0, Lib.decDigits_length]; omega
theorem num_Text_at (n : Int) (h : I64 n) : num_Text.f n = some ⟨(Lib.itoa n).toArray⟩ := by
  unfold num_Text.f; rw [if_pos h]
end Go.Proofs.YtelfiofnhchmbaaDoor.A
namespace Go.Proofs.YtelfiofnhchmbaaDoor.A
open Go.RowKit Go.Proofs.YtelfiofnhchmbaaDoor.B Go.Proofs.YtelfiofnhchmbaaDoorW.PrintWords Go.Proofs.YtelfiofnhchmbaaDoorW.PrintLast Go.Proofs.YtelfiofnhchmbaaDoorW.PrintMore
set_option linter.unusedVariables false
set_option linter.unusedSimpArgs false
def fracTextL (n d : Int) : List UInt8 := if d = 1 then Lib.itoa n else Lib.itoa n ++ 47 :: Lib.itoa d
def fracTextS (n d : Int) : ByteArray × Int := if rightS n d = true then (⟨(fracTextL n d).toArray⟩, 0) else (⟨#[]⟩, 2)
theorem frac_Text_ev (n d : Int) (hn : I64 n) (hd : I64 d) : Ev (fun k => frac_Text.f k n d) (fracTextS n d) := by
  unfold frac_Text.f fracTextS fracTextL
  refine Ev.bind (frac_Right_ev n d hn hd) (Ev.both (fun h => ?_) (fun h => Ev.is (by rw [if_neg h])))
  rw [if_pos h, num_Text_at n hn]
  simp only [Option.bind_some]
  refine Ev.both (fun h1 => Ev.is (by rw [if_pos h1])) (fun h1 => ?_)
  rw [if_neg h1, num_Text_at d hd]
  simp only [Option.bind_some]
  have s1 := itoa_size n hn
  have s2 := itoa_size d hd
  have z : ((⟨#[47]⟩ : ByteArray) ++ (⟨(Lib.itoa d).toArray⟩ : ByteArray)).size = 1 + (⟨(Lib.itoa d).toArray⟩ : ByteArray).size := by rw [ByteArray.size_append]; rfl
  refine Ev.yes (by omega) (Ev.yes (by rw [z]; omega) (Ev.is ?_))
  congr 1
def cutT (c : S53) : List UInt8 := (fracTextS c.f1.f0 c.f1.f1).1.data.toList ++ (32 :: (Lib.itoa c.f0 ++ [32]))
def textFrom (l : List S53) : Nat → Nat → List UInt8
  | _, 0 => []
  | i, d + 1 => cutT (cutAt l i) ++ textFrom l (i + 1) d
def endT (n : Int) (b : Bool) : List UInt8 := (if b = true then [101, 111, 109, 32] else [110, 101, 116, 32]) ++ Lib.itoa n
def termsT (n : Int) (b : Bool) (l : List S53) : List UInt8 := textFrom l 0 l.length ++ endT n b
def termsTextS (n : Int) (b : Bool) (l : List S53) : ByteArray × Int := if termsOk n l = true then (⟨(termsT n b l).toArray⟩, 0) else (⟨#[]⟩, 2)
theorem ba_size (l : List UInt8) : (⟨l.toArray⟩ : ByteArray).size = l.length := by show l.toArray.size = _; rw [List.size_toArray]
theorem itoa_len (n : Int) (h : I64 n) : (Lib.itoa n).length ≤ 20 := by have := itoa_size n h; rwa [ba_size] at this
theorem fracText_size (a b : Int) (ha : I64 a) (hb : I64 b) : (fracTextS a b).1.size ≤ 41 := by
  unfold fracTextS
  split
  · show (⟨(fracTextL a b).toArray⟩ : ByteArray).size ≤ 41
    rw [ba_size]
    unfold fracTextL
    have h1 := itoa_len a ha
    have h2 := itoa_len b hb
    split
    · omega
    · rw [List.length_append, List.length_cons]; omega
  · show (0 : Nat) ≤ 41; omega
theorem piece_size (s t : ByteArray) : (s ++ t).size = s.size + t.size := ByteArray.size_append
theorem ttext_end (n : Int) (hn : I64 n) (b : Bool) (x2 : ByteArray) (hx : x2.size ≤ 1000000) :
    (if b = true then (if x2.size + 4 ≤ 9223372036854775807 then ((num_Text.f n).bind fun t133 => (if (x2 ++ (⟨#[101, 111, 109, 32]⟩ : ByteArray)).size + t133.size ≤ 9223372036854775807 then (some ((x2 ++ (⟨#[101, 111, 109, 32]⟩ : ByteArray)) ++ t133, (0 : Int))) else (none))) else (none))
      else (if x2.size + 4 ≤ 9223372036854775807 then ((num_Text.f n).bind fun t134 => (if (x2 ++ (⟨#[110, 101, 116, 32]⟩ : ByteArray)).size + t134.size ≤ 9223372036854775807 then (some ((x2 ++ (⟨#[110, 101, 116, 32]⟩ : ByteArray)) ++ t134, (0 : Int))) else (none))) else (none))) =
    some ((⟨(x2.data.toList ++ endT n b).toArray⟩ : ByteArray), (0 : Int)) := by
  have s1 := itoa_size n hn
  rw [num_Text_at n hn]
  simp only [Option.bind_some]
  have e1 : (⟨#[101, 111, 109, 32]⟩ : ByteArray).size = 4 := rfl
  have e2 : (⟨#[110, 101, 116, 32]⟩ : ByteArray).size = 4 := rfl
  cases b
  · rw [if_neg (by decide), if_pos (by omega), if_pos (by rw [piece_size, e2]; omega)]
    congr 2
    apply ba_ext
    rw [ba_append, ba_append]
    show (x2.data.toList ++ [110, 101, 116, 32]) ++ Lib.itoa n = _
    unfold endT
    rw [List.append_assoc]; rfl
  · rw [if_pos rfl, if_pos (by omega), if_pos (by rw [piece_size, e1]; omega)]
    congr 2
    apply ba_ext
    rw [ba_append, ba_append]
    show (x2.data.toList ++ [101, 111, 109, 32]) ++ Lib.itoa n = _
    unfold endT
    rw [List.append_assoc]; rfl
theorem ttext_next (x2 f t : ByteArray) (L : List UInt8) (c : S53) (hf : f = (fracTextS c.f1.f0 c.f1.f1).1) (ht : t.data.toList = Lib.itoa c.f0) :
    (x2 ++ (((f ++ (⟨#[32]⟩ : ByteArray)) ++ t) ++ (⟨#[32]⟩ : ByteArray))).data.toList ++ L = x2.data.toList ++ (cutT c ++ L) := by
  rw [ba_append, ba_append, ba_append, ba_append, ht, hf]
  unfold cutT
  simp
theorem ttext_l0 (l : List S53) (hl : Cuts l) (hlen : l.length ≤ 1000) (n : Int) (hn : I64 n) (b : Bool) (d : Nat) : ∀ (i : Nat) (x2 : ByteArray), i + d = l.length → x2.size ≤ 100 * i →
    Ev (fun k => terms_Text.l0 k x2 l (l.length : Int) (i : Int) n b l) ((⟨(x2.data.toList ++ (textFrom l i d ++ endT n b)).toArray⟩ : ByteArray), (0 : Int)) := by
  induction d with
  | zero =>
    intro i x2 hi hx
    refine Ev.step (fun k => by rw [terms_Text.l0]) ?_
    refine Ev.no (by omega) ?_
    exact ⟨0, fun _ _ => ttext_end n hn b x2 (by omega)⟩
  | succ d ih =>
    intro i x2 hi hx
    refine Ev.step (fun k => by rw [terms_Text.l0]) (Ev.yes (by omega) (Ev.yes (by omega) (Ev.yes (by omega) ?_)))
    rw [rd_cut, w_succ i (by omega)]
    have hc := hl.at i
    have s0 := fracText_size _ _ hc.2.1 hc.2.2
    have s1 := itoa_size _ hc.1
    refine Ev.bind (frac_Text_ev _ _ hc.2.1 hc.2.2) ?_
    rw [num_Text_at _ hc.1]
    simp only [Option.bind_some]
    have e1 : (⟨#[32]⟩ : ByteArray).size = 1 := rfl
    refine Ev.yes (by omega) (Ev.yes (by rw [piece_size, e1]; omega) (Ev.yes (by rw [piece_size, piece_size, e1]; omega) (Ev.yes (by rw [piece_size, piece_size, piece_size, e1]; omega) ?_)))
    have := ih (i + 1) (x2 ++ ((((fracTextS (cutAt l i).f1.f0 (cutAt l i).f1.f1).1 ++ (⟨#[32]⟩ : ByteArray)) ++ (⟨(Lib.itoa (cutAt l i).f0).toArray⟩ : ByteArray)) ++ (⟨#[32]⟩ : ByteArray))) (by omega) (by rw [piece_size, piece_size, piece_size, piece_size, e1]; omega)
    rw [ttext_next x2 _ _ _ (cutAt l i) rfl rfl, ← List.append_assoc (cutT (cutAt l i))] at this
    exact this
theorem terms_Text_ev (n : Int) (hn : I64 n) (b : Bool) (l : List S53) (hl : Cuts l) (hlen : l.length ≤ 1000) : Ev (fun k => terms_Text.f k n b l) (termsTextS n b l) := by
  unfold terms_Text.f termsTextS
  refine Ev.bind (terms_Right_ev n b l hl hlen) (Ev.both (fun h => ?_) (fun h => ?_))
  · rw [if_pos h]
    have := ttext_l0 l hl hlen n hn b l.length 0 ⟨#[]⟩ (by omega) (Nat.zero_le _)
    exact this
  · rw [if_neg h]
    exact Ev.is rfl
end Go.Proofs.YtelfiofnhchmbaaDoor.A
