-- By pack.py, a program of this session's: declarations of this seat's texts, put together for a claim.
import Derived.Deep.Slices
import Derived.Lib.SmallJoins
import Derived.OpenShut
import Derived.SizedLaws
import Derived.Test.YtelfiofnhchmbaaDoorZ4
namespace Go.Proofs.YtelfiofnhchmbaaDoor.A
open Go.RowKit Go.Proofs.YtelfiofnhchmbaaDoor.B Go.Proofs.YtelfiofnhchmbaaDoorW.PrintWords Go.Proofs.YtelfiofnhchmbaaDoorW.PrintLast Go.Proofs.YtelfiofnhchmbaaDoorW.PrintMore
attribute [local go_sem] max2_int min2_int max_two min_two max_three min_three max_four min_four
set_option linter.unusedVariables false
set_option linter.unusedSimpArgs false
set_option maxHeartbeats 8000000
set_option maxRecDepth 100000
theorem terms_calls {bd : Nat} (k : Nat) (g : Nat) (l : List S91) (r : Option (Int × Bool × List S53)) (w : World) (hbd : bd ≤ w.heap.size) (hP : Par bd w g l) (h : pterms k l [] = some r) :
  Calls Tryd.prog 37 #[.pointer (some ⟨g, 0, none⟩)] w (TermsPost w g r) := by
 have hlt : g < w.heap.size := by obtain ⟨A, c, hc, _⟩ := hP.ex; exact lt_of_cell hc
 generalize hQ : TermsPost w g r = Post
 have HP := sd hQ
 have HW := sd hP
 have H := sd h
 clear hP hQ h
 go_enter Tryd.func37, Tryd.ntmps37
 go_wp2_with fail
 go_loopg [] k (fun kq wr => ∃ (l' : List S91) (cs : List S53) (v : Value), Aside0 (pterms kq l' cs = some r) ∧ Aside0 (Par bd wr g l') ∧ Aside0 (KB w wr g) ∧ Aside0 (wr.heap[w.heap.size]? = some (.cells #[.int .i64 0, .bool false, v] 24 (0, 0))) ∧ Aside0 (Kd.R k53 53 wr (w.heap.size + 1) (fun _ => True) v cs))
 case atStart => exact ⟨l, [], .slice none 0 0, H, ⟨HW.out.below (below_alloc (Below.refl _ _) _)⟩, ⟨kb_alloc (KB.refl _ _) _⟩, ⟨blk_new _ _⟩, ⟨Kd.R_nil _ _ _ _ _⟩⟩
 case round =>
  clear HW H
  obtain ⟨l', cs, v, HA, HPr, HK, HB, HR⟩ := hrel
  obtain ⟨va, vc, rfl⟩ := Kd.R_slice HR.out
  cases gk with
  | zero => exact absurd HA.out (by simp [pterms])
  | succ k1 =>
   have H := HA.out
   clear HA
   have hltw : w.heap.size < wr.heap.size := blk_lt HB.out
   have HRR := sd (reads_two wr [2, 1] (by decide))
   have HPr1 : Aside0 (Par bd (wr.alloc (.cells (nums .i64 [2, 1]).toArray 3)) g l') := ⟨HPr.out.below (below_alloc (Below.refl _ _) _)⟩
   have HK1 : Aside0 (KB w (wr.alloc (.cells (nums .i64 [2, 1]).toArray 3)) g) := ⟨kb_alloc HK.out _⟩
   have HB1 := sd (blk_alloc HB.out (.cells (nums .i64 [2, 1]).toArray 3))
   have HR1 := sd (Kd.R_alloc HR.out (o := .cells (nums .i64 [2, 1]).toArray 3))
   have hz1 : w.heap.size < (wr.alloc (.cells (nums .i64 [2, 1]).toArray 3)).heap.size := blk_lt HB1.out
   rw [show (nums .i64 [2, 1]).toArray = #[.int .i64 2, .int .i64 1] from rfl] at HRR HPr1 HK1 HB1 HR1 hz1
   match l', H with
   | [], H =>
    simp only [pterms] at H
    obtain rfl := Option.some.inj H
    have HPan : Aside0 (∀ W, KB w W g → Post badEnd W) := ⟨fun W hW => by rw [← HP.out]; exact ⟨hW, rfl⟩⟩
    clear HP
    have HN := sd (next_empty g (.slice (some ⟨wr.heap.size, 0, none⟩) 2 2) _ HPr1.out)
    go_wp2_with fail
    refine (HN.out).mono ?_
    unfold badEnd
    rintro e w' ⟨rfl, hb⟩
    have HB := sd hb
    clear hb
    go_wp2_with fail
    simp only [bodyPost]
    exact ⟨trivial, HPan.out _ (HK1.out.trans (KB.of_below HB.out g))⟩
   | x :: l', H =>
    simp only [pterms] at H
    by_cases hk1 : x.f0 = 1
    ·rw [if_pos hk1] at H
     have HN := sd (next_some g x l' [2, 1] _ 2 _ HPr1.out HRR.out (by rw [hk1]; simp))
     rw [show [(2 : Int), 1].length = 2 from rfl] at HN
     by_cases hs : x.f1.toList = netL ∨ x.f1.toList = eomL
     ·rw [if_pos hs] at H
      have hn : (x.f1.toList == [110, 101, 116]) = true ∧ (x.f1.toList != [110, 101, 116]) = false ∧ (x.f1.toList == [101, 111, 109]) = false ∧ (x.f1.toList != [101, 111, 109]) = true ∨ (x.f1.toList == [110, 101, 116]) = false ∧ (x.f1.toList != [110, 101, 116]) = true ∧ (x.f1.toList == [101, 111, 109]) = true ∧ (x.f1.toList != [101, 111, 109]) = false := by
       rcases hs with e | e <;> rw [e] <;> decide
      clear hs
      by_cases hl : l'.length = 1
      ·rw [if_pos hl] at H
       have hl1 : ((l'.length : Int) == 1) = true := beq_iff_eq.mpr (by omega)
       have hl2 : ((l'.length : Int) != 1) = false := bne_eq_false_iff_eq.mpr (by omega)
       clear hl
       obtain ⟨rn, hrn, rfl⟩ := Option.map_eq_some_iff.mp H
       have HNum := sd (fun W (hW : Par bd W g l') => number_calls (bd := bd) g l' rn W hW hrn)
       clear hrn H
       cases rn with
       | none =>
        have HPan : Aside0 (∀ W, KB w W g → Post badEnd W) := ⟨fun W hW => by rw [← HP.out]; exact ⟨hW, rfl⟩⟩
        clear HP
        rcases hn with ⟨n1, n2, n3, n4⟩ | ⟨n1, n2, n3, n4⟩
        all_goals
         go_wp2_with fail
         refine (HN.out).mono ?_
         rintro e w' ⟨rfl, hb, hp⟩
         obtain ⟨A2, c2, hc2, hq2⟩ := hp.ex
         have HB2 := sd hb
         have HPr2 := sd hp
         have hs1 : wr.heap.size < w'.heap.size := Nat.lt_of_lt_of_le (by simp) hb.1
         have hg2 := lt_of_cell hc2
         have HBk := sd (hb.blk HB1.out (by omega) (by simp))
         have HR2 := sd (Kd.R_keep (Kd.R_mono (Kd.R_bound HR1.out) (fun k hk => hk.2.1)) hb.keep (fun k hk => by have : w.heap.size + 1 ≤ k := hk; omega))
         clear hb hp hq2
         go_wp2_with fail
         generalize hX : w'.alloc (Obj.cells #[Value.int IntKind.i64 1, Value.string x.f1, Value.int IntKind.i64 x.f2] 91) = wx
         have hPx : Par bd wx g l' := by rw [← hX]; exact HPr2.out.below (below_alloc (Below.refl _ _) _)
         have hcx : wx.cell? ⟨w'.heap.size, 1, none⟩ = some (.string x.f1) := by rw [← hX]; simp [go_sem]
         have hBx : wx.heap[w.heap.size]? = some (.cells #[.int .i64 0, .bool false, .slice va cs.length vc] 24 (0, 0)) := by rw [← hX]; exact blk_alloc HBk.out _
         have hKx : KB w wx g := by rw [← hX]; exact kb_alloc (HK1.out.trans HB2.out) _
         have hRx : Kd.R k53 53 wx (w.heap.size + 1) (fun k => w.heap.size + 1 ≤ k) (.slice va cs.length vc) cs := by rw [← hX]; exact Kd.R_alloc HR2.out (o := _)
         have hgw : g ≠ w'.heap.size := by omega
         have hws : w'.heap.size < wx.heap.size := by rw [← hX]; simp
         have HPx := sd hPx
         have HBx := sd hBx
         have HKx := sd hKx
         have HRx := sd hRx
         clear hX hPx hBx hKx hRx HPr2 HBk HB2 HR2 HR1 HB1 HK1 HPr1 HN hc2
         generalize hbx : w'.heap.size = bx at hcx hgw hws ⊢
         have hPy : Par bd wx.drew g l' := HPx.out.below (below_drew (Below.refl _ _))
         have hBy : wx.drew.heap[w.heap.size]? = _ := HBx.out
         have hKy : KB w wx.drew g := kb_drew HKx.out
         have hRy : Kd.R k53 53 wx.drew _ _ (.slice va cs.length vc) cs := HRx.out
         refine start_ (n := 9) (S := fun w' => w'.cell? ⟨bx, 1, none⟩ = some (.string x.f1)) (ds := [6, 8]) #[false, false, false, false, false, false, false, false, false] (by kernel_rfl) rfl rfl hcx (fun hHeld => ?_)
         generalize wx.drew = wy at hHeld hPy hBy hKy hRy ⊢
         refine pB 0 30 ?_
         refine tB 1 31 hHeld ?_
         refine pB 2 32 ?_
         refine pB 3 33 ?_
         refine pB 5 35 ?_
         refine one_ (i := 4) (N := some 34) #[true, true, true, true, true, true, false, false, false] rfl rfl (by kernel_rfl) (by decide) (fun K hK => ?_)
         refine goesP_ Tryd.func52 (by kernel_rfl) rfl #[.pointer (some ⟨g, 0, none⟩)] (by rfl) rfl rfl zq17 ?_
         refine (HNum.out _ hPy).mono ?_
         rintro e W2 ⟨hk2, he⟩
         dsimp only at he
         subst he
         right
         refine ⟨_, rfl, ?_⟩
         simp [Exit.then, Exit.inBlock, bodyPost]
         exact ( HPan.out _ (hKy.trans hk2))
       | some p =>
        have HPs : Aside0 (∀ W, KB w W g → Kd.R k53 53 W w.heap.size (fun _ => True) (.slice va cs.length vc) cs → Post (.returned (.agg #[.int .i64 p.1, .bool (x.f1.toList == eomL), .slice va cs.length vc])) W) := ⟨fun W hW hR => by rw [← HP.out]; exact ⟨hW, _, rfl, hR⟩⟩
        clear HP
        rcases hn with ⟨n1, n2, n3, n4⟩ | ⟨n1, n2, n3, n4⟩
        ·
         go_wp2_with fail
         refine (HN.out).mono ?_
         rintro e w' ⟨rfl, hb, hp⟩
         obtain ⟨A2, c2, hc2, hq2⟩ := hp.ex
         have HB2 := sd hb
         have HPr2 := sd hp
         have hs1 : wr.heap.size < w'.heap.size := Nat.lt_of_lt_of_le (by simp) hb.1
         have hg2 := lt_of_cell hc2
         have HBk := sd (hb.blk HB1.out (by omega) (by simp))
         have HR2 := sd (Kd.R_keep (Kd.R_mono (Kd.R_bound HR1.out) (fun k hk => hk.2.1)) hb.keep (fun k hk => by have : w.heap.size + 1 ≤ k := hk; omega))
         clear hb hp hq2
         go_wp2_with fail
         generalize hX : w'.alloc (Obj.cells #[Value.int IntKind.i64 1, Value.string x.f1, Value.int IntKind.i64 x.f2] 91) = wx
         have hPx : Par bd wx g l' := by rw [← hX]; exact HPr2.out.below (below_alloc (Below.refl _ _) _)
         have hcx : wx.cell? ⟨w'.heap.size, 1, none⟩ = some (.string x.f1) := by rw [← hX]; simp [go_sem]
         have hBx : wx.heap[w.heap.size]? = some (.cells #[.int .i64 0, .bool false, .slice va cs.length vc] 24 (0, 0)) := by rw [← hX]; exact blk_alloc HBk.out _
         have hKx : KB w wx g := by rw [← hX]; exact kb_alloc (HK1.out.trans HB2.out) _
         have hRx : Kd.R k53 53 wx (w.heap.size + 1) (fun k => w.heap.size + 1 ≤ k) (.slice va cs.length vc) cs := by rw [← hX]; exact Kd.R_alloc HR2.out (o := _)
         have hgw : g ≠ w'.heap.size := by omega
         have hws : w'.heap.size < wx.heap.size := by rw [← hX]; simp
         have HPx := sd hPx
         have HBx := sd hBx
         have HKx := sd hKx
         have HRx := sd hRx
         clear hX hPx hBx hKx hRx HPr2 HBk HB2 HR2 HR1 HB1 HK1 HPr1 HN hc2
         generalize hbx : w'.heap.size = bx at hcx hgw hws ⊢
         have hPy : Par bd wx.drew g l' := HPx.out.below (below_drew (Below.refl _ _))
         have hBy : wx.drew.heap[w.heap.size]? = _ := HBx.out
         have hKy : KB w wx.drew g := kb_drew HKx.out
         have hRy : Kd.R k53 53 wx.drew _ _ (.slice va cs.length vc) cs := HRx.out
         refine start_ (n := 9) (S := fun w' => w'.cell? ⟨bx, 1, none⟩ = some (.string x.f1)) (ds := [6, 8]) #[false, false, false, false, false, false, false, false, false] (by kernel_rfl) rfl rfl hcx (fun hHeld => ?_)
         generalize wx.drew = wy at hHeld hPy hBy hKy hRy ⊢
         refine pB 0 30 ?_
         refine tB 1 31 hHeld ?_
         refine pB 2 32 ?_
         refine pB 3 33 ?_
         refine pB 5 35 ?_
         refine one_ (i := 4) (N := some 34) #[true, true, true, true, true, true, false, false, false] rfl rfl (by kernel_rfl) (by decide) (fun K hK => ?_)
         refine goesP_ Tryd.func52 (by kernel_rfl) rfl #[.pointer (some ⟨g, 0, none⟩)] (by rfl) rfl rfl zq17 ?_
         refine (HNum.out _ hPy).mono ?_
         rintro e W2 ⟨hk2, he, hp2⟩
         subst he
         left
         refine ⟨_, rfl, ?_⟩
         have hc2 : W2.cell? ⟨bx, 1, none⟩ = some (.string x.f1) := keep_cell hk2.keep hHeld (fun h => hgw h.symm)
         have hB2 := hk2.blk hBy (by omega) (by simp)
         have hK2 := hKy.trans hk2
         have hR2 := Kd.R_keep hRy hk2.keep (fun k hk => by omega)
         have hsz2 : wy.heap.size ≤ W2.heap.size := hk2.1
         refine hK.out _ _ hc2 (fun hHeld => ?_)
         clear hK K
         refine nA 34 ?_
         have hs1 : W2.cell? ⟨w.heap.size, 1, none⟩ = some (.bool false) := (blk_cell hB2 1).trans rfl
         have hf1 := blk_frozen hB2 1
         refine last_ (i := 6) (N := none) #[true, true, true, true, true, true, true, false, false] rfl rfl (by kernel_rfl) (by decide) (fun K hK => ?_)
         refine skip_ (w1 := ?_) (by rfl) rfl ?_ ?_
         rotate_left
         ·go_simp
          rfl
         refine hK.out _ _ ?_
         clear hK K
         have hB3 := blk_put hB2 1 (.bool (x.f1.toList == [101, 111, 109])) rfl
         rw [n3] at hB3
         have hR3 := Kd.R_far hR2 (p := ⟨w.heap.size, 1, none⟩) (fun k hk => by dsimp only; omega) (.bool false)
         have hK3 := kb_far hK2 (p := ⟨w.heap.size, 1, none⟩) (Nat.le_refl _) (.bool false)
         generalize W2.setCell ⟨w.heap.size, 1, none⟩ (.bool false) = W3 at hB3 hR3 hK3 ⊢
         refine pB 7 36 ?_
         have hs0 : W3.cell? ⟨w.heap.size, 0, none⟩ = some (.int .i64 0) := (blk_cell hB3 0).trans rfl
         have hf0 := blk_frozen hB3 0
         refine last_ (i := 8) (N := none) #[true, true, true, true, true, true, true, true, true] rfl rfl (by kernel_rfl) (by decide) (fun K hK => ?_)
         refine skip_ (w1 := ?_) (by rfl) rfl ?_ ?_
         rotate_left
         ·go_simp
          rfl
         refine hK.out _ _ ?_
         clear hK K
         have hB4 := blk_put hB3 0 (.int .i64 p.1) rfl
         have hR4 := Kd.R_far hR3 (p := ⟨w.heap.size, 0, none⟩) (fun k hk => by dsimp only; omega) (.int .i64 p.1)
         have hK4 := kb_far hK3 (p := ⟨w.heap.size, 0, none⟩) (Nat.le_refl _) (.int .i64 p.1)
         generalize W3.setCell ⟨w.heap.size, 0, none⟩ (.int .i64 p.1) = W4 at hB4 hR4 hK4 ⊢
         refine done_ (by kernel_rfl) ?_
         have k0 : W4.cell? ⟨w.heap.size, 0, none⟩ = some (.int .i64 p.1) := (blk_cell hB4 0).trans rfl
         have k1 : W4.cell? ⟨w.heap.size, 1, none⟩ = some (.bool false) := (blk_cell hB4 1).trans rfl
         have k2 : W4.cell? ⟨w.heap.size, 2, none⟩ = some (.slice va cs.length vc) := (blk_cell hB4 2).trans rfl
         have f0 := blk_frozen hB4 0
         have f1 := blk_frozen hB4 1
         have f2 := blk_frozen hB4 2
         clear HPx HBx HKx HRx hcx hPy hBy hKy hRy hHeld hB2 hK2 hR2 hB3 hR3 hK3
         go_wp2_with fail
         have hB5 := blk_put hB4 0 (.int .i64 p.1) rfl
         have hB6 := blk_put hB5 1 (.bool false) rfl
         have hB7 := blk_put hB6 2 (.slice va cs.length vc) rfl
         have hR7 := Kd.R_far (Kd.R_far (Kd.R_far hR4 (p := ⟨w.heap.size, 0, none⟩) (fun k hk => by dsimp only; omega) (.int .i64 p.1)) (p := ⟨w.heap.size, 1, none⟩) (fun k hk => by dsimp only; omega) (.bool false)) (p := ⟨w.heap.size, 2, none⟩) (fun k hk => by dsimp only; omega) (.slice va cs.length vc)
         have hK7 := kb_far (kb_far (kb_far hK4 (p := ⟨w.heap.size, 0, none⟩) (Nat.le_refl _) (.int .i64 p.1)) (p := ⟨w.heap.size, 1, none⟩) (Nat.le_refl _) (.bool false)) (p := ⟨w.heap.size, 2, none⟩) (Nat.le_refl _) (.slice va cs.length vc)
         generalize ((W4.setCell ⟨w.heap.size, 0, none⟩ (.int .i64 p.1)).setCell ⟨w.heap.size, 1, none⟩ (.bool false)).setCell ⟨w.heap.size, 2, none⟩ (.slice va cs.length vc) = W7 at hB7 hR7 hK7 ⊢
         clear k0 k1 k2
         have k0 : W7.cell? ⟨w.heap.size, 0, none⟩ = some (.int .i64 p.1) := (blk_cell hB7 0).trans rfl
         have k1 : W7.cell? ⟨w.heap.size, 1, none⟩ = some (.bool false) := (blk_cell hB7 1).trans rfl
         have k2 : W7.cell? ⟨w.heap.size, 2, none⟩ = some (.slice va cs.length vc) := (blk_cell hB7 2).trans rfl
         have hfin := HPs.out W7 hK7 (Kd.R_mono (Kd.R_lower hR7 (by omega)) (fun _ _ => trivial))
         rw [show (x.f1.toList == eomL) = false from n3] at hfin
         exact bodyPost_ret (v := .agg #[.int .i64 p.1, .bool false, .slice va cs.length vc]) (by simp [results, Tryd.results37, go_sem, k0, k1, k2]) rfl hfin
        ·
         go_wp2_with fail
         refine (HN.out).mono ?_
         rintro e w' ⟨rfl, hb, hp⟩
         obtain ⟨A2, c2, hc2, hq2⟩ := hp.ex
         have HB2 := sd hb
         have HPr2 := sd hp
         have hs1 : wr.heap.size < w'.heap.size := Nat.lt_of_lt_of_le (by simp) hb.1
         have hg2 := lt_of_cell hc2
         have HBk := sd (hb.blk HB1.out (by omega) (by simp))
         have HR2 := sd (Kd.R_keep (Kd.R_mono (Kd.R_bound HR1.out) (fun k hk => hk.2.1)) hb.keep (fun k hk => by have : w.heap.size + 1 ≤ k := hk; omega))
         clear hb hp hq2
         go_wp2_with fail
         generalize hX : w'.alloc (Obj.cells #[Value.int IntKind.i64 1, Value.string x.f1, Value.int IntKind.i64 x.f2] 91) = wx
         have hPx : Par bd wx g l' := by rw [← hX]; exact HPr2.out.below (below_alloc (Below.refl _ _) _)
         have hcx : wx.cell? ⟨w'.heap.size, 1, none⟩ = some (.string x.f1) := by rw [← hX]; simp [go_sem]
         have hBx : wx.heap[w.heap.size]? = some (.cells #[.int .i64 0, .bool false, .slice va cs.length vc] 24 (0, 0)) := by rw [← hX]; exact blk_alloc HBk.out _
         have hKx : KB w wx g := by rw [← hX]; exact kb_alloc (HK1.out.trans HB2.out) _
         have hRx : Kd.R k53 53 wx (w.heap.size + 1) (fun k => w.heap.size + 1 ≤ k) (.slice va cs.length vc) cs := by rw [← hX]; exact Kd.R_alloc HR2.out (o := _)
         have hgw : g ≠ w'.heap.size := by omega
         have hws : w'.heap.size < wx.heap.size := by rw [← hX]; simp
         have HPx := sd hPx
         have HBx := sd hBx
         have HKx := sd hKx
         have HRx := sd hRx
         clear hX hPx hBx hKx hRx HPr2 HBk HB2 HR2 HR1 HB1 HK1 HPr1 HN hc2
         generalize hbx : w'.heap.size = bx at hcx hgw hws ⊢
         have hPy : Par bd wx.drew g l' := HPx.out.below (below_drew (Below.refl _ _))
         have hBy : wx.drew.heap[w.heap.size]? = _ := HBx.out
         have hKy : KB w wx.drew g := kb_drew HKx.out
         have hRy : Kd.R k53 53 wx.drew _ _ (.slice va cs.length vc) cs := HRx.out
         refine start_ (n := 9) (S := fun w' => w'.cell? ⟨bx, 1, none⟩ = some (.string x.f1)) (ds := [6, 8]) #[false, false, false, false, false, false, false, false, false] (by kernel_rfl) rfl rfl hcx (fun hHeld => ?_)
         generalize wx.drew = wy at hHeld hPy hBy hKy hRy ⊢
         refine pB 0 30 ?_
         refine tB 1 31 hHeld ?_
         refine pB 2 32 ?_
         refine pB 3 33 ?_
         refine pB 5 35 ?_
         refine one_ (i := 4) (N := some 34) #[true, true, true, true, true, true, false, false, false] rfl rfl (by kernel_rfl) (by decide) (fun K hK => ?_)
         refine goesP_ Tryd.func52 (by kernel_rfl) rfl #[.pointer (some ⟨g, 0, none⟩)] (by rfl) rfl rfl zq17 ?_
         refine (HNum.out _ hPy).mono ?_
         rintro e W2 ⟨hk2, he, hp2⟩
         subst he
         left
         refine ⟨_, rfl, ?_⟩
         have hc2 : W2.cell? ⟨bx, 1, none⟩ = some (.string x.f1) := keep_cell hk2.keep hHeld (fun h => hgw h.symm)
         have hB2 := hk2.blk hBy (by omega) (by simp)
         have hK2 := hKy.trans hk2
         have hR2 := Kd.R_keep hRy hk2.keep (fun k hk => by omega)
         have hsz2 : wy.heap.size ≤ W2.heap.size := hk2.1
         refine hK.out _ _ hc2 (fun hHeld => ?_)
         clear hK K
         refine nA 34 ?_
         have hs1 : W2.cell? ⟨w.heap.size, 1, none⟩ = some (.bool false) := (blk_cell hB2 1).trans rfl
         have hf1 := blk_frozen hB2 1
         refine last_ (i := 6) (N := none) #[true, true, true, true, true, true, true, false, false] rfl rfl (by kernel_rfl) (by decide) (fun K hK => ?_)
         refine skip_ (w1 := ?_) (by rfl) rfl ?_ ?_
         rotate_left
         ·go_simp
          rfl
         refine hK.out _ _ ?_
         clear hK K
         have hB3 := blk_put hB2 1 (.bool (x.f1.toList == [101, 111, 109])) rfl
         rw [n3] at hB3
         have hR3 := Kd.R_far hR2 (p := ⟨w.heap.size, 1, none⟩) (fun k hk => by dsimp only; omega) (.bool true)
         have hK3 := kb_far hK2 (p := ⟨w.heap.size, 1, none⟩) (Nat.le_refl _) (.bool true)
         generalize W2.setCell ⟨w.heap.size, 1, none⟩ (.bool true) = W3 at hB3 hR3 hK3 ⊢
         refine pB 7 36 ?_
         have hs0 : W3.cell? ⟨w.heap.size, 0, none⟩ = some (.int .i64 0) := (blk_cell hB3 0).trans rfl
         have hf0 := blk_frozen hB3 0
         refine last_ (i := 8) (N := none) #[true, true, true, true, true, true, true, true, true] rfl rfl (by kernel_rfl) (by decide) (fun K hK => ?_)
         refine skip_ (w1 := ?_) (by rfl) rfl ?_ ?_
         rotate_left
         ·go_simp
          rfl
         refine hK.out _ _ ?_
         clear hK K
         have hB4 := blk_put hB3 0 (.int .i64 p.1) rfl
         have hR4 := Kd.R_far hR3 (p := ⟨w.heap.size, 0, none⟩) (fun k hk => by dsimp only; omega) (.int .i64 p.1)
         have hK4 := kb_far hK3 (p := ⟨w.heap.size, 0, none⟩) (Nat.le_refl _) (.int .i64 p.1)
         generalize W3.setCell ⟨w.heap.size, 0, none⟩ (.int .i64 p.1) = W4 at hB4 hR4 hK4 ⊢
         refine done_ (by kernel_rfl) ?_
         have k0 : W4.cell? ⟨w.heap.size, 0, none⟩ = some (.int .i64 p.1) := (blk_cell hB4 0).trans rfl
         have k1 : W4.cell? ⟨w.heap.size, 1, none⟩ = some (.bool true) := (blk_cell hB4 1).trans rfl
         have k2 : W4.cell? ⟨w.heap.size, 2, none⟩ = some (.slice va cs.length vc) := (blk_cell hB4 2).trans rfl
         have f0 := blk_frozen hB4 0
         have f1 := blk_frozen hB4 1
         have f2 := blk_frozen hB4 2
         clear HPx HBx HKx HRx hcx hPy hBy hKy hRy hHeld hB2 hK2 hR2 hB3 hR3 hK3
         go_wp2_with fail
         have hB5 := blk_put hB4 0 (.int .i64 p.1) rfl
         have hB6 := blk_put hB5 1 (.bool true) rfl
         have hB7 := blk_put hB6 2 (.slice va cs.length vc) rfl
         have hR7 := Kd.R_far (Kd.R_far (Kd.R_far hR4 (p := ⟨w.heap.size, 0, none⟩) (fun k hk => by dsimp only; omega) (.int .i64 p.1)) (p := ⟨w.heap.size, 1, none⟩) (fun k hk => by dsimp only; omega) (.bool true)) (p := ⟨w.heap.size, 2, none⟩) (fun k hk => by dsimp only; omega) (.slice va cs.length vc)
         have hK7 := kb_far (kb_far (kb_far hK4 (p := ⟨w.heap.size, 0, none⟩) (Nat.le_refl _) (.int .i64 p.1)) (p := ⟨w.heap.size, 1, none⟩) (Nat.le_refl _) (.bool true)) (p := ⟨w.heap.size, 2, none⟩) (Nat.le_refl _) (.slice va cs.length vc)
         generalize ((W4.setCell ⟨w.heap.size, 0, none⟩ (.int .i64 p.1)).setCell ⟨w.heap.size, 1, none⟩ (.bool true)).setCell ⟨w.heap.size, 2, none⟩ (.slice va cs.length vc) = W7 at hB7 hR7 hK7 ⊢
         clear k0 k1 k2
         have k0 : W7.cell? ⟨w.heap.size, 0, none⟩ = some (.int .i64 p.1) := (blk_cell hB7 0).trans rfl
         have k1 : W7.cell? ⟨w.heap.size, 1, none⟩ = some (.bool true) := (blk_cell hB7 1).trans rfl
         have k2 : W7.cell? ⟨w.heap.size, 2, none⟩ = some (.slice va cs.length vc) := (blk_cell hB7 2).trans rfl
         have hfin := HPs.out W7 hK7 (Kd.R_mono (Kd.R_lower hR7 (by omega)) (fun _ _ => trivial))
         rw [show (x.f1.toList == eomL) = true from n3] at hfin
         exact bodyPost_ret (v := .agg #[.int .i64 p.1, .bool true, .slice va cs.length vc]) (by simp [results, Tryd.results37, go_sem, k0, k1, k2]) rfl hfin
      rw [if_neg hl] at H
      have hl1 : ((l'.length : Int) == 1) = false := beq_eq_false_iff_ne.mpr (by omega)
      have hl2 : ((l'.length : Int) != 1) = true := bne_iff_ne.mpr (by omega)
      clear hl
      obtain rfl := Option.some.inj H
      have HPan : Aside0 (∀ W, KB w W g → Post badEnd W) := ⟨fun W hW => by rw [← HP.out]; exact ⟨hW, rfl⟩⟩
      clear HP
      rcases hn with ⟨n1, n2, n3, n4⟩ | ⟨n1, n2, n3, n4⟩
      all_goals
       go_wp2_with fail
       refine (HN.out).mono ?_
       rintro e w' ⟨rfl, hb, hp⟩
       obtain ⟨A2, c2, hc2, hq2⟩ := hp.ex
       have HB2 := sd hb
       have HPr2 := sd hp
       have hs1 : wr.heap.size < w'.heap.size := Nat.lt_of_lt_of_le (by simp) hb.1
       have hg2 := lt_of_cell hc2
       clear hb hp hq2
       go_wp2_with fail
       simp only [bodyPost]
       exact ⟨trivial, HPan.out _ (kb_alloc (HK1.out.trans HB2.out) _)⟩
     rw [if_neg hs] at H
     have hn1 : (x.f1.toList == [110, 101, 116]) = false := beq_eq_false_iff_ne.mpr (fun h => hs (.inl h))
     have hn2 : (x.f1.toList == [101, 111, 109]) = false := beq_eq_false_iff_ne.mpr (fun h => hs (.inr h))
     have hn3 : (x.f1.toList != [110, 101, 116]) = true := bne_iff_ne.mpr (fun h => hs (.inl h))
     have hn4 : (x.f1.toList != [101, 111, 109]) = true := bne_iff_ne.mpr (fun h => hs (.inr h))
     clear hs
     obtain rfl := Option.some.inj H
     have HPan : Aside0 (∀ W, KB w W g → Post badEnd W) := ⟨fun W hW => by rw [← HP.out]; exact ⟨hW, rfl⟩⟩
     clear HP
     go_wp2_with fail
     refine (HN.out).mono ?_
     rintro e w' ⟨rfl, hb, hp⟩
     have HB2 := sd hb
     have HPr2 := sd hp
     have hs1 : wr.heap.size < w'.heap.size := Nat.lt_of_lt_of_le (by simp) hb.1
     clear hb hp
     go_wp2_with fail
     simp only [bodyPost]
     exact ⟨trivial, HPan.out _ (kb_alloc (HK1.out.trans HB2.out) _)⟩
    rw [if_neg hk1] at H
    by_cases hk2 : x.f0 = 2
    ·rw [if_pos hk2] at H
     have HN := sd (next_some g x l' [2, 1] _ 2 _ HPr1.out HRR.out (by rw [hk2]; simp))
     rw [show [(2 : Int), 1].length = 2 from rfl] at HN
     replace H := Option.bind_eq_some_iff.mp H
     obtain ⟨⟨fn, fd, fe⟩, hf, H⟩ := H
     dsimp only at H
     have HF := sd (fun W => frac_Parse.calls k1 x.f1 fn fd fe W hf)
     clear hf
     by_cases hfe : fe = 0
     ·rw [if_pos hfe] at H
      subst hfe
      replace H := Option.bind_eq_some_iff.mp H
      obtain ⟨rn, hrn, H⟩ := H
      have HNum := sd (fun W (hW : Par bd W g l') => number_calls (bd := bd) g l' rn W hW hrn)
      clear hrn
      cases rn with
      | none =>
       dsimp only at H
       obtain rfl := Option.some.inj H
       have HPan : Aside0 (∀ W, KB w W g → Post badEnd W) := ⟨fun W hW => by rw [← HP.out]; exact ⟨hW, rfl⟩⟩
       clear HP
       go_wp2_with fail
       refine (HN.out).mono ?_
       rintro e w' ⟨rfl, hb, hp⟩
       have HB2 := sd hb
       have HPr2 := sd hp
       have hs1 : wr.heap.size < w'.heap.size := Nat.lt_of_lt_of_le (by simp) hb.1
       have hg2 : g < w'.heap.size := by have := HK1.out.1; omega
       have HBk := sd (hb.blk HB1.out (by omega) (by simp))
       have HR2 := sd (Kd.R_keep (Kd.R_mono (Kd.R_bound HR1.out) (fun k hk => hk.2.1)) hb.keep (fun k hk => by have : w.heap.size + 1 ≤ k := hk; omega))
       clear hb hp
       go_wp2_with fail
       generalize hX : w'.alloc (Obj.cells #[Value.int IntKind.i64 2, Value.string x.f1, Value.int IntKind.i64 x.f2] 91) = wx
       have hPx : Par bd wx g l' := by rw [← hX]; exact HPr2.out.below (below_alloc (Below.refl _ _) _)
       have hBx : wx.heap[w.heap.size]? = some (.cells #[.int .i64 0, .bool false, .slice va cs.length vc] 24 (0, 0)) := by rw [← hX]; exact blk_alloc HBk.out _
       have hKx : KB w wx g := by rw [← hX]; exact kb_alloc (HK1.out.trans HB2.out) _
       have hRx : Kd.R k53 53 wx (w.heap.size + 1) (fun k => w.heap.size + 1 ≤ k) (.slice va cs.length vc) cs := by rw [← hX]; exact Kd.R_alloc HR2.out (o := _)
       have hwz : w.heap.size < wx.heap.size := by rw [← hX]; simp; omega
       have hgz : g < wx.heap.size := by rw [← hX]; simp; omega
       clear hX HPr2 HBk HB2 HR2 HR1 HB1 HK1 HPr1 HN
       refine (HF.out _).mono ?_
       rintro e w2 ⟨rfl, hb⟩
       have HPx := sd (hPx.below hb)
       have HBx := sd (blk_below hBx hb)
       have HKx := sd (hKx.trans (KB.of_below hb g))
       have HRx := sd (Kd.R_below hRx hb)
       have hwz2 : w.heap.size < w2.heap.size := by have := hb.size; omega
       have hgz2 : g < w2.heap.size := by have := hb.size; omega
       clear hb hPx hBx hKx hRx
       go_wp2_with fail
       have hPy : Par bd (w2.alloc (Obj.cells #[Value.int IntKind.i64 fn, Value.int IntKind.i64 fd] 38)).drew g l' := (HPx.out.below (below_alloc (Below.refl _ _) _)).below (below_drew (Below.refl _ _))
       have hBy : (w2.alloc (Obj.cells #[Value.int IntKind.i64 fn, Value.int IntKind.i64 fd] 38)).drew.heap[w.heap.size]? = _ := blk_alloc HBx.out _
       have hTy : (w2.alloc (Obj.cells #[Value.int IntKind.i64 fn, Value.int IntKind.i64 fd] 38)).drew.heap[w2.heap.size]? = _ := blk_new _ _
       have hKy : KB w (w2.alloc (Obj.cells #[Value.int IntKind.i64 fn, Value.int IntKind.i64 fd] 38)).drew g := kb_drew (kb_alloc HKx.out _)
       have hRy : Kd.R k53 53 (w2.alloc (Obj.cells #[Value.int IntKind.i64 fn, Value.int IntKind.i64 fd] 38)).drew _ _ (.slice va cs.length vc) cs := Kd.R_alloc HRx.out (o := _)
       have hsy : w2.heap.size < (w2.alloc (Obj.cells #[Value.int IntKind.i64 fn, Value.int IntKind.i64 fd] 38)).drew.heap.size := by show _ < (w2.alloc (Obj.cells #[Value.int IntKind.i64 fn, Value.int IntKind.i64 fd] 38)).heap.size; simp
       clear HPx HBx HKx HRx
       refine start_ (n := 10) (S := fun w' => w'.cell? ⟨w.heap.size, 2, none⟩ = some (.slice va cs.length vc) ∧ w'.cell? ⟨w2.heap.size, 0, none⟩ = some (.int .i64 fn) ∧ w'.cell? ⟨w2.heap.size, 1, none⟩ = some (.int .i64 fd)) (ds := [7, 9]) #[false, false, false, false, false, false, false, false, false, false] (by kernel_rfl) rfl rfl ⟨(blk_cell hBy 2).trans rfl, (blk_cell hTy 0).trans rfl, (blk_cell hTy 1).trans rfl⟩ (fun hHeld => ?_)
       generalize (w2.alloc (Obj.cells #[Value.int IntKind.i64 fn, Value.int IntKind.i64 fd] 38)).drew = wy at hHeld hPy hBy hKy hRy hTy hsy ⊢
       refine pB 0 48 ?_
       refine tB 1 49 hHeld ?_
       refine pB 2 50 ?_
       refine tB 4 52 hHeld ?_
       refine one_ (i := 3) (N := some 51) #[true, true, true, true, true, false, false, false, false, false] rfl rfl (by kernel_rfl) (by decide) (fun K hK => ?_)
       refine goesP_ Tryd.func52 (by kernel_rfl) rfl #[.pointer (some ⟨g, 0, none⟩)] (by rfl) rfl rfl zq17 ?_
       refine (HNum.out _ hPy).mono ?_
       rintro e W2 ⟨hk2, he⟩
       dsimp only at he
       subst he
       right
       refine ⟨_, rfl, ?_⟩
       simp [Exit.then, Exit.inBlock, bodyPost]
       exact HPan.out _ (hKy.trans hk2)
      | some p =>
       dsimp only at H
       by_cases hcl : cs.length < 5864062014805
       case neg => rw [if_neg hcl] at H; cases H
       rw [if_pos hcl] at H
       have HA := sd H
       clear H
       go_wp2_with fail
       refine (HN.out).mono ?_
       rintro e w' ⟨rfl, hb, hp⟩
       have HB2 := sd hb
       have HPr2 := sd hp
       have hs1 : wr.heap.size < w'.heap.size := Nat.lt_of_lt_of_le (by simp) hb.1
       have hg2 : g < w'.heap.size := by have := HK1.out.1; omega
       have HBk := sd (hb.blk HB1.out (by omega) (by simp))
       have HR2 := sd (Kd.R_keep (Kd.R_mono (Kd.R_bound HR1.out) (fun k hk => hk.2.1)) hb.keep (fun k hk => by have : w.heap.size + 1 ≤ k := hk; omega))
       clear hb hp
       go_wp2_with fail
       generalize hX : w'.alloc (Obj.cells #[Value.int IntKind.i64 2, Value.string x.f1, Value.int IntKind.i64 x.f2] 91) = wx
       have hPx : Par bd wx g l' := by rw [← hX]; exact HPr2.out.below (below_alloc (Below.refl _ _) _)
       have hBx : wx.heap[w.heap.size]? = some (.cells #[.int .i64 0, .bool false, .slice va cs.length vc] 24 (0, 0)) := by rw [← hX]; exact blk_alloc HBk.out _
       have hKx : KB w wx g := by rw [← hX]; exact kb_alloc (HK1.out.trans HB2.out) _
       have hRx : Kd.R k53 53 wx (w.heap.size + 1) (fun k => w.heap.size + 1 ≤ k) (.slice va cs.length vc) cs := by rw [← hX]; exact Kd.R_alloc HR2.out (o := _)
       have hwz : w.heap.size < wx.heap.size := by rw [← hX]; simp; omega
       have hgz : g < wx.heap.size := by rw [← hX]; simp; omega
       clear hX HPr2 HBk HB2 HR2 HR1 HB1 HK1 HPr1 HN
       refine (HF.out _).mono ?_
       rintro e w2 ⟨rfl, hb⟩
       have HPx := sd (hPx.below hb)
       have HBx := sd (blk_below hBx hb)
       have HKx := sd (hKx.trans (KB.of_below hb g))
       have HRx := sd (Kd.R_below hRx hb)
       have hwz2 : w.heap.size < w2.heap.size := by have := hb.size; omega
       have hgz2 : g < w2.heap.size := by have := hb.size; omega
       clear hb hPx hBx hKx hRx
       go_wp2_with fail
       have hPy : Par bd (w2.alloc (Obj.cells #[Value.int IntKind.i64 fn, Value.int IntKind.i64 fd] 38)).drew g l' := (HPx.out.below (below_alloc (Below.refl _ _) _)).below (below_drew (Below.refl _ _))
       have hBy : (w2.alloc (Obj.cells #[Value.int IntKind.i64 fn, Value.int IntKind.i64 fd] 38)).drew.heap[w.heap.size]? = _ := blk_alloc HBx.out _
       have hTy : (w2.alloc (Obj.cells #[Value.int IntKind.i64 fn, Value.int IntKind.i64 fd] 38)).drew.heap[w2.heap.size]? = _ := blk_new _ _
       have hKy : KB w (w2.alloc (Obj.cells #[Value.int IntKind.i64 fn, Value.int IntKind.i64 fd] 38)).drew g := kb_drew (kb_alloc HKx.out _)
       have hRy : Kd.R k53 53 (w2.alloc (Obj.cells #[Value.int IntKind.i64 fn, Value.int IntKind.i64 fd] 38)).drew _ _ (.slice va cs.length vc) cs := Kd.R_alloc HRx.out (o := _)
       have hsy : w2.heap.size < (w2.alloc (Obj.cells #[Value.int IntKind.i64 fn, Value.int IntKind.i64 fd] 38)).drew.heap.size := by show _ < (w2.alloc (Obj.cells #[Value.int IntKind.i64 fn, Value.int IntKind.i64 fd] 38)).heap.size; simp
       clear HPx HBx HKx HRx
       refine start_ (n := 10) (S := fun w' => w'.cell? ⟨w.heap.size, 2, none⟩ = some (.slice va cs.length vc) ∧ w'.cell? ⟨w2.heap.size, 0, none⟩ = some (.int .i64 fn) ∧ w'.cell? ⟨w2.heap.size, 1, none⟩ = some (.int .i64 fd)) (ds := [7, 9]) #[false, false, false, false, false, false, false, false, false, false] (by kernel_rfl) rfl rfl ⟨(blk_cell hBy 2).trans rfl, (blk_cell hTy 0).trans rfl, (blk_cell hTy 1).trans rfl⟩ (fun hHeld => ?_)
       generalize (w2.alloc (Obj.cells #[Value.int IntKind.i64 fn, Value.int IntKind.i64 fd] 38)).drew = wy at hHeld hPy hBy hKy hRy hTy hsy ⊢
       refine pB 0 48 ?_
       refine tB 1 49 hHeld ?_
       refine pB 2 50 ?_
       refine tB 4 52 hHeld ?_
       refine one_ (i := 3) (N := some 51) #[true, true, true, true, true, false, false, false, false, false] rfl rfl (by kernel_rfl) (by decide) (fun K hK => ?_)
       refine goesP_ Tryd.func52 (by kernel_rfl) rfl #[.pointer (some ⟨g, 0, none⟩)] (by rfl) rfl rfl zq17 ?_
       refine (HNum.out _ hPy).mono ?_
       rintro e W2 ⟨hk3, he, hp2⟩
       subst he
       left
       refine ⟨_, rfl, ?_⟩
       have hB2 := hk3.blk hBy (by omega) (by simp)
       have hT2 := hk3.blk hTy (by omega) (by simp)
       have hK2 := hKy.trans hk3
       have hR2 := Kd.R_keep hRy hk3.keep (fun k hk => by omega)
       have hsz2 : w2.heap.size < W2.heap.size := Nat.lt_of_lt_of_le hsy hk3.1
       refine hK.out _ _ ⟨(blk_cell hB2 2).trans rfl, (blk_cell hT2 0).trans rfl, (blk_cell hT2 1).trans rfl⟩ (fun hHeld => ?_)
       clear hK K
       refine nA 51 ?_
       refine pB 5 53 ?_
       refine one_ (i := 6) (N := some 54) #[true, true, true, true, true, true, true, false, false, false] rfl rfl (by kernel_rfl) (by decide) (fun K hK => ?_)
       refine value_ (v := .slice (some ⟨W2.heap.size, 0, none⟩) 1 1) (w1 := W2.alloc (.cells #[.int .i64 p.1, .int .i64 fn, .int .i64 fd] 53)) (by rfl) rfl (by go_simp) ?_
       have hB3 := blk_alloc hB2 (.cells #[.int .i64 p.1, .int .i64 fn, .int .i64 fd] 53)
       have hT3 := blk_alloc hT2 (.cells #[.int .i64 p.1, .int .i64 fn, .int .i64 fd] 53)
       refine hK.out _ _ ⟨(blk_cell hB3 2).trans rfl, (blk_cell hT3 0).trans rfl, (blk_cell hT3 1).trans rfl⟩ (fun hHeld => ?_)
       clear hK K
       refine nA 54 ?_
       refine last_ (i := 7) (N := some 55) #[true, true, true, true, true, true, true, true, false, false] rfl rfl (by kernel_rfl) (by decide) (fun K hK => ?_)
       refine Kd.R_append_step (w0 := W2) k53 (w.heap.size + 1) (by rfl) (.tmp 49) (.tmp 54) 22 53 _ 24 rfl Tryd.underlying22 info53 rfl (by decide) (by decide) (.slice va cs.length vc) cs ⟨p.1, ⟨fn, fd⟩⟩ [.int .i64 p.1, .int .i64 fn, .int .i64 fd] (fun k => w.heap.size + 1 ≤ k) (fun _ => False) rfl rfl (k53_mkM _ _ _ _) (fun k hk => hk.elim) (fun k hk => by omega) hR2 (Below.refl _ _) (by omega) (by omega) ?_
       intro v1 w1 hR4 hb4 hg4 hat4
       have hne4 := Kd.R_ne hR2 hB2 (by decide)
       have hneT := Kd.R_ne hR2 hT2 (by decide)
       have hB4 := blk_grown hB2 hg4 hne4
       obtain ⟨inner, ho⟩ := Kd.R_own hR2
       have hP4 := hp2.grown hg4 (fun k hk => by have := own_base ho k hk; omega)
       have hK4 := KB.of_grown hg4 g hK2 (by rcases own_base' ho with h | ⟨b, h, hb⟩; exact .inl h; exact .inr ⟨b, h, by omega⟩)
       obtain ⟨va4, vc4, rfl⟩ := Kd.R_slice hR4
       rw [show (cs ++ [(⟨p.1, ⟨fn, fd⟩⟩ : S53)]).length = cs.length + 1 by simp] at hR4 ⊢
       refine hK.out _ _ ?_
       clear hK K
       refine nA 55 ?_
       refine pB 8 56 ?_
       have hs4 : w1.cell? ⟨w.heap.size, 2, none⟩ = some (.slice va cs.length vc) := (blk_cell hB4 2).trans rfl
       have hf4 := blk_frozen hB4 2
       refine last_ (i := 9) (N := none) #[true, true, true, true, true, true, true, true, true, true] rfl rfl (by kernel_rfl) (by decide) (fun K hK => ?_)
       refine skip_ (w1 := ?_) (by rfl) rfl ?_ ?_
       rotate_left
       ·go_simp
        rfl
       refine hK.out _ _ ?_
       clear hK K
       have hB5 := blk_put (cs' := #[.int .i64 0, .bool false, .slice va4 (cs.length + 1) vc4]) hB4 2 (.slice va4 (cs.length + 1) vc4) rfl
       have hR5 := Kd.R_far hR4 (p := ⟨w.heap.size, 2, none⟩) (fun k hk => by dsimp only; omega) (.slice va4 (cs.length + 1) vc4)
       have hK5 := kb_far hK4 (p := ⟨w.heap.size, 2, none⟩) (Nat.le_refl _) (.slice va4 (cs.length + 1) vc4)
       have hP5 : Par bd (w1.setCell ⟨w.heap.size, 2, none⟩ (.slice va4 (cs.length + 1) vc4)) g p.2 := hP4.grown (row := some w.heap.size) ⟨rfl, rfl, rfl, by simp [World.setCell], fun i hi hr => Below.heap_setCell _ _ _ i (fun e => hr (by rw [e]))⟩ (fun k hk => by obtain rfl := Option.some.inj hk; omega)
       generalize w1.setCell ⟨w.heap.size, 2, none⟩ (.slice va4 (cs.length + 1) vc4) = w5 at hB5 hR5 hK5 hP5 ⊢
       have HP5 := sd hP5
       have HB5 := sd hB5
       have HK5 := sd hK5
       have HR5 := sd hR5
       clear hP5 hB5 hK5 hR5 hB4 hP4 hK4 hR4 hHeld hB2 hT2 hK2 hR2 hB3 hT3 hPy hBy hTy hKy hRy hb4 hg4 hat4 ho hs4 hf4 hk3 hp2 HPr HK HB HR HRR
       refine done_ (by kernel_rfl) ?_
       go_wp2_with fail
       go_roundg k1
       case measure => omega
       case rel => exact ⟨p.2, cs ++ [(⟨p.1, ⟨fn, fd⟩⟩ : S53)], _, HA, HP5, HK5, HB5, ⟨Kd.R_mono HR5.out (fun _ _ => trivial)⟩⟩
     rw [if_neg hfe] at H
     have hfe1 : (fe != 0) = true := bne_iff_ne.mpr hfe
     clear hfe
     obtain rfl := Option.some.inj H
     have HPan : Aside0 (∀ W, KB w W g → Post badEnd W) := ⟨fun W hW => by rw [← HP.out]; exact ⟨hW, rfl⟩⟩
     clear HP
     go_wp2_with fail
     refine (HN.out).mono ?_
     rintro e w' ⟨rfl, hb, hp⟩
     have HB2 := sd hb
     have HPr2 := sd hp
     have hs1 : wr.heap.size < w'.heap.size := Nat.lt_of_lt_of_le (by simp) hb.1
     have hg2 : g < w'.heap.size := by have := HK1.out.1; omega
     have HBk := sd (hb.blk HB1.out (by omega) (by simp))
     have HR2 := sd (Kd.R_keep (Kd.R_mono (Kd.R_bound HR1.out) (fun k hk => hk.2.1)) hb.keep (fun k hk => by have : w.heap.size + 1 ≤ k := hk; omega))
     clear hb hp
     go_wp2_with fail
     generalize hX : w'.alloc (Obj.cells #[Value.int IntKind.i64 2, Value.string x.f1, Value.int IntKind.i64 x.f2] 91) = wx
     have hPx : Par bd wx g l' := by rw [← hX]; exact HPr2.out.below (below_alloc (Below.refl _ _) _)
     have hBx : wx.heap[w.heap.size]? = some (.cells #[.int .i64 0, .bool false, .slice va cs.length vc] 24 (0, 0)) := by rw [← hX]; exact blk_alloc HBk.out _
     have hKx : KB w wx g := by rw [← hX]; exact kb_alloc (HK1.out.trans HB2.out) _
     have hRx : Kd.R k53 53 wx (w.heap.size + 1) (fun k => w.heap.size + 1 ≤ k) (.slice va cs.length vc) cs := by rw [← hX]; exact Kd.R_alloc HR2.out (o := _)
     have hwz : w.heap.size < wx.heap.size := by rw [← hX]; simp; omega
     have hgz : g < wx.heap.size := by rw [← hX]; simp; omega
     clear hX HPr2 HBk HB2 HR2 HR1 HB1 HK1 HPr1 HN
     refine (HF.out _).mono ?_
     rintro e w2 ⟨rfl, hb⟩
     have HPx := sd (hPx.below hb)
     have HBx := sd (blk_below hBx hb)
     have HKx := sd (hKx.trans (KB.of_below hb g))
     have HRx := sd (Kd.R_below hRx hb)
     have hwz2 : w.heap.size < w2.heap.size := by have := hb.size; omega
     have hgz2 : g < w2.heap.size := by have := hb.size; omega
     clear hb hPx hBx hKx hRx
     go_wp2_with fail
     simp only [bodyPost]
     exact ⟨trivial, HPan.out _ (kb_alloc HKx.out _)⟩
    rw [if_neg hk2] at H
    have HN := sd (next_other g x l' [2, 1] _ 2 _ HPr1.out HRR.out (by simp [hk1, hk2]))
    rw [show [(2 : Int), 1].length = 2 from rfl] at HN
    clear hk1 hk2
    obtain rfl := Option.some.inj H
    have HPan : Aside0 (∀ W, KB w W g → Post badEnd W) := ⟨fun W hW => by rw [← HP.out]; exact ⟨hW, rfl⟩⟩
    clear HP
    go_wp2_with fail
    refine (HN.out).mono ?_
    unfold badEnd
    rintro e w' ⟨rfl, hb⟩
    have HB := sd hb
    clear hb
    go_wp2_with fail
    simp only [bodyPost]
    exact ⟨trivial, HPan.out _ (HK1.out.trans (KB.of_below HB.out g))⟩
def caughtW (w : World) (gt ge : Nat) : World := ((((w.setCell ⟨gt, 0, none⟩ (.int .i64 0)).setCell ⟨gt, 1, none⟩ (.bool false)).setCell ⟨gt, 2, none⟩ (.slice none 0 0)).setCell ⟨ge, 0, none⟩ (.int .i64 5)).alloc (.cells #[] 66)
theorem catch_panicking (gt ge : Nat) (n e : Int) (b : Bool) (v : Value) (older : List PanicEntry) (w : World) (h0 : w.cell? ⟨gt, 0, none⟩ = some (.int .i64 n)) (h1 : w.cell? ⟨gt, 1, none⟩ = some (.bool b)) (h2 : w.cell? ⟨gt, 2, none⟩ = some v) 
  (h3 : w.cell? ⟨ge, 0, none⟩ = some (.int .i64 e)) (f0 : w.frozen? ⟨gt, 0, none⟩ = false) (f1 : w.frozen? ⟨gt, 1, none⟩ = false) (f2 : w.frozen? ⟨gt, 2, none⟩ = false) (f3 : w.frozen? ⟨ge, 0, none⟩ = false) (hne : ¬ gt = ge) :
  CallsD Tryd.prog 36 #[.pointer (some ⟨gt, 0, none⟩), .pointer (some ⟨ge, 0, none⟩)] (.panicking ({ v := .iface 66 (.agg #[]), recovered := false } :: older)) w fun e u' w' =>
   e = .returned (.tuple #[]) ∧ u' = .panicking ({ v := .iface 66 (.agg #[]), recovered := true } :: older) ∧ w' = caughtW w gt ge := by
 refine callsD_of_wpS Tryd.func36 rfl fun c₀ cs hu => ?_
 apply wpS_seq
 apply wpS_region
 simp [wpOpsS, go_sem, recoverD, hu, Tryd.ntmps36, Exit.thenS]
 refine wpS_of_wp ?_
 have hgt := lt_of_cell h0
 have hge := lt_of_cell h3
 have HQ : Aside0 (∀ (T : Array Value), bodyPostS Tryd.prog Tryd.f36 c₀ cs (fun e u' w' => e = .returned (.tuple #[]) ∧ u' = .panicking ({ v := .iface 66 (.agg #[]), recovered := true } :: older) ∧ w' = caughtW w gt ge) .normal { tmps := T, defers := [] } ({ c₀ with mode := .panicking ({ v := .iface 66 (.agg #[]), recovered := true } :: older) } :: cs) (caughtW w gt ge)) := ⟨fun T => by
  refine ⟨rfl, _, rfl, _, ?_, rfl, rfl, rfl⟩
  simp [results, Tryd.results36]⟩
 clear hu
 generalize hQ : (fun (e : Exit) (a : Act) (w' : World) => bodyPostS Tryd.prog Tryd.f36 c₀ cs _ e a _ w') = Q
 have HQ2 : Aside0 (∀ (T : Array Value), Q .normal { tmps := T, defers := [] } (caughtW w gt ge)) := ⟨fun T => by rw [← hQ]; exact HQ.out T⟩
 clear hQ HQ
 change Code.wp _ _ Q { tmps := #[.pointer (some ⟨gt, 0, none⟩), .pointer (some ⟨ge, 0, none⟩), .iface 66 (.agg #[]), undef, undef, .iface 66 (.agg #[]), undef, undef, undef, undef, undef, undef, undef, undef, undef, undef, undef], defers := [] } w
 have hta : ∀ W, (Instr.typeAssert (.iface 66 (.agg #[])) 20 66 true).run Tryd.prog W = .ok (.tuple #[.agg #[], .bool true]) W := fun _ => by kernel_rfl
 have hnot : ∀ (x : Bool) (w : World), (Op.unary .not (.bool x)).run Tryd.prog w = .ok (.bool (!x)) w := fun _ _ => rfl
 go_wp2_with fail
 exact HQ2.out _
theorem catch_idle (p q : Addr) (w : World) :
  CallsD Tryd.prog 36 #[.pointer (some p), .pointer (some q)] .returning w fun e u' w' => e = .returned (.tuple #[]) ∧ u' = .returning ∧ w' = w := by
 refine callsD_of_wpS Tryd.func36 rfl fun c₀ cs hu => ?_
 apply wpS_seq
 apply wpS_region
 simp [wpOpsS, go_sem, recoverD, hu, Tryd.ntmps36, Exit.thenS]
 refine wpS_of_wp ?_
 have HQ : Aside0 (∀ (T : Array Value), bodyPostS Tryd.prog Tryd.f36 c₀ cs (fun e u' w' => e = .returned (.tuple #[]) ∧ u' = .returning ∧ w' = w) .normal { tmps := T, defers := [] } (c₀ :: cs) w) := ⟨fun T => by
  refine ⟨rfl, .returning, ?_, _, ?_, rfl, rfl, rfl⟩
  ·cases c₀; simp_all
  ·simp [results, Tryd.results36]⟩
 clear hu
 generalize hQ : (fun (e : Exit) (a : Act) (w' : World) => bodyPostS Tryd.prog Tryd.f36 c₀ cs _ e a _ w') = Q
 have HQ2 : Aside0 (∀ (T : Array Value), Q .normal { tmps := T, defers := [] } w) := ⟨fun T => by rw [← hQ]; exact HQ.out T⟩
 clear hQ HQ
 change Code.wp _ _ Q { tmps := #[.pointer (some p), .pointer (some q), .nilIface, undef, undef, .nilIface, undef, undef, undef, undef, undef, undef, undef, undef, undef, undef, undef], defers := [] } w
 go_wp2_with fail
 exact HQ2.out _
theorem parse_door (Post : Ending → World → Prop) (T : Array Value) (W : World) (gt ge : Nat) (n e : Int) (b : Bool) (A : Option Addr) (m c : Nat) (t2 : T.getD 2 undef = .pointer (some ⟨gt, 0, none⟩)) (t3 : T.getD 3 undef = .pointer (some ⟨ge, 0, none⟩)) 
  (k0 : W.cell? ⟨gt, 0, none⟩ = some (.int .i64 n)) (k1 : W.cell? ⟨gt, 1, none⟩ = some (.bool b)) (k2 : W.cell? ⟨gt, 2, none⟩ = some (.slice A m c)) (k3 : W.cell? ⟨ge, 0, none⟩ = some (.int .i64 e))
  (hp : Post (.returned (.tuple #[.agg #[.int .i64 n, .bool b, .slice A m c], .int .i64 e])) W) : Leaves Tryd.prog Tryd.f18 T Post [] .returning W := by
 rw [Array.getD_eq_getD_getElem?] at t2 t3
 exact ⟨_, by simp [results, Tryd.results18, go_sem, t2, t3, k0, k1, k2, k3], hp⟩
theorem terms_Parse.t1 (k : Nat) (a0 : ByteArray) (l : List S91) (at_ e0 : Int) (w : World) (h : words_Cut.f k a0 = some (l, at_, e0)) (he : e0 ≠ 0) :
  Calls Tryd.prog 18 #[.string a0] w fun e w' => ∃ v2_ : Value, e = .returned (.tuple #[.agg #[.int .i64 0, .bool false, v2_], .int .i64 5]) ∧ Kd.R k53 53 w' w.heap.size (fun _ => True) v2_ [] ∧ Below w.heap.size w w' := by
 have HPost : ∀ W, Below w.heap.size w W → (fun (e : Ending) (w' : World) => ∃ v2_ : Value, e = .returned (.tuple #[.agg #[.int .i64 0, .bool false, v2_], .int .i64 5]) ∧ Kd.R k53 53 w' w.heap.size (fun _ => True) v2_ [] ∧ Below w.heap.size w w') (.returned (.tuple #[.agg #[.int .i64 0, .bool false, .slice none 0 0], .int .i64 5])) W := fun W hW => ⟨_, rfl, Kd.R_nil _ _ _ _ _, hW⟩
 generalize (fun (e : Ending) (w' : World) => ∃ v2_ : Value, e = .returned (.tuple #[.agg #[.int .i64 0, .bool false, v2_], .int .i64 5]) ∧ Kd.R k53 53 w' w.heap.size (fun _ => True) v2_ [] ∧ Below w.heap.size w w') = Post at HPost ⊢
 have HP := sd HPost
 clear HPost
 have hmf : ∀ (fn : Fn) (first cap : Array Value) (w : World), (Instr.makeFunc fn first cap).run Tryd.prog w = .ok (.func fn first cap) w := fun _ _ _ _ => rfl
 have HC := sd (fun W => words_Cut.calls k a0 l at_ e0 W h)
 have heb : (e0 != 0) = true := bne_iff_ne.mpr he
 clear h he
 go_enter_defers Tryd.func18, Tryd.ntmps18
 go_wp2_with fail
 refine (HC.out _).mono ?_
 rintro e W1 ⟨v0, rfl, hR, hb⟩
 have HR := sd hR
 obtain ⟨hcc, hff⟩ := bcell hb
 have hz1 : w.heap.size + 1 < W1.heap.size := by have := hb.size; simp at this; omega
 have HB := sd hb
 clear hR hb
 go_wp2_with fail
 have hT0 : W1.heap[w.heap.size]? = some (.cells #[.int .i64 0, .bool false, .slice none 0 0] 24 (0, 0)) := blk_below (blk_alloc (blk_new w _) _) HB.out
 have hE0 : W1.heap[w.heap.size + 1]? = some (.cells #[.int .i64 0] 26 (0, 0)) := blk_below zq18 HB.out
 have hT5 := blk_far (p := ⟨w.heap.size + 1, 0, none⟩) (blk_put (blk_put (blk_put (blk_far (p := ⟨w.heap.size + 1, 0, none⟩) hT0 (by simp) (.int .i64 e0)) 0 (.int .i64 0) rfl) 1 (.bool false) rfl) 2 (.slice none 0 0) rfl) (by simp) (.int .i64 5)
 have hE5 := blk_put (blk_far (p := ⟨w.heap.size, 2, none⟩) (blk_far (p := ⟨w.heap.size, 1, none⟩) (blk_far (p := ⟨w.heap.size, 0, none⟩) (blk_put hE0 0 (.int .i64 e0) rfl) (by simp) (.int .i64 0)) (by simp) (.bool false)) (by simp) (.slice none 0 0)) 0 (.int .i64 5) rfl
 refine parse_door Post _ _ w.heap.size (w.heap.size + 1) 0 5 false none 0 0 rfl rfl (blk_cell hT5 0) (blk_cell hT5 1) (blk_cell hT5 2) (blk_cell hE5 0) (HP.out _ ?_)
 have hB0 : Below w.heap.size w W1 := (below_alloc (below_alloc (Below.refl _ _) _) _).trans (HB.out.mono (by simp; omega))
 exact below_set (below_set (below_set (below_set (below_set hB0 (by omega)) (Nat.le_refl _)) (Nat.le_refl _)) (Nat.le_refl _)) (by omega)
theorem terms_Parse.t3 (k : Nat) (a0 : ByteArray) (l : List S91) (at_ n : Int) (b : Bool) (cs : List S53) (u : ByteArray) (e1 : Int) (w : World) (h : words_Cut.f k a0 = some (l, at_, 0)) (ht : pterms k l [] = some (some (n, b, cs))) (hx : terms_Text.f k n b cs = some (u, e1)) (he1 : e1 ≠ 0) :
  Calls Tryd.prog 18 #[.string a0] w fun e w' => ∃ v2_ : Value, e = .returned (.tuple #[.agg #[.int .i64 0, .bool false, v2_], .int .i64 5]) ∧ Kd.R k53 53 w' w.heap.size (fun _ => True) v2_ [] ∧ Below w.heap.size w w' := by
 have HPost : ∀ W, Below w.heap.size w W → (fun (e : Ending) (w' : World) => ∃ v2_ : Value, e = .returned (.tuple #[.agg #[.int .i64 0, .bool false, v2_], .int .i64 5]) ∧ Kd.R k53 53 w' w.heap.size (fun _ => True) v2_ [] ∧ Below w.heap.size w w') (.returned (.tuple #[.agg #[.int .i64 0, .bool false, .slice none 0 0], .int .i64 5])) W := fun W hW => ⟨_, rfl, Kd.R_nil _ _ _ _ _, hW⟩
 generalize (fun (e : Ending) (w' : World) => ∃ v2_ : Value, e = .returned (.tuple #[.agg #[.int .i64 0, .bool false, v2_], .int .i64 5]) ∧ Kd.R k53 53 w' w.heap.size (fun _ => True) v2_ [] ∧ Below w.heap.size w w') = Post at HPost ⊢
 have HP := sd HPost
 clear HPost
 have hmf : ∀ (fn : Fn) (first cap : Array Value) (w : World), (Instr.makeFunc fn first cap).run Tryd.prog w = .ok (.func fn first cap) w := fun _ _ _ _ => rfl
 have HX := sd (fun W A c hr hc => terms_Text.calls k n b A c cs u e1 W hr hc hx)
 have heb : (e1 != 0) = true := bne_iff_ne.mpr he1
 clear he1 hx
 have HC := sd (fun W => words_Cut.calls k a0 l at_ 0 W h)
 clear h
 go_enter_defers Tryd.func18, Tryd.ntmps18
 go_wp2_with fail
 refine (HC.out _).mono ?_
 rintro e W1 ⟨v0, rfl, hR, hb⟩
 obtain ⟨A, c, rfl, hl, hC⟩ := Kd.R_reads hR
 obtain ⟨hcc, hff⟩ := bcell hb
 have hz1 : w.heap.size + 1 < W1.heap.size := by have := hb.size; simp at this; omega
 have hT0 : W1.heap[w.heap.size]? = some (.cells #[.int .i64 0, .bool false, .slice none 0 0] 24 (0, 0)) := blk_below (blk_alloc (blk_new w _) _) hb
 have hE0 : W1.heap[w.heap.size + 1]? = some (.cells #[.int .i64 0] 26 (0, 0)) := blk_below zq18 hb
 have HT := sd (blk_far (p := ⟨w.heap.size + 1, 0, none⟩) hT0 (by simp) (.int .i64 0))
 have HE := sd (blk_put (cs' := #[.int .i64 0]) hE0 0 (.int .i64 0) rfl)
 have hB0 : Below w.heap.size w W1 := (below_alloc (below_alloc (Below.refl _ _) _) _).trans (hb.mono (by simp; omega))
 have HB := sd (below_set (g := w.heap.size + 1) (j := 0) (v := .int .i64 0) hB0 (by omega))
 have hsz : (W1.setCell ⟨w.heap.size + 1, 0, none⟩ (.int .i64 0)).heap.size = W1.heap.size := by simp [World.setCell]
 have HPar : Aside0 (Par (W1.heap.size + 1) ((W1.setCell ⟨w.heap.size + 1, 0, none⟩ (.int .i64 0)).alloc (.cells #[.slice A l.length c] 70)) W1.heap.size l) := ⟨by
  obtain ⟨inner, ho⟩ := Kd.R_own hR
  have hA : ∀ ad, A = some ad → 0 < l.length → w.heap.size + 2 ≤ ad.block ∧ ad.block < W1.heap.size := by
   rintro ad rfl hn
   refine ⟨zq19, ?_⟩
   obtain ⟨ad', e, hc⟩ := hC.2.2 hn
   obtain rfl := Option.some.inj e
   obtain ⟨cs, q1, q2, q3⟩ := hc 0 l[0] (List.getElem?_eq_getElem hn)
   obtain rfl := k91_open q2
   have := lt_of_cell (q3 0 _ rfl)
   rwa [add_block] at this
  have hC1 : Kd.C k91 (W1.setCell ⟨w.heap.size + 1, 0, none⟩ (.int .i64 0)) A l.length l := c91_keep hC ((KeepBut.refl W1 (w.heap.size + 1) none).set_ 0 _) (fun ad e hn => by have := (hA ad e hn).1; omega)
  have hnew := blk_new (W1.setCell ⟨w.heap.size + 1, 0, none⟩ (.int .i64 0)) (.cells #[.slice A l.length c] 70)
  rw [hsz] at hnew
  exact ⟨A, c, blk_cell hnew 0, hl, Kd.C_below hC1 (below_alloc (Below.refl _ _) _), fun ad e hn => by have := (hA ad e hn).2; omega, blk_frozen hnew 0, hC.2.1, by omega⟩⟩
 have HKT := sd (blk_alloc HT.out (.cells #[.slice A l.length c] 70))
 have HKE := sd (blk_alloc HE.out (.cells #[.slice A l.length c] 70))
 have HKB := sd (below_alloc HB.out (.cells #[.slice A l.length c] 70))
 have hbd : W1.heap.size + 1 ≤ ((W1.setCell ⟨w.heap.size + 1, 0, none⟩ (.int .i64 0)).alloc (.cells #[.slice A l.length c] 70)).heap.size := by simp [World.setCell]
 clear hR hb hC hT0 hE0 hB0 hl HT HE HB
 go_wp2_with fail
 generalize (W1.setCell ⟨w.heap.size + 1, 0, none⟩ (.int .i64 0)).alloc (.cells #[.slice A l.length c] 70) = W2 at HPar HKT HKE HKB hbd ⊢
 refine (terms_calls k W1.heap.size l (some (n, b, cs)) _ hbd HPar.out ht).mono ?_
 rintro e W3 ⟨hk3, v, rfl, hR3⟩
 obtain ⟨va, vc, rfl, hvl, hvC⟩ := Kd.R_reads hR3
 have hT3 := hk3.blk HKT.out (by omega) (by simp)
 have hE3 := hk3.blk HKE.out (by omega) (by simp)
 have hB3 : Below w.heap.size w W3 := hk3.below HKB.out (by omega)
 have k0 := blk_cell hT3 0
 have k1 := blk_cell hT3 1
 have k2 := blk_cell hT3 2
 have k3 := blk_cell hE3 0
 have f0 := blk_frozen hT3 0
 have f1 := blk_frozen hT3 1
 have f2 := blk_frozen hT3 2
 have f3 := blk_frozen hE3 0
 have HT3 := sd hT3
 have HE3 := sd hE3
 have HB3 := sd hB3
 have HR3 := sd hR3
 have HvC := sd hvC
 have HvL := sd hvl
 have hz3 : w.heap.size + 1 < W3.heap.size := blk_lt hE3
 clear hT3 hE3 hB3 hR3 hvC hvl hk3 HPar HKT HKE HKB ht
 simp only [List.getElem?_toArray, List.getElem?_cons_zero, List.getElem?_cons_succ] at k0 k1 k2 k3
 go_wp2_with fail
 clear k0 k1 k2 k3 f0 f1 f2 f3
 have hTx := blk_put (blk_put (blk_put HT3.out 0 (.int .i64 n) rfl) 1 (.bool b) rfl) 2 (.slice va cs.length vc) rfl
 have hEx := blk_far (p := ⟨w.heap.size, 2, none⟩) (blk_far (p := ⟨w.heap.size, 1, none⟩) (blk_far (p := ⟨w.heap.size, 0, none⟩) HE3.out (by simp) (.int .i64 n)) (by simp) (.bool b)) (by simp) (.slice va cs.length vc)
 have hBx := below_set (j := 2) (v := .slice va cs.length vc) (below_set (j := 1) (v := .bool b) (below_set (j := 0) (v := .int .i64 n) HB3.out (Nat.le_refl _)) (Nat.le_refl _)) (Nat.le_refl _)
 have hRx := Kd.R_far (p := ⟨w.heap.size, 2, none⟩) (Kd.R_far (p := ⟨w.heap.size, 1, none⟩) (Kd.R_far (p := ⟨w.heap.size, 0, none⟩) (Kd.R_mono (Kd.R_bound HR3.out) (fun k hk => show w.heap.size + 1 < k by have := hk.2.1; omega)) (fun k hk => by dsimp only; omega) (.int .i64 n)) (fun k hk => by dsimp only; omega) (.bool b)) (fun k hk => by dsimp only; omega) (.slice va cs.length vc)
 generalize ((W3.setCell ⟨w.heap.size, 0, none⟩ (.int .i64 n)).setCell ⟨w.heap.size, 1, none⟩ (.bool b)).setCell ⟨w.heap.size, 2, none⟩ (.slice va cs.length vc) = Wx at hTx hEx hBx hRx ⊢
 obtain ⟨va', vc', e, hvl, hvC⟩ := Kd.R_reads hRx
 obtain ⟨rfl, _, rfl⟩ := Value.slice.inj e
 refine (HX.out Wx va vc hvC hvl).mono ?_
 rintro e W4 ⟨rfl, hb4⟩
 have HT4 := sd (blk_below hTx hb4)
 have HE4 := sd (blk_below hEx hb4)
 have HR4 := sd (Kd.R_below hRx hb4)
 have HB4 := sd (below_step hBx hb4)
 have hz4 : w.heap.size + 1 < W4.heap.size := blk_lt HE4.out
 have k0 : W4.cell? ⟨w.heap.size, 0, none⟩ = some (.int .i64 n) := blk_cell HT4.out 0
 have k1 : W4.cell? ⟨w.heap.size, 1, none⟩ = some (.bool b) := blk_cell HT4.out 1
 have k2 : W4.cell? ⟨w.heap.size, 2, none⟩ = some (.slice va cs.length vc) := blk_cell HT4.out 2
 have k3 : W4.cell? ⟨w.heap.size + 1, 0, none⟩ = some (.int .i64 0) := blk_cell HE4.out 0
 have f0 := blk_frozen HT4.out 0
 have f1 := blk_frozen HT4.out 1
 have f2 := blk_frozen HT4.out 2
 have f3 := blk_frozen HE4.out 0
 clear hTx hEx hBx hRx hb4 hvl hvC HT3 HE3 HB3 HR3 HvC HvL
 go_wp2_with fail
 have hT5 := blk_far (p := ⟨w.heap.size + 1, 0, none⟩) (blk_put (blk_put (blk_put HT4.out 0 (.int .i64 0) rfl) 1 (.bool false) rfl) 2 (.slice none 0 0) rfl) (by simp) (.int .i64 5)
 have hE5 := blk_put (blk_far (p := ⟨w.heap.size, 2, none⟩) (blk_far (p := ⟨w.heap.size, 1, none⟩) (blk_far (p := ⟨w.heap.size, 0, none⟩) HE4.out (by simp) (.int .i64 0)) (by simp) (.bool false)) (by simp) (.slice none 0 0)) 0 (.int .i64 5) rfl
 have hB5 := below_set (j := 0) (v := .int .i64 5) (below_set (j := 2) (v := .slice none 0 0) (below_set (j := 1) (v := .bool false) (below_set (j := 0) (v := .int .i64 0) HB4.out (Nat.le_refl _)) (Nat.le_refl _)) (Nat.le_refl _)) (show w.heap.size ≤ w.heap.size + 1 by omega)
 show Leaves Tryd.prog Tryd.f18 _ Post _ _ _
 refine leaves_cons (f := 36) (args := #[.pointer (some ⟨w.heap.size, 0, none⟩), .pointer (some ⟨w.heap.size + 1, 0, none⟩)]) (by simp) (by simp [go_sem]) ?_
 refine (catch_idle _ _ _).mono ?_
 rintro e u' w'' ⟨rfl, rfl, rfl⟩
 show Leaves Tryd.prog Tryd.f18 _ Post [] .returning _
 exact parse_door Post _ _ w.heap.size (w.heap.size + 1) 0 5 false none 0 0 rfl rfl (blk_cell hT5 0) (blk_cell hT5 1) (blk_cell hT5 2) (blk_cell hE5 0) (HP.out _ hB5)
theorem terms_Parse.t4 (k : Nat) (a0 : ByteArray) (l : List S91) (at_ n : Int) (b : Bool) (cs : List S53) (u : ByteArray) (w : World) (h : words_Cut.f k a0 = some (l, at_, 0)) (ht : pterms k l [] = some (some (n, b, cs))) (hx : terms_Text.f k n b cs = some (u, 0)) (hu : (u.toList == a0.toList) = false) :
  Calls Tryd.prog 18 #[.string a0] w fun e w' => ∃ v2_ : Value, e = .returned (.tuple #[.agg #[.int .i64 0, .bool false, v2_], .int .i64 5]) ∧ Kd.R k53 53 w' w.heap.size (fun _ => True) v2_ [] ∧ Below w.heap.size w w' := by
 have HPost : ∀ W, Below w.heap.size w W → (fun (e : Ending) (w' : World) => ∃ v2_ : Value, e = .returned (.tuple #[.agg #[.int .i64 0, .bool false, v2_], .int .i64 5]) ∧ Kd.R k53 53 w' w.heap.size (fun _ => True) v2_ [] ∧ Below w.heap.size w w') (.returned (.tuple #[.agg #[.int .i64 0, .bool false, .slice none 0 0], .int .i64 5])) W := fun W hW => ⟨_, rfl, Kd.R_nil _ _ _ _ _, hW⟩
 generalize (fun (e : Ending) (w' : World) => ∃ v2_ : Value, e = .returned (.tuple #[.agg #[.int .i64 0, .bool false, v2_], .int .i64 5]) ∧ Kd.R k53 53 w' w.heap.size (fun _ => True) v2_ [] ∧ Below w.heap.size w w') = Post at HPost ⊢
 have HP := sd HPost
 clear HPost
 have hmf : ∀ (fn : Fn) (first cap : Array Value) (w : World), (Instr.makeFunc fn first cap).run Tryd.prog w = .ok (.func fn first cap) w := fun _ _ _ _ => rfl
 have HX := sd (fun W A c hr hc => terms_Text.calls k n b A c cs u 0 W hr hc hx)
 clear hx
 have HC := sd (fun W => words_Cut.calls k a0 l at_ 0 W h)
 clear h
 go_enter_defers Tryd.func18, Tryd.ntmps18
 go_wp2_with fail
 refine (HC.out _).mono ?_
 rintro e W1 ⟨v0, rfl, hR, hb⟩
 obtain ⟨A, c, rfl, hl, hC⟩ := Kd.R_reads hR
 obtain ⟨hcc, hff⟩ := bcell hb
 have hz1 : w.heap.size + 1 < W1.heap.size := by have := hb.size; simp at this; omega
 have hT0 : W1.heap[w.heap.size]? = some (.cells #[.int .i64 0, .bool false, .slice none 0 0] 24 (0, 0)) := blk_below (blk_alloc (blk_new w _) _) hb
 have hE0 : W1.heap[w.heap.size + 1]? = some (.cells #[.int .i64 0] 26 (0, 0)) := blk_below zq18 hb
 have HT := sd (blk_far (p := ⟨w.heap.size + 1, 0, none⟩) hT0 (by simp) (.int .i64 0))
 have HE := sd (blk_put (cs' := #[.int .i64 0]) hE0 0 (.int .i64 0) rfl)
 have hB0 : Below w.heap.size w W1 := (below_alloc (below_alloc (Below.refl _ _) _) _).trans (hb.mono (by simp; omega))
 have HB := sd (below_set (g := w.heap.size + 1) (j := 0) (v := .int .i64 0) hB0 (by omega))
 have hsz : (W1.setCell ⟨w.heap.size + 1, 0, none⟩ (.int .i64 0)).heap.size = W1.heap.size := by simp [World.setCell]
 have HPar : Aside0 (Par (W1.heap.size + 1) ((W1.setCell ⟨w.heap.size + 1, 0, none⟩ (.int .i64 0)).alloc (.cells #[.slice A l.length c] 70)) W1.heap.size l) := ⟨by
  obtain ⟨inner, ho⟩ := Kd.R_own hR
  have hA : ∀ ad, A = some ad → 0 < l.length → w.heap.size + 2 ≤ ad.block ∧ ad.block < W1.heap.size := by
   rintro ad rfl hn
   refine ⟨zq19, ?_⟩
   obtain ⟨ad', e, hc⟩ := hC.2.2 hn
   obtain rfl := Option.some.inj e
   obtain ⟨cs, q1, q2, q3⟩ := hc 0 l[0] (List.getElem?_eq_getElem hn)
   obtain rfl := k91_open q2
   have := lt_of_cell (q3 0 _ rfl)
   rwa [add_block] at this
  have hC1 : Kd.C k91 (W1.setCell ⟨w.heap.size + 1, 0, none⟩ (.int .i64 0)) A l.length l := c91_keep hC ((KeepBut.refl W1 (w.heap.size + 1) none).set_ 0 _) (fun ad e hn => by have := (hA ad e hn).1; omega)
  have hnew := blk_new (W1.setCell ⟨w.heap.size + 1, 0, none⟩ (.int .i64 0)) (.cells #[.slice A l.length c] 70)
  rw [hsz] at hnew
  exact ⟨A, c, blk_cell hnew 0, hl, Kd.C_below hC1 (below_alloc (Below.refl _ _) _), fun ad e hn => by have := (hA ad e hn).2; omega, blk_frozen hnew 0, hC.2.1, by omega⟩⟩
 have HKT := sd (blk_alloc HT.out (.cells #[.slice A l.length c] 70))
 have HKE := sd (blk_alloc HE.out (.cells #[.slice A l.length c] 70))
 have HKB := sd (below_alloc HB.out (.cells #[.slice A l.length c] 70))
 have hbd : W1.heap.size + 1 ≤ ((W1.setCell ⟨w.heap.size + 1, 0, none⟩ (.int .i64 0)).alloc (.cells #[.slice A l.length c] 70)).heap.size := by simp [World.setCell]
 clear hR hb hC hT0 hE0 hB0 hl HT HE HB
 go_wp2_with fail
 generalize (W1.setCell ⟨w.heap.size + 1, 0, none⟩ (.int .i64 0)).alloc (.cells #[.slice A l.length c] 70) = W2 at HPar HKT HKE HKB hbd ⊢
 refine (terms_calls k W1.heap.size l (some (n, b, cs)) _ hbd HPar.out ht).mono ?_
 rintro e W3 ⟨hk3, v, rfl, hR3⟩
 obtain ⟨va, vc, rfl, hvl, hvC⟩ := Kd.R_reads hR3
 have hT3 := hk3.blk HKT.out (by omega) (by simp)
 have hE3 := hk3.blk HKE.out (by omega) (by simp)
 have hB3 : Below w.heap.size w W3 := hk3.below HKB.out (by omega)
 have k0 := blk_cell hT3 0
 have k1 := blk_cell hT3 1
 have k2 := blk_cell hT3 2
 have k3 := blk_cell hE3 0
 have f0 := blk_frozen hT3 0
 have f1 := blk_frozen hT3 1
 have f2 := blk_frozen hT3 2
 have f3 := blk_frozen hE3 0
 have HT3 := sd hT3
 have HE3 := sd hE3
 have HB3 := sd hB3
 have HR3 := sd hR3
 have HvC := sd hvC
 have HvL := sd hvl
 have hz3 : w.heap.size + 1 < W3.heap.size := blk_lt hE3
 clear hT3 hE3 hB3 hR3 hvC hvl hk3 HPar HKT HKE HKB ht
 simp only [List.getElem?_toArray, List.getElem?_cons_zero, List.getElem?_cons_succ] at k0 k1 k2 k3
 go_wp2_with fail
 clear k0 k1 k2 k3 f0 f1 f2 f3
 have hTx := blk_put (blk_put (blk_put HT3.out 0 (.int .i64 n) rfl) 1 (.bool b) rfl) 2 (.slice va cs.length vc) rfl
 have hEx := blk_far (p := ⟨w.heap.size, 2, none⟩) (blk_far (p := ⟨w.heap.size, 1, none⟩) (blk_far (p := ⟨w.heap.size, 0, none⟩) HE3.out (by simp) (.int .i64 n)) (by simp) (.bool b)) (by simp) (.slice va cs.length vc)
 have hBx := below_set (j := 2) (v := .slice va cs.length vc) (below_set (j := 1) (v := .bool b) (below_set (j := 0) (v := .int .i64 n) HB3.out (Nat.le_refl _)) (Nat.le_refl _)) (Nat.le_refl _)
 have hRx := Kd.R_far (p := ⟨w.heap.size, 2, none⟩) (Kd.R_far (p := ⟨w.heap.size, 1, none⟩) (Kd.R_far (p := ⟨w.heap.size, 0, none⟩) (Kd.R_mono (Kd.R_bound HR3.out) (fun k hk => show w.heap.size + 1 < k by have := hk.2.1; omega)) (fun k hk => by dsimp only; omega) (.int .i64 n)) (fun k hk => by dsimp only; omega) (.bool b)) (fun k hk => by dsimp only; omega) (.slice va cs.length vc)
 generalize ((W3.setCell ⟨w.heap.size, 0, none⟩ (.int .i64 n)).setCell ⟨w.heap.size, 1, none⟩ (.bool b)).setCell ⟨w.heap.size, 2, none⟩ (.slice va cs.length vc) = Wx at hTx hEx hBx hRx ⊢
 obtain ⟨va', vc', e, hvl, hvC⟩ := Kd.R_reads hRx
 obtain ⟨rfl, _, rfl⟩ := Value.slice.inj e
 refine (HX.out Wx va vc hvC hvl).mono ?_
 rintro e W4 ⟨rfl, hb4⟩
 have HT4 := sd (blk_below hTx hb4)
 have HE4 := sd (blk_below hEx hb4)
 have HR4 := sd (Kd.R_below hRx hb4)
 have HB4 := sd (below_step hBx hb4)
 have hz4 : w.heap.size + 1 < W4.heap.size := blk_lt HE4.out
 have k0 : W4.cell? ⟨w.heap.size, 0, none⟩ = some (.int .i64 n) := blk_cell HT4.out 0
 have k1 : W4.cell? ⟨w.heap.size, 1, none⟩ = some (.bool b) := blk_cell HT4.out 1
 have k2 : W4.cell? ⟨w.heap.size, 2, none⟩ = some (.slice va cs.length vc) := blk_cell HT4.out 2
 have k3 : W4.cell? ⟨w.heap.size + 1, 0, none⟩ = some (.int .i64 0) := blk_cell HE4.out 0
 have f0 := blk_frozen HT4.out 0
 have f1 := blk_frozen HT4.out 1
 have f2 := blk_frozen HT4.out 2
 have f3 := blk_frozen HE4.out 0
 clear hTx hEx hBx hRx hb4 hvl hvC HT3 HE3 HB3 HR3 HvC HvL
 go_wp2_with fail
 have hT5 := blk_far (p := ⟨w.heap.size + 1, 0, none⟩) (blk_put (blk_put (blk_put HT4.out 0 (.int .i64 0) rfl) 1 (.bool false) rfl) 2 (.slice none 0 0) rfl) (by simp) (.int .i64 5)
 have hE5 := blk_put (blk_far (p := ⟨w.heap.size, 2, none⟩) (blk_far (p := ⟨w.heap.size, 1, none⟩) (blk_far (p := ⟨w.heap.size, 0, none⟩) HE4.out (by simp) (.int .i64 0)) (by simp) (.bool false)) (by simp) (.slice none 0 0)) 0 (.int .i64 5) rfl
 have hB5 := below_set (j := 0) (v := .int .i64 5) (below_set (j := 2) (v := .slice none 0 0) (below_set (j := 1) (v := .bool false) (below_set (j := 0) (v := .int .i64 0) HB4.out (Nat.le_refl _)) (Nat.le_refl _)) (Nat.le_refl _)) (show w.heap.size ≤ w.heap.size + 1 by omega)
 show Leaves Tryd.prog Tryd.f18 _ Post _ _ _
 refine leaves_cons (f := 36) (args := #[.pointer (some ⟨w.heap.size, 0, none⟩), .pointer (some ⟨w.heap.size + 1, 0, none⟩)]) (by simp) (by simp [go_sem]) ?_
 refine (catch_idle _ _ _).mono ?_
 rintro e u' w'' ⟨rfl, rfl, rfl⟩
 show Leaves Tryd.prog Tryd.f18 _ Post [] .returning _
 exact parse_door Post _ _ w.heap.size (w.heap.size + 1) 0 5 false none 0 0 rfl rfl (blk_cell hT5 0) (blk_cell hT5 1) (blk_cell hT5 2) (blk_cell hE5 0) (HP.out _ hB5)
theorem terms_Parse.t5 (k : Nat) (a0 : ByteArray) (l : List S91) (at_ n : Int) (b : Bool) (cs : List S53) (u : ByteArray) (w : World) (h : words_Cut.f k a0 = some (l, at_, 0)) (ht : pterms k l [] = some (some (n, b, cs))) (hx : terms_Text.f k n b cs = some (u, 0)) (hu : (u.toList == a0.toList) = true) :
  Calls Tryd.prog 18 #[.string a0] w fun e w' => ∃ v2_ : Value, e = .returned (.tuple #[.agg #[.int .i64 n, .bool b, v2_], .int .i64 0]) ∧ Kd.R k53 53 w' w.heap.size (fun _ => True) v2_ cs ∧ Below w.heap.size w w' := by
 have HPost : ∀ W v, Below w.heap.size w W → Kd.R k53 53 W w.heap.size (fun _ => True) v cs → (fun (e : Ending) (w' : World) => ∃ v2_ : Value, e = .returned (.tuple #[.agg #[.int .i64 n, .bool b, v2_], .int .i64 0]) ∧ Kd.R k53 53 w' w.heap.size (fun _ => True) v2_ cs ∧ Below w.heap.size w w') (.returned (.tuple #[.agg #[.int .i64 n, .bool b, v], .int .i64 0])) W := fun W v hW hR => ⟨_, rfl, hR, hW⟩
 generalize (fun (e : Ending) (w' : World) => ∃ v2_ : Value, e = .returned (.tuple #[.agg #[.int .i64 n, .bool b, v2_], .int .i64 0]) ∧ Kd.R k53 53 w' w.heap.size (fun _ => True) v2_ cs ∧ Below w.heap.size w w') = Post at HPost ⊢
 have HP := sd HPost
 clear HPost
 have hmf : ∀ (fn : Fn) (first cap : Array Value) (w : World), (Instr.makeFunc fn first cap).run Tryd.prog w = .ok (.func fn first cap) w := fun _ _ _ _ => rfl
 have HX := sd (fun W A c hr hc => terms_Text.calls k n b A c cs u 0 W hr hc hx)
 clear hx
 have HC := sd (fun W => words_Cut.calls k a0 l at_ 0 W h)
 clear h
 go_enter_defers Tryd.func18, Tryd.ntmps18
 go_wp2_with fail
 refine (HC.out _).mono ?_
 rintro e W1 ⟨v0, rfl, hR, hb⟩
 obtain ⟨A, c, rfl, hl, hC⟩ := Kd.R_reads hR
 obtain ⟨hcc, hff⟩ := bcell hb
 have hz1 : w.heap.size + 1 < W1.heap.size := by have := hb.size; simp at this; omega
 have hT0 : W1.heap[w.heap.size]? = some (.cells #[.int .i64 0, .bool false, .slice none 0 0] 24 (0, 0)) := blk_below (blk_alloc (blk_new w _) _) hb
 have hE0 : W1.heap[w.heap.size + 1]? = some (.cells #[.int .i64 0] 26 (0, 0)) := blk_below zq18 hb
 have HT := sd (blk_far (p := ⟨w.heap.size + 1, 0, none⟩) hT0 (by simp) (.int .i64 0))
 have HE := sd (blk_put (cs' := #[.int .i64 0]) hE0 0 (.int .i64 0) rfl)
 have hB0 : Below w.heap.size w W1 := (below_alloc (below_alloc (Below.refl _ _) _) _).trans (hb.mono (by simp; omega))
 have HB := sd (below_set (g := w.heap.size + 1) (j := 0) (v := .int .i64 0) hB0 (by omega))
 have hsz : (W1.setCell ⟨w.heap.size + 1, 0, none⟩ (.int .i64 0)).heap.size = W1.heap.size := by simp [World.setCell]
 have HPar : Aside0 (Par (W1.heap.size + 1) ((W1.setCell ⟨w.heap.size + 1, 0, none⟩ (.int .i64 0)).alloc (.cells #[.slice A l.length c] 70)) W1.heap.size l) := ⟨by
  obtain ⟨inner, ho⟩ := Kd.R_own hR
  have hA : ∀ ad, A = some ad → 0 < l.length → w.heap.size + 2 ≤ ad.block ∧ ad.block < W1.heap.size := by
   rintro ad rfl hn
   refine ⟨zq19, ?_⟩
   obtain ⟨ad', e, hc⟩ := hC.2.2 hn
   obtain rfl := Option.some.inj e
   obtain ⟨cs, q1, q2, q3⟩ := hc 0 l[0] (List.getElem?_eq_getElem hn)
   obtain rfl := k91_open q2
   have := lt_of_cell (q3 0 _ rfl)
   rwa [add_block] at this
  have hC1 : Kd.C k91 (W1.setCell ⟨w.heap.size + 1, 0, none⟩ (.int .i64 0)) A l.length l := c91_keep hC ((KeepBut.refl W1 (w.heap.size + 1) none).set_ 0 _) (fun ad e hn => by have := (hA ad e hn).1; omega)
  have hnew := blk_new (W1.setCell ⟨w.heap.size + 1, 0, none⟩ (.int .i64 0)) (.cells #[.slice A l.length c] 70)
  rw [hsz] at hnew
  exact ⟨A, c, blk_cell hnew 0, hl, Kd.C_below hC1 (below_alloc (Below.refl _ _) _), fun ad e hn => by have := (hA ad e hn).2; omega, blk_frozen hnew 0, hC.2.1, by omega⟩⟩
 have HKT := sd (blk_alloc HT.out (.cells #[.slice A l.length c] 70))
 have HKE := sd (blk_alloc HE.out (.cells #[.slice A l.length c] 70))
 have HKB := sd (below_alloc HB.out (.cells #[.slice A l.length c] 70))
 have hbd : W1.heap.size + 1 ≤ ((W1.setCell ⟨w.heap.size + 1, 0, none⟩ (.int .i64 0)).alloc (.cells #[.slice A l.length c] 70)).heap.size := by simp [World.setCell]
 clear hR hb hC hT0 hE0 hB0 hl HT HE HB
 go_wp2_with fail
 generalize (W1.setCell ⟨w.heap.size + 1, 0, none⟩ (.int .i64 0)).alloc (.cells #[.slice A l.length c] 70) = W2 at HPar HKT HKE HKB hbd ⊢
 refine (terms_calls k W1.heap.size l (some (n, b, cs)) _ hbd HPar.out ht).mono ?_
 rintro e W3 ⟨hk3, v, rfl, hR3⟩
 obtain ⟨va, vc, rfl, hvl, hvC⟩ := Kd.R_reads hR3
 have hT3 := hk3.blk HKT.out (by omega) (by simp)
 have hE3 := hk3.blk HKE.out (by omega) (by simp)
 have hB3 : Below w.heap.size w W3 := hk3.below HKB.out (by omega)
 have k0 := blk_cell hT3 0
 have k1 := blk_cell hT3 1
 have k2 := blk_cell hT3 2
 have k3 := blk_cell hE3 0
 have f0 := blk_frozen hT3 0
 have f1 := blk_frozen hT3 1
 have f2 := blk_frozen hT3 2
 have f3 := blk_frozen hE3 0
 have HT3 := sd hT3
 have HE3 := sd hE3
 have HB3 := sd hB3
 have HR3 := sd hR3
 have HvC := sd hvC
 have HvL := sd hvl
 have hz3 : w.heap.size + 1 < W3.heap.size := blk_lt hE3
 clear hT3 hE3 hB3 hR3 hvC hvl hk3 HPar HKT HKE HKB ht
 simp only [List.getElem?_toArray, List.getElem?_cons_zero, List.getElem?_cons_succ] at k0 k1 k2 k3
 go_wp2_with fail
 clear k0 k1 k2 k3 f0 f1 f2 f3
 have hTx := blk_put (blk_put (blk_put HT3.out 0 (.int .i64 n) rfl) 1 (.bool b) rfl) 2 (.slice va cs.length vc) rfl
 have hEx := blk_far (p := ⟨w.heap.size, 2, none⟩) (blk_far (p := ⟨w.heap.size, 1, none⟩) (blk_far (p := ⟨w.heap.size, 0, none⟩) HE3.out (by simp) (.int .i64 n)) (by simp) (.bool b)) (by simp) (.slice va cs.length vc)
 have hBx := below_set (j := 2) (v := .slice va cs.length vc) (below_set (j := 1) (v := .bool b) (below_set (j := 0) (v := .int .i64 n) HB3.out (Nat.le_refl _)) (Nat.le_refl _)) (Nat.le_refl _)
 have hRx := Kd.R_far (p := ⟨w.heap.size, 2, none⟩) (Kd.R_far (p := ⟨w.heap.size, 1, none⟩) (Kd.R_far (p := ⟨w.heap.size, 0, none⟩) (Kd.R_mono (Kd.R_bound HR3.out) (fun k hk => show w.heap.size + 1 < k by have := hk.2.1; omega)) (fun k hk => by dsimp only; omega) (.int .i64 n)) (fun k hk => by dsimp only; omega) (.bool b)) (fun k hk => by dsimp only; omega) (.slice va cs.length vc)
 generalize ((W3.setCell ⟨w.heap.size, 0, none⟩ (.int .i64 n)).setCell ⟨w.heap.size, 1, none⟩ (.bool b)).setCell ⟨w.heap.size, 2, none⟩ (.slice va cs.length vc) = Wx at hTx hEx hBx hRx ⊢
 obtain ⟨va', vc', e, hvl, hvC⟩ := Kd.R_reads hRx
 obtain ⟨rfl, _, rfl⟩ := Value.slice.inj e
 refine (HX.out Wx va vc hvC hvl).mono ?_
 rintro e W4 ⟨rfl, hb4⟩
 have HT4 := sd (blk_below hTx hb4)
 have HE4 := sd (blk_below hEx hb4)
 have HR4 := sd (Kd.R_below hRx hb4)
 have HB4 := sd (below_step hBx hb4)
 have hz4 : w.heap.size + 1 < W4.heap.size := blk_lt HE4.out
 have k0 : W4.cell? ⟨w.heap.size, 0, none⟩ = some (.int .i64 n) := blk_cell HT4.out 0
 have k1 : W4.cell? ⟨w.heap.size, 1, none⟩ = some (.bool b) := blk_cell HT4.out 1
 have k2 : W4.cell? ⟨w.heap.size, 2, none⟩ = some (.slice va cs.length vc) := blk_cell HT4.out 2
 have k3 : W4.cell? ⟨w.heap.size + 1, 0, none⟩ = some (.int .i64 0) := blk_cell HE4.out 0
 have f0 := blk_frozen HT4.out 0
 have f1 := blk_frozen HT4.out 1
 have f2 := blk_frozen HT4.out 2
 have f3 := blk_frozen HE4.out 0
 clear hTx hEx hBx hRx hb4 hvl hvC HT3 HE3 HB3 HR3 HvC HvL
 go_wp2_with fail
 have hT5 := blk_far (p := ⟨w.heap.size + 1, 0, none⟩) (blk_put (blk_put (blk_put HT4.out 0 (.int .i64 n) rfl) 1 (.bool b) rfl) 2 (.slice va cs.length vc) rfl) (by simp) (.int .i64 0)
 have hE5 := blk_put (blk_far (p := ⟨w.heap.size, 2, none⟩) (blk_far (p := ⟨w.heap.size, 1, none⟩) (blk_far (p := ⟨w.heap.size, 0, none⟩) HE4.out (by simp) (.int .i64 n)) (by simp) (.bool b)) (by simp) (.slice va cs.length vc)) 0 (.int .i64 0) rfl
 have hB5 := below_set (j := 0) (v := .int .i64 0) (below_set (j := 2) (v := .slice va cs.length vc) (below_set (j := 1) (v := .bool b) (below_set (j := 0) (v := .int .i64 n) HB4.out (Nat.le_refl _)) (Nat.le_refl _)) (Nat.le_refl _)) (show w.heap.size ≤ w.heap.size + 1 by omega)
 have hR5 := Kd.R_far (p := ⟨w.heap.size + 1, 0, none⟩) (Kd.R_far (p := ⟨w.heap.size, 2, none⟩) (Kd.R_far (p := ⟨w.heap.size, 1, none⟩) (Kd.R_far (p := ⟨w.heap.size, 0, none⟩) HR4.out (fun k hk => by dsimp only; omega) (.int .i64 n)) (fun k hk => by dsimp only; omega) (.bool b)) (fun k hk => by dsimp only; omega) (.slice va cs.length vc)) (fun k hk => by dsimp only; omega) (.int .i64 0)
 show Leaves Tryd.prog Tryd.f18 _ Post _ _ _
 refine leaves_cons (f := 36) (args := #[.pointer (some ⟨w.heap.size, 0, none⟩), .pointer (some ⟨w.heap.size + 1, 0, none⟩)]) (by simp) (by simp [go_sem]) ?_
 refine (catch_idle _ _ _).mono ?_
 rintro e u' w'' ⟨rfl, rfl, rfl⟩
 show Leaves Tryd.prog Tryd.f18 _ Post [] .returning _
 exact parse_door Post _ _ w.heap.size (w.heap.size + 1) n 0 b va cs.length vc rfl rfl (blk_cell hT5 0) (blk_cell hT5 1) (blk_cell hT5 2) (blk_cell hE5 0) (HP.out _ _ hB5 (Kd.R_mono (Kd.R_lower hR5 (by omega)) (fun _ _ => trivial)))
theorem terms_Parse.t2 (k : Nat) (a0 : ByteArray) (l : List S91) (at_ : Int) (w : World) (h : words_Cut.f k a0 = some (l, at_, 0)) (ht : pterms k l [] = some none) :
  Calls Tryd.prog 18 #[.string a0] w fun e w' => ∃ v2_ : Value, e = .returned (.tuple #[.agg #[.int .i64 0, .bool false, v2_], .int .i64 5]) ∧ Kd.R k53 53 w' w.heap.size (fun _ => True) v2_ [] ∧ Below w.heap.size w w' := by
 have HPost : ∀ W, Below w.heap.size w W → (fun (e : Ending) (w' : World) => ∃ v2_ : Value, e = .returned (.tuple #[.agg #[.int .i64 0, .bool false, v2_], .int .i64 5]) ∧ Kd.R k53 53 w' w.heap.size (fun _ => True) v2_ [] ∧ Below w.heap.size w w') (.returned (.tuple #[.agg #[.int .i64 0, .bool false, .slice none 0 0], .int .i64 5])) W := fun W hW => ⟨_, rfl, Kd.R_nil _ _ _ _ _, hW⟩
 generalize (fun (e : Ending) (w' : World) => ∃ v2_ : Value, e = .returned (.tuple #[.agg #[.int .i64 0, .bool false, v2_], .int .i64 5]) ∧ Kd.R k53 53 w' w.heap.size (fun _ => True) v2_ [] ∧ Below w.heap.size w w') = Post at HPost ⊢
 have HP := sd HPost
 clear HPost
 have hmf : ∀ (fn : Fn) (first cap : Array Value) (w : World), (Instr.makeFunc fn first cap).run Tryd.prog w = .ok (.func fn first cap) w := fun _ _ _ _ => rfl
 have HC := sd (fun W => words_Cut.calls k a0 l at_ 0 W h)
 clear h
 go_enter_defers Tryd.func18, Tryd.ntmps18
 go_wp2_with fail
 refine (HC.out _).mono ?_
 rintro e W1 ⟨v0, rfl, hR, hb⟩
 obtain ⟨A, c, rfl, hl, hC⟩ := Kd.R_reads hR
 obtain ⟨hcc, hff⟩ := bcell hb
 have hz1 : w.heap.size + 1 < W1.heap.size := by have := hb.size; simp at this; omega
 have hT0 : W1.heap[w.heap.size]? = some (.cells #[.int .i64 0, .bool false, .slice none 0 0] 24 (0, 0)) := blk_below (blk_alloc (blk_new w _) _) hb
 have hE0 : W1.heap[w.heap.size + 1]? = some (.cells #[.int .i64 0] 26 (0, 0)) := blk_below zq18 hb
 have HT := sd (blk_far (p := ⟨w.heap.size + 1, 0, none⟩) hT0 (by simp) (.int .i64 0))
 have HE := sd (blk_put (cs' := #[.int .i64 0]) hE0 0 (.int .i64 0) rfl)
 have hB0 : Below w.heap.size w W1 := (below_alloc (below_alloc (Below.refl _ _) _) _).trans (hb.mono (by simp; omega))
 have HB := sd (below_set (g := w.heap.size + 1) (j := 0) (v := .int .i64 0) hB0 (by omega))
 have hsz : (W1.setCell ⟨w.heap.size + 1, 0, none⟩ (.int .i64 0)).heap.size = W1.heap.size := by simp [World.setCell]
 have HPar : Aside0 (Par (W1.heap.size + 1) ((W1.setCell ⟨w.heap.size + 1, 0, none⟩ (.int .i64 0)).alloc (.cells #[.slice A l.length c] 70)) W1.heap.size l) := ⟨by
  obtain ⟨inner, ho⟩ := Kd.R_own hR
  have hA : ∀ ad, A = some ad → 0 < l.length → w.heap.size + 2 ≤ ad.block ∧ ad.block < W1.heap.size := by
   rintro ad rfl hn
   refine ⟨zq19, ?_⟩
   obtain ⟨ad', e, hc⟩ := hC.2.2 hn
   obtain rfl := Option.some.inj e
   obtain ⟨cs, q1, q2, q3⟩ := hc 0 l[0] (List.getElem?_eq_getElem hn)
   obtain rfl := k91_open q2
   have := lt_of_cell (q3 0 _ rfl)
   rwa [add_block] at this
  have hC1 : Kd.C k91 (W1.setCell ⟨w.heap.size + 1, 0, none⟩ (.int .i64 0)) A l.length l := c91_keep hC ((KeepBut.refl W1 (w.heap.size + 1) none).set_ 0 _) (fun ad e hn => by have := (hA ad e hn).1; omega)
  have hnew := blk_new (W1.setCell ⟨w.heap.size + 1, 0, none⟩ (.int .i64 0)) (.cells #[.slice A l.length c] 70)
  rw [hsz] at hnew
  exact ⟨A, c, blk_cell hnew 0, hl, Kd.C_below hC1 (below_alloc (Below.refl _ _) _), fun ad e hn => by have := (hA ad e hn).2; omega, blk_frozen hnew 0, hC.2.1, by omega⟩⟩
 have HKT := sd (blk_alloc HT.out (.cells #[.slice A l.length c] 70))
 have HKE := sd (blk_alloc HE.out (.cells #[.slice A l.length c] 70))
 have HKB := sd (below_alloc HB.out (.cells #[.slice A l.length c] 70))
 have hbd : W1.heap.size + 1 ≤ ((W1.setCell ⟨w.heap.size + 1, 0, none⟩ (.int .i64 0)).alloc (.cells #[.slice A l.length c] 70)).heap.size := by simp [World.setCell]
 clear hR hb hC hT0 hE0 hB0 hl HT HE HB
 go_wp2_with fail
 generalize (W1.setCell ⟨w.heap.size + 1, 0, none⟩ (.int .i64 0)).alloc (.cells #[.slice A l.length c] 70) = W2 at HPar HKT HKE HKB hbd ⊢
 refine (terms_calls k W1.heap.size l none _ hbd HPar.out ht).mono ?_
 rintro e W3 ⟨hk3, he⟩
 dsimp only at he
 subst he
 have hT3 := hk3.blk HKT.out (by omega) (by simp)
 have hE3 := hk3.blk HKE.out (by omega) (by simp)
 have hB3 : Below w.heap.size w W3 := hk3.below HKB.out (by omega)
 show Leaves Tryd.prog Tryd.f18 _ Post _ _ _
 refine leaves_cons (f := 36) (args := #[.pointer (some ⟨w.heap.size, 0, none⟩), .pointer (some ⟨w.heap.size + 1, 0, none⟩)]) (by simp) (by simp [go_sem]) ?_
 refine (catch_panicking w.heap.size (w.heap.size + 1) 0 0 false (.slice none 0 0) [] W3 (blk_cell hT3 0) (blk_cell hT3 1) (blk_cell hT3 2) (blk_cell hE3 0) (blk_frozen hT3 0) (blk_frozen hT3 1) (blk_frozen hT3 2) (blk_frozen hE3 0) (by omega)).mono ?_
 rintro e u' w'' ⟨rfl, rfl, rfl⟩
 have hT4 := blk_alloc (blk_far (p := ⟨w.heap.size + 1, 0, none⟩) (blk_put (blk_put (blk_put hT3 0 (.int .i64 0) rfl) 1 (.bool false) rfl) 2 (.slice none 0 0) rfl) (by simp) (.int .i64 5)) (.cells #[] 66)
 have hE4 := blk_alloc (blk_put (blk_far (p := ⟨w.heap.size, 2, none⟩) (blk_far (p := ⟨w.heap.size, 1, none⟩) (blk_far (p := ⟨w.heap.size, 0, none⟩) hE3 (by simp) (.int .i64 0)) (by simp) (.bool false)) (by simp) (.slice none 0 0)) 0 (.int .i64 5) rfl) (.cells #[] 66)
 have hB4 : Below w.heap.size w (caughtW W3 w.heap.size (w.heap.size + 1)) := below_alloc (below_set (below_set (below_set (below_set hB3 (Nat.le_refl _)) (Nat.le_refl _)) (Nat.le_refl _)) (by omega)) _
 show Leaves Tryd.prog Tryd.f18 _ Post [] .returning _
 exact parse_door Post _ _ w.heap.size (w.heap.size + 1) 0 5 false none 0 0 rfl rfl (blk_cell hT4 0) (blk_cell hT4 1) (blk_cell hT4 2) (blk_cell hE4 0) (HP.out _ hB4)
theorem pterms.mono : ∀ k l cs, LeO (pterms k l cs) (pterms (k + 1) l cs)
 | 0, _, _ => fun r h => by simp [pterms] at h
 | k + 1, [], cs => by simp only [pterms]; exact LeO.refl _
 | k + 1, x :: l, cs => by
  simp only [pterms]
  refine LeO.ite (LeO.refl _) (LeO.ite (LeO.bind (frac_Parse.mono _ _) fun f => LeO.ite (LeO.bind (LeO.refl _) fun r => ?_) (LeO.refl _)) (LeO.refl _))
  cases r with
  | none => exact LeO.refl _
  | some p => exact LeO.ite (pterms.mono k _ _) (LeO.refl _)
def terms_Parse.f (k : Nat) (a0 : ByteArray) : Option (Int × Bool × List S53 × Int) := (words_Cut.f k a0).bind fun q => if q.2.2 = 0 then (pterms k q.1 []).bind fun r => match r with
 | none => some (0, false, [], 5)
 | some t => (terms_Text.f k t.1 t.2.1 t.2.2).bind fun u => if u.2 = 0 then (if (u.1.toList == a0.toList) = true then some (t.1, t.2.1, t.2.2, 0) else some (0, false, [], 5)) else some (0, false, [], 5)
 else some (0, false, [], 5)
theorem terms_Parse.calls (k : Nat) (a0 : ByteArray) (r1 : Int) (r2 : Bool) (r3 : List S53) (r4 : Int) (w : World) (h : terms_Parse.f k a0 = some (r1, r2, r3, r4)) :
  Calls Tryd.prog 18 #[.string a0] w fun e w' => ∃ v2_ : Value, e = .returned (.tuple #[.agg #[.int .i64 r1, .bool r2, v2_], .int .i64 r4]) ∧ Kd.R k53 53 w' w.heap.size (fun _ => True) v2_ r3 ∧ Below w.heap.size w w' := by
 unfold terms_Parse.f at h
 replace h := Option.bind_eq_some_iff.mp h
 obtain ⟨⟨l, at_, e0⟩, hq, h⟩ := h
 dsimp only at h
 by_cases he : e0 = 0
 ·rw [if_pos he] at h
  subst he
  replace h := Option.bind_eq_some_iff.mp h
  obtain ⟨r, hr, h⟩ := h
  cases r with
  | none =>
   simp only [Option.some.injEq, Prod.mk.injEq] at h
   obtain ⟨rfl, rfl, rfl, rfl⟩ := h
   exact terms_Parse.t2 k a0 l at_ w hq hr
  | some t =>
   obtain ⟨n, b, cs⟩ := t
   dsimp only at h
   replace h := Option.bind_eq_some_iff.mp h
   obtain ⟨⟨u, e1⟩, hu, h⟩ := h
   dsimp only at h
   by_cases he1 : e1 = 0
   ·rw [if_pos he1] at h
    subst he1
    by_cases hs : (u.toList == a0.toList) = true
    ·rw [if_pos hs] at h
     simp only [Option.some.injEq, Prod.mk.injEq] at h
     obtain ⟨rfl, rfl, rfl, rfl⟩ := h
     exact terms_Parse.t5 k a0 l at_ n b cs u w hq hr hu hs
    rw [if_neg hs] at h
    simp only [Option.some.injEq, Prod.mk.injEq] at h
    obtain ⟨rfl, rfl, rfl, rfl⟩ := h
    exact terms_Parse.t4 k a0 l at_ n b cs u w hq hr hu (by simpa using hs)
   rw [if_neg he1] at h
   simp only [Option.some.injEq, Prod.mk.injEq] at h
   obtain ⟨rfl, rfl, rfl, rfl⟩ := h
   exact terms_Parse.t3 k a0 l at_ n b cs u e1 w hq hr hu he1
 rw [if_neg he] at h
 simp only [Option.some.injEq, Prod.mk.injEq] at h
 obtain ⟨rfl, rfl, rfl, rfl⟩ := h
 exact terms_Parse.t1 k a0 l at_ e0 w hq he
end Go.Proofs.YtelfiofnhchmbaaDoor.A
namespace Go.Proofs.YtelfiofnhchmbaaDoor.A
open Go.RowKit Go.Proofs.YtelfiofnhchmbaaDoor.B Go.Proofs.YtelfiofnhchmbaaDoorW.PrintWords Go.Proofs.YtelfiofnhchmbaaDoorW.PrintLast Go.Proofs.YtelfiofnhchmbaaDoorW.PrintMore
attribute [local go_sem] max2_int min2_int max_two min_two max_three min_three max_four min_four
set_option linter.unusedVariables false
set_option linter.unusedSimpArgs false
theorem eqA38 (d : Nat) (w : World) (x0 y0 x1 y1 : Int) :
    (Op.equalIn (d + 2) 38 (.agg #[.int .i64 x0, .int .i64 x1]) (.agg #[.int .i64 y0, .int .i64 y1])).run Tryd.prog w = .ok (x0 == y0 && (x1 == y1)) w := by
  refine eqA_of Tryd.underlying38 (by kernel_rfl) ?_
  refine eqf_cons (by rfl) (by go_simp; rfl) (by go_simp; rfl) (by go_simp) ?_
  exact eqf_last (by rfl) (by go_simp; rfl) (by go_simp; rfl) (by go_simp)
theorem eqA53 (d : Nat) (w : World) (x0 y0 x1 y1 x2 y2 : Int) :
    (Op.equalIn (d + 3) 53 (.agg #[.int .i64 x0, .int .i64 x1, .int .i64 x2]) (.agg #[.int .i64 y0, .int .i64 y1, .int .i64 y2])).run Tryd.prog w = .ok (x0 == y0 && ((x1 == y1 && (x2 == y2)))) w := by
  refine eqA_of Tryd.underlying53 (by kernel_rfl) ?_
  refine eqf_cons (by rfl) (by go_simp; rfl) (by go_simp; rfl) (by go_simp) ?_
  exact eqf_last (by rfl) (by go_simp) (by go_simp) (eqA38 (d + 0) w _ _ _ _)
end Go.Proofs.YtelfiofnhchmbaaDoor.A
namespace Go.Proofs.YtelfiofnhchmbaaDoor.A
open Go.RowKit Go.Proofs.YtelfiofnhchmbaaDoor.B Go.Proofs.YtelfiofnhchmbaaDoorW.PrintWords Go.Proofs.YtelfiofnhchmbaaDoorW.PrintLast Go.Proofs.YtelfiofnhchmbaaDoorW.PrintMore
attribute [local go_sem] max2_int min2_int max_two min_two max_three min_three max_four min_four
set_option linter.unusedVariables false
set_option linter.unusedSimpArgs false
set_option maxHeartbeats 8000000
set_option maxRecDepth 100000
attribute [local go_sem high] eqA53
mutual
def rf24_Same.j0 : Nat → Bool → Int → Bool → List (S53) → Int → Bool → List (S53) → Option (Bool)
 | 0, _, _, _, _, _, _, _ => none
 | k + 1, x26, x278000, x278001, x278002, x279000, x279001, x279002 => if x26 = true then (some false) else (rf24_Same.l0 k 0 x278000 x278001 x278002 x279000 x279001 x279002)
def rf24_Same.l0 : Nat → Int → Int → Bool → List (S53) → Int → Bool → List (S53) → Option (Bool)
 | 0, _, _, _, _, _, _, _ => none
 | k + 1, x5, x278000, x278001, x278002, x279000, x279001, x279002 => if x5 < (x278002.length : Int) then (if 0 ≤ x5 then (if x5 < (x279002.length : Int) then (if (!(((rd_T53 x278002 x5).f0) == ((rd_T53 x279002 x5).f0)) || ((!(((rd_T53 x278002 x5).f1.f0) == ((rd_T53 x279002 x5).f1.f0)) || (!(((rd_T53 x278002 x5).f1.f1) == ((rd_T53 x279002 x5).f1.f1)))))) = true then (some false) else (rf24_Same.l0 k (wrap64 (x5 + 1)) x278000 x278001 x278002 x279000 x279001 x279002)) else (none)) else (none)) else (some true)
end
def rf24_Same.f (k : Nat) (a0_0 : Int) (a0_1 : Bool) (l0_2 : List (S53)) (a1_0 : Int) (a1_1 : Bool) (l1_2 : List (S53)) : Option (Bool) := if a0_0 = a1_0 then (if (a0_1 != a1_1) = true then (rf24_Same.j0 k true a0_0 a0_1 l0_2 a1_0 a1_1 l1_2) else (rf24_Same.j0 k ((l0_2.length : Int) != (l1_2.length : Int)) a0_0 a0_1 l0_2 a1_0 a1_1 l1_2)) else (rf24_Same.j0 k true a0_0 a0_1 l0_2 a1_0 a1_1 l1_2)
theorem rf24_Same.calls (k : Nat) (a0_0 : Int) (a0_1 : Bool) (A0_2 : Option Addr) (c0_2 : Nat) (l0_2 : List (S53)) (a1_0 : Int) (a1_1 : Bool) (A1_2 : Option Addr) (c1_2 : Nat) (l1_2 : List (S53)) (r : Bool) (w : World) (hr0_2 : Kd.C k53 w A0_2 l0_2.length l0_2) (hc0_2 : l0_2.length ≤ c0_2) (hr1_2 : Kd.C k53 w A1_2 l1_2.length l1_2) (hc1_2 : l1_2.length ≤ c1_2) (h : rf24_Same.f k a0_0 a0_1 l0_2 a1_0 a1_1 l1_2 = some r) :
  Calls Tryd.prog 20 #[.agg #[.int .i64 a0_0, .bool a0_1, .slice A0_2 l0_2.length c0_2], .agg #[.int .i64 a1_0, .bool a1_1, .slice A1_2 l1_2.length c1_2]] w fun e w' => e = .returned (.bool r) ∧ Below w.heap.size w w' := by
 have hu24 := Tryd.underlying24
 have hu53 := Tryd.underlying53
 have HR0_2 := sd hr0_2
 have HC0_2 := sd hc0_2
 clear hr0_2 hc0_2
 have HR1_2 := sd hr1_2
 have HC1_2 := sd hc1_2
 clear hr1_2 hc1_2
 have HB := sd (Below.refl w.heap.size w)
 have H := h
 clear h
 unfold rf24_Same.f at H
 have HC3 := sd H
 clear H
 go_enter Tryd.func20, Tryd.ntmps20
 go_upto_region 1 with (first | ((with_reducible refine gate_dst (N := 2) rfl ?_); (try (refine gate_guard (by rfl) ?_; dsimp only)); refine bxA 2 #[.int .i64 a0_0, .bool a0_1, .slice A0_2 l0_2.length c0_2] 24 ?_; intro gb277 hg w4 hbox hb; have BK277 := sd (hbox); have GW277 := gem hg HB; have GE277 := GW277; replace HB := hbm HB hb; clear hb hbox hg) | ((with_reducible refine gate_dst (N := 3) rfl ?_); (try (refine gate_guard (by rfl) ?_; dsimp only)); refine bxA 3 #[.int .i64 a1_0, .bool a1_1, .slice A1_2 l1_2.length c1_2] 24 ?_; intro gb278 hg w5 hbox hb; have BK278 := sd (hbox); have GW278 := gem hg HB; have GE278 := GW278; have NB277_278 := nlm hg BK277; have NB278_277 := ngm hg BK277; replace BK277 := bkm BK277 hb; replace HB := hbm HB hb; clear hb hbox hg))
 repeat (go_quiet (first | ((with_reducible refine gate_dst (N := 2) rfl ?_); (try (refine gate_guard (by rfl) ?_; dsimp only)); refine bxA 2 #[.int .i64 a0_0, .bool a0_1, .slice A0_2 l0_2.length c0_2] 24 ?_; intro gb277 hg w4 hbox hb; have BK277 := sd (hbox); have GW277 := gem hg HB; have GE277 := GW277; replace HB := hbm HB hb; clear hb hbox hg) | ((with_reducible refine gate_dst (N := 3) rfl ?_); (try (refine gate_guard (by rfl) ?_; dsimp only)); refine bxA 3 #[.int .i64 a1_0, .bool a1_1, .slice A1_2 l1_2.length c1_2] 24 ?_; intro gb278 hg w5 hbox hb; have BK278 := sd (hbox); have GW278 := gem hg HB; have GE278 := GW278; have NB277_278 := nlm hg BK277; have NB278_277 := ngm hg BK277; replace BK277 := bkm BK277 hb; replace HB := hbm HB hb; clear hb hbox hg)); go_upto_region 1 with (first | ((with_reducible refine gate_dst (N := 2) rfl ?_); (try (refine gate_guard (by rfl) ?_; dsimp only)); refine bxA 2 #[.int .i64 a0_0, .bool a0_1, .slice A0_2 l0_2.length c0_2] 24 ?_; intro gb277 hg w4 hbox hb; have BK277 := sd (hbox); have GW277 := gem hg HB; have GE277 := GW277; replace HB := hbm HB hb; clear hb hbox hg) | ((with_reducible refine gate_dst (N := 3) rfl ?_); (try (refine gate_guard (by rfl) ?_; dsimp only)); refine bxA 3 #[.int .i64 a1_0, .bool a1_1, .slice A1_2 l1_2.length c1_2] 24 ?_; intro gb278 hg w5 hbox hb; have BK278 := sd (hbox); have GW278 := gem hg HB; have GE278 := GW278; have NB277_278 := nlm hg BK277; have NB278_277 := ngm hg BK277; replace BK277 := bkm BK277 hb; replace HB := hbm HB hb; clear hb hbox hg)))
 (try simp only [Act.put, List.setIfInBounds_toArray, List.set_cons_zero, List.set_cons_succ])
 go_cut [26] (fun v26 wc => ∃ (kq : Nat) (x26_2 : Bool), v26 = .bool x26_2 ∧ Aside0 (rf24_Same.j0 kq x26_2 a0_0 a0_1 l0_2 a1_0 a1_1 l1_2 = some r) ∧ Aside0 (kq ≤ k) ∧ Aside0 (wc.heap[gb277]? = some (.cells #[.int .i64 a0_0, .bool a0_1, (.slice A0_2 l0_2.length c0_2)] 24 (0, 0))) ∧ Aside0 (wc.heap[gb278]? = some (.cells #[.int .i64 a1_0, .bool a1_1, (.slice A1_2 l1_2.length c1_2)] 24 (0, 0))) ∧ Aside0 (Below w.heap.size w wc))
 case first =>
  have H := HC3.out
  clear HC3
  replace H := ifI H
  rcases H with ⟨c6, H⟩ | ⟨c6, H⟩
  ·obtain ⟨c6b0, c6b1⟩ := eqI c6
   clear c6
   (first | rw [c6b0] | (simp only [i64_w, i32_w]; rw [c6b0]) | skip)
   replace H := ifI H
   rcases H with ⟨c7, H⟩ | ⟨c7, H⟩
   ·have c7b0 : (a0_1 != a1_1) = true := c7
    (try (have c7b1 : decide (a0_1 = a1_1) = false := by simpa using c7))
    (try (have c7b2 : (a0_1 == a1_1) = false := by simpa using c7))
    (try (have c7b3 : ¬ (a0_1 = a1_1) := by simpa using c7))
    clear c7
    have H' := sd H
    clear H
    have hnb8 := NB277_278.out
    have hnc8 := NB278_277.out
    obtain ⟨_, _, _, _, _, _⟩ := bk3 BK277
    obtain ⟨_, _, _, _, _, _⟩ := bk3 BK278
    go_wp2
    repeat (go_quiet (fail); try go_wp2)
    go_meet
    case rel => exact ⟨_, (true), zq1, H', ⟨by first | omega | exact Nat.le_refl _⟩, ⟨zq20⟩, ⟨zq21⟩, ⟨zq22⟩⟩
   have c7b0 : (a0_1 != a1_1) = false := by simpa using c7
   (try (have c7b1 : decide (a0_1 = a1_1) = true := by simpa using c7))
   (try (have c7b2 : (a0_1 == a1_1) = true := by simpa using c7))
   clear c7
   have H' := sd H
   clear H
   have hnb11 := NB277_278.out
   have hnc11 := NB278_277.out
   obtain ⟨_, _, _, _, _, _⟩ := bk3 BK277
   obtain ⟨_, _, _, _, _, _⟩ := bk3 BK278
   go_wp2
   repeat (go_quiet (fail); try go_wp2)
   go_meet
   case rel => exact ⟨_, (((l0_2.length : Int) != (l1_2.length : Int))), zq1, H', ⟨by first | omega | exact Nat.le_refl _⟩, ⟨zq20⟩, ⟨zq21⟩, ⟨zq22⟩⟩
  obtain ⟨c6b0, c6b1⟩ := neI c6
  (first | rw [c6b0] | (simp only [i64_w, i32_w]; rw [c6b0]) | skip)
  have H' := sd H
  clear H
  have hnb14 := NB277_278.out
  have hnc14 := NB278_277.out
  obtain ⟨_, _, _, _, _, _⟩ := bk3 BK277
  obtain ⟨_, _, _, _, _, _⟩ := bk3 BK278
  go_wp2
  repeat (go_quiet (fail); try go_wp2)
  go_meet
  case rel => exact ⟨_, (true), zq1, H', ⟨by first | omega | exact Nat.le_refl _⟩, ⟨zq20⟩, ⟨zq21⟩, ⟨zq22⟩⟩
 case rest =>
  clear HC3
  try clear c1
  try clear c2
  try clear p2
  try clear c6
  try clear c6b0
  try clear c6b1
  try clear c7
  try clear c7b0
  try clear c7b1
  try clear c7b2
  try clear c8
  try clear c11
  try clear c14
  try clear hcz10_0
  try clear hcz10_1
  try clear hcz10_2
  try clear hcz12_0
  try clear hcz12_1
  try clear hcz12_2
  try clear hcz13_0
  try clear hcz13_1
  try clear hcz13_2
  try clear hcz15_0
  try clear hcz15_1
  try clear hcz15_2
  try clear hcz16_0
  try clear hcz16_1
  try clear hcz16_2
  try clear hcz9_0
  try clear hcz9_1
  try clear hcz9_2
  try clear hfz10_0
  try clear hfz10_1
  try clear hfz10_2
  try clear hfz12_0
  try clear hfz12_1
  try clear hfz12_2
  try clear hfz13_0
  try clear hfz13_1
  try clear hfz13_2
  try clear hfz15_0
  try clear hfz15_1
  try clear hfz15_2
  try clear hfz16_0
  try clear hfz16_1
  try clear hfz16_2
  try clear hfz9_0
  try clear hfz9_1
  try clear hfz9_2
  obtain ⟨kq, x26_2, rfl, HA, HJ2, BK277, BK278, HB⟩ := hcut
  cases kq with
  | zero => exact absurd HA.out (by simp [rf24_Same.j0])
  | succ kj2 =>
   have H := HA.out
   clear HA
   simp only [rf24_Same.j0] at H
   by_cases c17 : x26_2 = true
   ·subst c17
    rw [if_pos rfl] at H
    obtain rfl := Option.some.inj H
    go_wp2
    repeat (go_quiet (fail); try go_wp2)
    go_ret
    exact ⟨zq8, zq22⟩
   replace c17 := Bool.eq_false_iff.mpr c17
   subst c17
   rw [if_neg Bool.false_ne_true] at H
   have H' := sd H
   clear H
   go_wp2
   repeat (go_quiet (fail); try go_wp2)
   go_loopg [5] kj2 (fun kq v5 w' => ∃ (x5_2 : Int), v5 = .int .i64 x5_2 ∧ Aside0 (rf24_Same.l0 kq x5_2 a0_0 a0_1 l0_2 a1_0 a1_1 l1_2 = some r) ∧ Aside0 (kq ≤ kj2) ∧ Aside0 (w'.heap[gb277]? = some (.cells #[.int .i64 a0_0, .bool a0_1, (.slice A0_2 l0_2.length c0_2)] 24 (0, 0))) ∧ Aside0 (w'.heap[gb278]? = some (.cells #[.int .i64 a1_0, .bool a1_1, (.slice A1_2 l1_2.length c1_2)] 24 (0, 0))) ∧ Aside0 (Below w.heap.size w w'))
   case atStart => exact ⟨(0), zq1, H', ⟨Nat.le_refl _⟩, ⟨zq20⟩, ⟨zq21⟩, ⟨zq22⟩⟩
   case round =>
    clear H'
    try clear c1
    try clear c2
    try clear p2
    try clear c6
    try clear c6b0
    try clear c6b1
    try clear c7
    try clear c7b0
    try clear c7b1
    try clear c7b2
    try clear c8
    try clear c11
    try clear c14
    try clear c17
    try clear hcz10_0
    try clear hcz10_1
    try clear hcz10_2
    try clear hcz12_0
    try clear hcz12_1
    try clear hcz12_2
    try clear hcz13_0
    try clear hcz13_1
    try clear hcz13_2
    try clear hcz15_0
    try clear hcz15_1
    try clear hcz15_2
    try clear hcz16_0
    try clear hcz16_1
    try clear hcz16_2
    try clear hcz9_0
    try clear hcz9_1
    try clear hcz9_2
    try clear hfz10_0
    try clear hfz10_1
    try clear hfz10_2
    try clear hfz12_0
    try clear hfz12_1
    try clear hfz12_2
    try clear hfz13_0
    try clear hfz13_1
    try clear hfz13_2
    try clear hfz15_0
    try clear hfz15_1
    try clear hfz15_2
    try clear hfz16_0
    try clear hfz16_1
    try clear hfz16_2
    try clear hfz9_0
    try clear hfz9_1
    try clear hfz9_2
    try clear p2
    obtain ⟨x5_2, rfl, HA, HK2, BK277, BK278, HB⟩ := hrel
    cases gk with
    | zero => exact absurd HA.out (by simp [rf24_Same.l0])
    | succ k2 =>
     have H := HA.out
     clear HA
     simp only [rf24_Same.l0] at H
     replace H := ifI H
     rcases H with ⟨c18, H⟩ | ⟨c18, H⟩
     ·have c18b0 : decide (x5_2 < (l0_2.length : Int)) = true := decide_eq_true c18
      clear c18
      replace H := ifI H
      rcases H with ⟨c19, H⟩ | ⟨c19, H⟩
      ·have c19b0 : decide (0 ≤ x5_2) = true := decide_eq_true c19
       clear c19
       replace H := ifI H
       rcases H with ⟨c20, H⟩ | ⟨c20, H⟩
       ·have c20b0 : decide (x5_2 < (l1_2.length : Int)) = true := decide_eq_true c20
        clear c20
        replace H := ifI H
        rcases H with ⟨c21, H⟩ | ⟨c21, H⟩
        ·have c21b0 : (!(((rd_T53 l0_2 x5_2).f0) == ((rd_T53 l1_2 x5_2).f0)) || ((!(((rd_T53 l0_2 x5_2).f1.f0) == ((rd_T53 l1_2 x5_2).f1.f0)) || (!(((rd_T53 l0_2 x5_2).f1.f1) == ((rd_T53 l1_2 x5_2).f1.f1)))))) = true := c21
         clear c21
         obtain rfl := Option.some.inj H
         have hnb22 := NB277_278.out
         have hnc22 := NB278_277.out
         obtain ⟨_, _, _, _, _, _⟩ := bk3 BK277
         have p279 : 0 ≤ (x5_2 : Int) := od
         have q279 : x5_2 < (l0_2.length : Int) := od
         obtain ⟨ad279, e279, hx279_0, hx279_1, hx279_2⟩ := at_T53 HR0_2.out x5_2 p279 q279
         cases e279
         replace hx279_0 := (HB.out.cell (World.block_lt_of_cell? w _ hx279_0)).trans hx279_0
         replace hx279_1 := (HB.out.cell (World.block_lt_of_cell? w _ hx279_1)).trans hx279_1
         replace hx279_2 := (HB.out.cell (World.block_lt_of_cell? w _ hx279_2)).trans hx279_2
         replace p279 := eq_true p279
         replace q279 := eq_true q279
         obtain ⟨_, _, _, _, _, _⟩ := bk3 BK278
         have p280 : 0 ≤ (x5_2 : Int) := od
         have q280 : x5_2 < (l1_2.length : Int) := od
         obtain ⟨ad280, e280, hx280_0, hx280_1, hx280_2⟩ := at_T53 HR1_2.out x5_2 p280 q280
         cases e280
         replace hx280_0 := (HB.out.cell (World.block_lt_of_cell? w _ hx280_0)).trans hx280_0
         replace hx280_1 := (HB.out.cell (World.block_lt_of_cell? w _ hx280_1)).trans hx280_1
         replace hx280_2 := (HB.out.cell (World.block_lt_of_cell? w _ hx280_2)).trans hx280_2
         replace p280 := eq_true p280
         replace q280 := eq_true q280
         go_wp2
         repeat (go_quiet (fail); try go_wp2)
         go_ret
         exact ⟨zq8, zq22⟩
        have c21b0 : (!(((rd_T53 l0_2 x5_2).f0) == ((rd_T53 l1_2 x5_2).f0)) || ((!(((rd_T53 l0_2 x5_2).f1.f0) == ((rd_T53 l1_2 x5_2).f1.f0)) || (!(((rd_T53 l0_2 x5_2).f1.f1) == ((rd_T53 l1_2 x5_2).f1.f1)))))) = false := by simpa using c21
        clear c21
        have H' := sd H
        clear H
        have hnb25 := NB277_278.out
        have hnc25 := NB278_277.out
        obtain ⟨_, _, _, _, _, _⟩ := bk3 BK277
        have p279 : 0 ≤ (x5_2 : Int) := od
        have q279 : x5_2 < (l0_2.length : Int) := od
        obtain ⟨ad279, e279, hx279_0, hx279_1, hx279_2⟩ := at_T53 HR0_2.out x5_2 p279 q279
        cases e279
        replace hx279_0 := (HB.out.cell (World.block_lt_of_cell? w _ hx279_0)).trans hx279_0
        replace hx279_1 := (HB.out.cell (World.block_lt_of_cell? w _ hx279_1)).trans hx279_1
        replace hx279_2 := (HB.out.cell (World.block_lt_of_cell? w _ hx279_2)).trans hx279_2
        replace p279 := eq_true p279
        replace q279 := eq_true q279
        obtain ⟨_, _, _, _, _, _⟩ := bk3 BK278
        have p280 : 0 ≤ (x5_2 : Int) := od
        have q280 : x5_2 < (l1_2.length : Int) := od
        obtain ⟨ad280, e280, hx280_0, hx280_1, hx280_2⟩ := at_T53 HR1_2.out x5_2 p280 q280
        cases e280
        replace hx280_0 := (HB.out.cell (World.block_lt_of_cell? w _ hx280_0)).trans hx280_0
        replace hx280_1 := (HB.out.cell (World.block_lt_of_cell? w _ hx280_1)).trans hx280_1
        replace hx280_2 := (HB.out.cell (World.block_lt_of_cell? w _ hx280_2)).trans hx280_2
        replace p280 := eq_true p280
        replace q280 := eq_true q280
        go_wp2
        repeat (go_quiet (fail); try go_wp2)
        go_roundg k2
        case measure => have := HJ2.out; have := HK2.out; omega
        case rel => exact ⟨(wrap64 (x5_2 + 1)), zq1, H', ⟨by have := HJ2.out; have := HK2.out; omega⟩, ⟨zq20⟩, ⟨zq21⟩, ⟨zq22⟩⟩
       exact absurd H (by simp)
      exact absurd H (by simp)
     have c18b0 : decide (x5_2 < (l0_2.length : Int)) = false := decide_eq_false c18
     clear c18
     obtain rfl := Option.some.inj H
     have hnb28 := NB277_278.out
     have hnc28 := NB278_277.out
     obtain ⟨_, _, _, _, _, _⟩ := bk3 BK277
     go_wp2
     repeat (go_quiet (fail); try go_wp2)
     go_ret
     exact ⟨zq8, zq22⟩
end Go.Proofs.YtelfiofnhchmbaaDoor.A
namespace Go.Proofs.YtelfiofnhchmbaaDoor.A
open Go.RowKit Go.Proofs.YtelfiofnhchmbaaDoor.B Go.Proofs.YtelfiofnhchmbaaDoorW.PrintWords Go.Proofs.YtelfiofnhchmbaaDoorW.PrintLast Go.Proofs.YtelfiofnhchmbaaDoorW.PrintMore
attribute [local go_sem] max2_int min2_int max_two min_two max_three min_three max_four min_four
set_option linter.unusedVariables false
set_option linter.unusedSimpArgs false
set_option maxHeartbeats 8000000
set_option maxRecDepth 100000
def lw24_usual.f  : Option (Int × Bool × (List (S53))) := some (30, false, (([(⟨10, (⟨3, 100⟩ : S38)⟩ : S53), (⟨20, (⟨1, 50⟩ : S38)⟩ : S53)] : List (S53))))
theorem lw24_usual.calls  (r1 : Int) (r2 : Bool) (r3 : List (S53)) (w : World) (h : lw24_usual.f  = some (r1, r2, r3)) :
  Calls Tryd.prog 21 #[] w fun e w' => ∃ v2_ : Value, e = .returned (.agg #[.int .i64 r1, .bool r2, v2_]) ∧ Kd.R k53 53 w' w.heap.size (fun _ => True) v2_ r3 ∧ Below w.heap.size w w' := by
 have hu24 := Tryd.underlying24
 have hu38 := Tryd.underlying38
 have hu53 := Tryd.underlying53
 have HB := sd (Below.refl w.heap.size w)
 have H := h
 clear h
 unfold lw24_usual.f at H
 obtain ⟨y282, hy282⟩ : ∃ y_ : List (S53), y_ = (([(⟨10, (⟨3, 100⟩ : S38)⟩ : S53), (⟨20, (⟨1, 50⟩ : S38)⟩ : S53)] : List (S53))) := ⟨_, rfl⟩
 replace H : (some (30, false, y282)) = some (r1, r2, r3) := by first | (rw [hy282]; with_reducible exact H) | (have H2_ := (Option.bind_some _ _).symm.trans H; rw [hy282]; with_reducible exact H2_) | (have H2_ := (Option.bind_some _ _).symm.trans H; with_reducible exact H2_) | with_reducible exact H | (rw [hy282]; exact H) | exact H
 have Ny282 := sd hy282
 clear hy282
 simp only [Option.some.injEq, Prod.mk.injEq] at H
 obtain ⟨rfl, rfl, rfl⟩ := H
 go_enter Tryd.func21, Tryd.ntmps21
 go_wp2_with (first | ((with_reducible refine gate_dst (N := 0) rfl ?_); refine bxA 0 #[.int .i64 0, .bool false, .slice none 0 0] 24 ?_; intro gb281 hg w1 hbox hb; have BK281 := sd (hbox); have GW281 := gem hg HB; have GE281 := GW281; replace HB := hbm HB hb; clear hb hbox hg) | ((with_reducible refine gate_dst (N := 5) rfl ?_); refine Kd.R_lit k53 _ 53 ?hg (N := 5) ?hd (xs := ([(⟨10, (⟨3, 100⟩ : S38)⟩ : S53), (⟨20, (⟨1, 50⟩ : S38)⟩ : S53)] : List (S53))) (inner := [.int .i64 10, .int .i64 3, .int .i64 100, .int .i64 20, .int .i64 1, .int .i64 50]) (ok := fun _ => True) (okp := fun _ => True) ?hr ?hp (fun _ hk => hk) trivial (Below.refl _ _) (Nat.le_refl _) (by simp) ?_; (case hd => rfl); (case hg => rfl); (case hr => first | (go_simp; done) | (go_simp; rfl)); (case hp => exact (Reps.c3 (show Kd.M k53 _ _ _ (⟨10, (⟨3, 100⟩ : S38)⟩ : S53) [.int .i64 10, .int .i64 3, .int .i64 100] from (k53_mkM _ _ _ (⟨10, (⟨3, 100⟩ : S38)⟩ : S53) )) (Reps.c3 (show Kd.M k53 _ _ _ (⟨20, (⟨1, 50⟩ : S38)⟩ : S53) [.int .i64 20, .int .i64 1, .int .i64 50] from (k53_mkM _ _ _ (⟨20, (⟨1, 50⟩ : S38)⟩ : S53) )) (Reps.none _ _)))); intro v283 w2 ho3 hb hg_ hnew_; clear hg_ hnew_; (first | rw [← Ny282.out] at ho3 | (simp only [Int.reduceToNat] at ho3; rw [← Ny282.out] at ho3)); have HO284 := sd (Kd.R_lower ho3 (below_size (by repeat (first | (with_reducible first | exact HB.out | apply below_alloc | apply pw_below_drewN | apply below_drew1 | refine below_set ?_ GE281.out) | exact HB.out)))); replace BK281 := bkm BK281 hb; replace HB := hbm HB hb; clear hb ho3; obtain ⟨Ao4, co4, eo4⟩ := Kd.R_slice HO284.out; subst eo4; obtain ⟨_, _, _, _, _, _⟩ := bk3 BK281))
 refine bodyPost_ret (results_cell_row rfl _ _ gb281 24 #[.int .i64 30, .bool false, .slice Ao4 y282.length co4] (0, 0) _ rfl (by (with_reducible repeat (first | refine blk_drewN ?_ _ | refine blk_drew ?_ | refine blk_alloc ?_ _)); refine blk_put (cs := #[.int .i64 30, .bool false, .slice none 0 0]) ?_ 2 _ rfl; (with_reducible repeat (first | refine blk_drewN ?_ _ | refine blk_drew ?_ | refine blk_alloc ?_ _)); refine blk_put (cs := #[.int .i64 30, .bool false, .slice none 0 0]) ?_ 1 _ rfl; (with_reducible repeat (first | refine blk_drewN ?_ _ | refine blk_drew ?_ | refine blk_alloc ?_ _)); refine blk_put (cs := #[.int .i64 0, .bool false, .slice none 0 0]) ?_ 0 _ rfl; (with_reducible repeat (first | refine blk_drewN ?_ _ | refine blk_drew ?_ | refine blk_alloc ?_ _)); exact BK281.out) Tryd.underlying24 rfl (by kernel_rfl)) rfl ?_
 exact ⟨_, zq8, by (with_reducible repeat (first | apply Kd.R_alloc | apply Kd.R_drewN | apply Kd.R_drew)); exact Kd.R_mono (Kd.R_far (p := ⟨gb281, 2, none⟩) (Kd.R_far (p := ⟨gb281, 1, none⟩) (Kd.R_far (p := ⟨gb281, 0, none⟩) (Kd.R_types HO284.out BK281.out (by decide)) (fun _ hk => hk.2) (.int .i64 30)) (fun _ hk => hk.2) (.bool false)) (fun _ hk => hk.2) (.slice Ao4 y282.length co4)) (fun _ hk => trivial), by repeat (first | (with_reducible first | exact HB.out | apply below_alloc | apply pw_below_drewN | apply below_drew1 | refine below_set ?_ GE281.out) | exact HB.out)⟩
def livesU : List S53 := [⟨10, ⟨3, 100⟩⟩, ⟨20, ⟨1, 50⟩⟩]
theorem lives_walk (w : World) (hG : Gl w) 
  (C1 : Aside0 (∀ W, Calls Tryd.prog 21 #[] W fun e w' => ∃ v : Value, e = .returned (.agg #[.int .i64 30, .bool false, v]) ∧ Kd.R k53 53 w' W.heap.size (fun _ => True) v livesU ∧ Below W.heap.size W w'))
  (C2 : Aside0 (∀ W A c, Kd.C k53 W A livesU.length livesU → livesU.length ≤ c → Gl W → Calls Tryd.prog 14 #[.agg #[.int .i64 30, .bool false, .slice A livesU.length c], .int .i64 46000] W fun e w' => e = .returned (.tuple #[.int .i64 46030, .int .i64 0]) ∧ Below W.heap.size W w'))
  (C3 : Aside0 (∀ W A c, Kd.C k53 W A livesU.length livesU → livesU.length ≤ c → Gl W → Calls Tryd.prog 16 #[.agg #[.int .i64 30, .bool false, .slice A livesU.length c], .int .i64 46000, .int .i64 46015] W fun e w' => e = .returned (.tuple #[.agg #[.int .i64 1, .int .i64 50], .int .i64 0]) ∧ Below W.heap.size W w'))
  (C4 : Aside0 (∀ W A c, Kd.C k53 W A livesU.length livesU → livesU.length ≤ c → Gl W → Calls Tryd.prog 16 #[.agg #[.int .i64 30, .bool false, .slice A livesU.length c], .int .i64 46000, .int .i64 46021] W fun e w' => e = .returned (.tuple #[.agg #[.int .i64 0, .int .i64 1], .int .i64 0]) ∧ Below W.heap.size W w'))
  (C5 : Aside0 (∀ W A c, Kd.C k53 W A livesU.length livesU → livesU.length ≤ c → Calls Tryd.prog 10 #[.agg #[.int .i64 30, .bool false, .slice A livesU.length c]] W fun e w' => e = .returned (.tuple #[.string ⟨#[51, 47, 49, 48, 48, 32, 49, 48, 32, 49, 47, 53, 48, 32, 50, 48, 32, 110, 101, 116, 32, 51, 48]⟩, .int .i64 0]) ∧ Below W.heap.size W w'))
  (C6 : Aside0 (∀ W, Calls Tryd.prog 18 #[.string ⟨#[101, 111, 109, 32, 49, 48]⟩] W fun e w' => ∃ v : Value, e = .returned (.tuple #[.agg #[.int .i64 10, .bool true, v], .int .i64 0]) ∧ Kd.R k53 53 w' W.heap.size (fun _ => True) v [] ∧ Below W.heap.size W w'))
  (C7 : Aside0 (∀ W A c, Kd.C k53 W A 0 [] → 0 ≤ c → Gl W → Calls Tryd.prog 14 #[.agg #[.int .i64 10, .bool true, .slice A 0 c], .int .i64 45000] W fun e w' => e = .returned (.tuple #[.int .i64 45024, .int .i64 0]) ∧ Below W.heap.size W w'))
  (C8 : Aside0 (∀ W, Calls Tryd.prog 18 #[.string ⟨#[48, 46, 48, 51, 32, 49, 48, 32, 110, 101, 116, 32, 51, 48]⟩] W fun e w' => ∃ v : Value, e = .returned (.tuple #[.agg #[.int .i64 0, .bool false, v], .int .i64 5]) ∧ Kd.R k53 53 w' W.heap.size (fun _ => True) v [] ∧ Below W.heap.size W w'))
  (C9 : Aside0 (∀ W A c A' c', Kd.C k53 W A 0 [] → 0 ≤ c → Kd.C k53 W A' 0 [] → 0 ≤ c' → Calls Tryd.prog 20 #[.agg #[.int .i64 10, .bool true, .slice A 0 c], .agg #[.int .i64 10, .bool true, .slice A' 0 c']] W fun e w' => e = .returned (.bool true) ∧ Below W.heap.size W w'))
  (C10 : Aside0 (∀ W A c, Kd.C k53 W A livesU.length livesU → livesU.length ≤ c → Calls Tryd.prog 12 #[.agg #[.int .i64 30, .bool false, .slice A livesU.length c]] W fun e w' => e = .returned (.bool true) ∧ Below W.heap.size W w')) :
  Calls Tryd.prog 9 #[] w fun e w' => e = .returned (.bool true) ∧ Below w.heap.size w w' := by
 have HPost : ∀ W, Below w.heap.size w W → (fun (e : Ending) (w' : World) => e = .returned (.bool true) ∧ Below w.heap.size w w') (.returned (.bool true)) W := fun W hW => ⟨rfl, hW⟩
 generalize (fun (e : Ending) (w' : World) => e = .returned (.bool true) ∧ Below w.heap.size w w') = Post at HPost ⊢
 have HP := sd HPost
 have HG := sd hG
 clear HPost hG
 go_enter Tryd.func9, Tryd.ntmps9
 go_wp2_with fail
 refine (C1.out _).mono ?_
 rintro e W1 ⟨v, rfl, hR, hb⟩
 obtain ⟨A, c, rfl, hl, hC⟩ := Kd.R_reads hR
 have HC1 := sd hC
 have HB := sd (below_step (Below.refl w.heap.size w) hb)
 have HL := sd hl
 clear hR hb hC hl
 go_wp2_with fail
 have n_ := sd (Kd.C_below HC1.out (below_alloc (Below.refl _ _) (.cells #[.int .i64 30, .bool false, .slice A livesU.length c] 24)))
 clear HC1
 have HC1 := n_
 clear n_
 have n_ := sd (below_alloc HB.out (.cells #[.int .i64 30, .bool false, .slice A livesU.length c] 24))
 clear HB
 have HB := n_
 clear n_
 have B1 := sd (blk_new W1 (.cells #[.int .i64 30, .bool false, .slice A livesU.length c] 24))
 have hz_B1 : W1.heap.size < (W1.alloc (.cells #[.int .i64 30, .bool false, .slice A livesU.length c] 24)).heap.size := by simp
 obtain ⟨gB1, hgB1⟩ : ∃ g, W1.heap.size = g := ⟨_, rfl⟩
 rw [hgB1] at B1 ⊢
 generalize W1.alloc (.cells #[.int .i64 30, .bool false, .slice A livesU.length c] 24) = W1b at HC1 HB B1 ⊢
 clear hgB1 hz_B1
 have B1k0 : W1b.cell? ⟨gB1, 0, none⟩ = some (.int .i64 30) := blk_cell B1.out 0
 have B1k1 : W1b.cell? ⟨gB1, 1, none⟩ = some (.bool false) := blk_cell B1.out 1
 have B1k2 : W1b.cell? ⟨gB1, 2, none⟩ = some (.slice A livesU.length c) := blk_cell B1.out 2
 have B1l : gB1 < W1b.heap.size := blk_lt B1.out
 clear B1k0 B1k1 B1k2 B1l
 refine (C2.out _ _ _ HC1.out HL.out (gl_below HG.out HB.out)).mono ?_
 rintro e W2 ⟨rfl, hb⟩
 have n_ := sd (Kd.C_below HC1.out hb)
 clear HC1
 have HC1 := n_
 clear n_
 have n_ := sd (below_step HB.out hb)
 clear HB
 have HB := n_
 clear n_
 have n_ := sd (blk_below B1.out hb)
 clear B1
 have B1 := n_
 clear n_
 clear hb
 have B1k0 : W2.cell? ⟨gB1, 0, none⟩ = some (.int .i64 30) := blk_cell B1.out 0
 have B1k1 : W2.cell? ⟨gB1, 1, none⟩ = some (.bool false) := blk_cell B1.out 1
 have B1k2 : W2.cell? ⟨gB1, 2, none⟩ = some (.slice A livesU.length c) := blk_cell B1.out 2
 have B1l : gB1 < W2.heap.size := blk_lt B1.out
 go_wp2_with fail
 clear B1k0 B1k1 B1k2 B1l
 refine (C3.out _ _ _ HC1.out HL.out (gl_below HG.out HB.out)).mono ?_
 rintro e W3 ⟨rfl, hb⟩
 have n_ := sd (Kd.C_below HC1.out hb)
 clear HC1
 have HC1 := n_
 clear n_
 have n_ := sd (below_step HB.out hb)
 clear HB
 have HB := n_
 clear n_
 have n_ := sd (blk_below B1.out hb)
 clear B1
 have B1 := n_
 clear n_
 clear hb
 have B1k0 : W3.cell? ⟨gB1, 0, none⟩ = some (.int .i64 30) := blk_cell B1.out 0
 have B1k1 : W3.cell? ⟨gB1, 1, none⟩ = some (.bool false) := blk_cell B1.out 1
 have B1k2 : W3.cell? ⟨gB1, 2, none⟩ = some (.slice A livesU.length c) := blk_cell B1.out 2
 have B1l : gB1 < W3.heap.size := blk_lt B1.out
 go_wp2_with fail
 clear B1k0 B1k1 B1k2 B1l
 have n_ := sd (Kd.C_below HC1.out (below_alloc (Below.refl _ _) (.cells #[.int .i64 1, .int .i64 50] 38)))
 clear HC1
 have HC1 := n_
 clear n_
 have n_ := sd (below_alloc HB.out (.cells #[.int .i64 1, .int .i64 50] 38))
 clear HB
 have HB := n_
 clear n_
 have n_ := sd (blk_alloc B1.out (.cells #[.int .i64 1, .int .i64 50] 38))
 clear B1
 have B1 := n_
 clear n_
 have B4 := sd (blk_new W3 (.cells #[.int .i64 1, .int .i64 50] 38))
 have hz_B4 : W3.heap.size < (W3.alloc (.cells #[.int .i64 1, .int .i64 50] 38)).heap.size := by simp
 obtain ⟨gB4, hgB4⟩ : ∃ g, W3.heap.size = g := ⟨_, rfl⟩
 rw [hgB4] at B4 ⊢
 generalize W3.alloc (.cells #[.int .i64 1, .int .i64 50] 38) = W3b at HC1 HB B1 B4 ⊢
 clear hgB4 hz_B4
 refine (C4.out _ _ _ HC1.out HL.out (gl_below HG.out HB.out)).mono ?_
 rintro e W4 ⟨rfl, hb⟩
 have n_ := sd (Kd.C_below HC1.out hb)
 clear HC1
 have HC1 := n_
 clear n_
 have n_ := sd (below_step HB.out hb)
 clear HB
 have HB := n_
 clear n_
 have n_ := sd (blk_below B1.out hb)
 clear B1
 have B1 := n_
 clear n_
 have n_ := sd (blk_below B4.out hb)
 clear B4
 have B4 := n_
 clear n_
 clear hb
 have B1k0 : W4.cell? ⟨gB1, 0, none⟩ = some (.int .i64 30) := blk_cell B1.out 0
 have B1k1 : W4.cell? ⟨gB1, 1, none⟩ = some (.bool false) := blk_cell B1.out 1
 have B1k2 : W4.cell? ⟨gB1, 2, none⟩ = some (.slice A livesU.length c) := blk_cell B1.out 2
 have B1l : gB1 < W4.heap.size := blk_lt B1.out
 go_wp2_with fail
 clear B1k0 B1k1 B1k2 B1l
 have n_ := sd (Kd.C_below HC1.out (below_alloc (Below.refl _ _) (.cells #[.int .i64 0, .int .i64 1] 38)))
 clear HC1
 have HC1 := n_
 clear n_
 have n_ := sd (below_alloc HB.out (.cells #[.int .i64 0, .int .i64 1] 38))
 clear HB
 have HB := n_
 clear n_
 have n_ := sd (blk_alloc B1.out (.cells #[.int .i64 0, .int .i64 1] 38))
 clear B1
 have B1 := n_
 clear n_
 have n_ := sd (blk_alloc B4.out (.cells #[.int .i64 0, .int .i64 1] 38))
 clear B4
 have B4 := n_
 clear n_
 have B6 := sd (blk_new W4 (.cells #[.int .i64 0, .int .i64 1] 38))
 have hz_B6 : W4.heap.size < (W4.alloc (.cells #[.int .i64 0, .int .i64 1] 38)).heap.size := by simp
 obtain ⟨gB6, hgB6⟩ : ∃ g, W4.heap.size = g := ⟨_, rfl⟩
 rw [hgB6] at B6 ⊢
 generalize W4.alloc (.cells #[.int .i64 0, .int .i64 1] 38) = W4b at HC1 HB B1 B4 B6 ⊢
 clear hgB6 hz_B6
 refine (C5.out _ _ _ HC1.out HL.out).mono ?_
 rintro e W5 ⟨rfl, hb⟩
 have n_ := sd (Kd.C_below HC1.out hb)
 clear HC1
 have HC1 := n_
 clear n_
 have n_ := sd (below_step HB.out hb)
 clear HB
 have HB := n_
 clear n_
 have n_ := sd (blk_below B1.out hb)
 clear B1
 have B1 := n_
 clear n_
 have n_ := sd (blk_below B4.out hb)
 clear B4
 have B4 := n_
 clear n_
 have n_ := sd (blk_below B6.out hb)
 clear B6
 have B6 := n_
 clear n_
 clear hb
 go_wp2_with fail
 refine (C6.out _).mono ?_
 rintro e W6 ⟨v6, rfl, hR, hb⟩
 obtain ⟨A6, c6, rfl, hl6, hC6⟩ := Kd.R_reads hR
 have n_ := sd (Kd.C_below HC1.out hb)
 clear HC1
 have HC1 := n_
 clear n_
 have n_ := sd (below_step HB.out hb)
 clear HB
 have HB := n_
 clear n_
 have n_ := sd (blk_below B1.out hb)
 clear B1
 have B1 := n_
 clear n_
 have n_ := sd (blk_below B4.out hb)
 clear B4
 have B4 := n_
 clear n_
 have n_ := sd (blk_below B6.out hb)
 clear B6
 have B6 := n_
 clear n_
 have HC6 := sd hC6
 have HL6 := sd hl6
 clear hR hb hC6 hl6
 rw [show ([] : List S53).length = 0 from rfl] at HC6 HL6
 rw [show ([] : List S53).length = 0 from rfl]
 go_wp2_with fail
 have n_ := sd (Kd.C_below HC1.out (below_alloc (Below.refl _ _) (.cells #[.int .i64 10, .bool true, .slice A6 0 c6] 24)))
 clear HC1
 have HC1 := n_
 clear n_
 have n_ := sd (below_alloc HB.out (.cells #[.int .i64 10, .bool true, .slice A6 0 c6] 24))
 clear HB
 have HB := n_
 clear n_
 have n_ := sd (blk_alloc B1.out (.cells #[.int .i64 10, .bool true, .slice A6 0 c6] 24))
 clear B1
 have B1 := n_
 clear n_
 have n_ := sd (blk_alloc B4.out (.cells #[.int .i64 10, .bool true, .slice A6 0 c6] 24))
 clear B4
 have B4 := n_
 clear n_
 have n_ := sd (blk_alloc B6.out (.cells #[.int .i64 10, .bool true, .slice A6 0 c6] 24))
 clear B6
 have B6 := n_
 clear n_
 have n_ := sd (Kd.C_below HC6.out (below_alloc (Below.refl _ _) (.cells #[.int .i64 10, .bool true, .slice A6 0 c6] 24)))
 clear HC6
 have HC6 := n_
 clear n_
 have B10 := sd (blk_new W6 (.cells #[.int .i64 10, .bool true, .slice A6 0 c6] 24))
 have hz_B10 : W6.heap.size < (W6.alloc (.cells #[.int .i64 10, .bool true, .slice A6 0 c6] 24)).heap.size := by simp
 obtain ⟨gB10, hgB10⟩ : ∃ g, W6.heap.size = g := ⟨_, rfl⟩
 rw [hgB10] at B10 ⊢
 generalize W6.alloc (.cells #[.int .i64 10, .bool true, .slice A6 0 c6] 24) = W6b at HC1 HB B1 B4 B6 HC6 B10 ⊢
 clear hgB10 hz_B10
 refine (C7.out _ _ _ HC6.out HL6.out (gl_below HG.out HB.out)).mono ?_
 rintro e W7 ⟨rfl, hb⟩
 have n_ := sd (Kd.C_below HC1.out hb)
 clear HC1
 have HC1 := n_
 clear n_
 have n_ := sd (below_step HB.out hb)
 clear HB
 have HB := n_
 clear n_
 have n_ := sd (blk_below B1.out hb)
 clear B1
 have B1 := n_
 clear n_
 have n_ := sd (blk_below B4.out hb)
 clear B4
 have B4 := n_
 clear n_
 have n_ := sd (blk_below B6.out hb)
 clear B6
 have B6 := n_
 clear n_
 have n_ := sd (Kd.C_below HC6.out hb)
 clear HC6
 have HC6 := n_
 clear n_
 have n_ := sd (blk_below B10.out hb)
 clear B10
 have B10 := n_
 clear n_
 clear hb
 go_wp2_with fail
 refine (C8.out _).mono ?_
 rintro e W8 ⟨v8, rfl, hR, hb⟩
 obtain ⟨A8, c8, rfl, hl8, hC8⟩ := Kd.R_reads hR
 have n_ := sd (Kd.C_below HC1.out hb)
 clear HC1
 have HC1 := n_
 clear n_
 have n_ := sd (below_step HB.out hb)
 clear HB
 have HB := n_
 clear n_
 have n_ := sd (blk_below B1.out hb)
 clear B1
 have B1 := n_
 clear n_
 have n_ := sd (blk_below B4.out hb)
 clear B4
 have B4 := n_
 clear n_
 have n_ := sd (blk_below B6.out hb)
 clear B6
 have B6 := n_
 clear n_
 have n_ := sd (Kd.C_below HC6.out hb)
 clear HC6
 have HC6 := n_
 clear n_
 have n_ := sd (blk_below B10.out hb)
 clear B10
 have B10 := n_
 clear n_
 clear hR hb hC8 hl8
 rw [show ([] : List S53).length = 0 from rfl]
 have B1k0 : W8.cell? ⟨gB1, 0, none⟩ = some (.int .i64 30) := blk_cell B1.out 0
 have B1k1 : W8.cell? ⟨gB1, 1, none⟩ = some (.bool false) := blk_cell B1.out 1
 have B1k2 : W8.cell? ⟨gB1, 2, none⟩ = some (.slice A livesU.length c) := blk_cell B1.out 2
 have B1l : gB1 < W8.heap.size := blk_lt B1.out
 have B4k0 : W8.cell? ⟨gB4, 0, none⟩ = some (.int .i64 1) := blk_cell B4.out 0
 have B4k1 : W8.cell? ⟨gB4, 1, none⟩ = some (.int .i64 50) := blk_cell B4.out 1
 have B4l : gB4 < W8.heap.size := blk_lt B4.out
 have B6k0 : W8.cell? ⟨gB6, 0, none⟩ = some (.int .i64 0) := blk_cell B6.out 0
 have B6k1 : W8.cell? ⟨gB6, 1, none⟩ = some (.int .i64 1) := blk_cell B6.out 1
 have B6l : gB6 < W8.heap.size := blk_lt B6.out
 have B10k0 : W8.cell? ⟨gB10, 0, none⟩ = some (.int .i64 10) := blk_cell B10.out 0
 have B10k1 : W8.cell? ⟨gB10, 1, none⟩ = some (.bool true) := blk_cell B10.out 1
 have B10k2 : W8.cell? ⟨gB10, 2, none⟩ = some (.slice A6 0 c6) := blk_cell B10.out 2
 have B10l : gB10 < W8.heap.size := blk_lt B10.out
 go_wp2_with fail
 clear B1k0 B1k1 B1k2 B1l
 clear B4k0 B4k1 B4l
 clear B6k0 B6k1 B6l
 clear B10k0 B10k1 B10k2 B10l
 have n_ := sd (Kd.C_below HC1.out (below_alloc (Below.refl _ _) (.cells #[.int .i64 0, .bool false, .slice A8 0 c8] 24)))
 clear HC1
 have HC1 := n_
 clear n_
 have n_ := sd (below_alloc HB.out (.cells #[.int .i64 0, .bool false, .slice A8 0 c8] 24))
 clear HB
 have HB := n_
 clear n_
 have n_ := sd (blk_alloc B1.out (.cells #[.int .i64 0, .bool false, .slice A8 0 c8] 24))
 clear B1
 have B1 := n_
 clear n_
 have n_ := sd (blk_alloc B4.out (.cells #[.int .i64 0, .bool false, .slice A8 0 c8] 24))
 clear B4
 have B4 := n_
 clear n_
 have n_ := sd (blk_alloc B6.out (.cells #[.int .i64 0, .bool false, .slice A8 0 c8] 24))
 clear B6
 have B6 := n_
 clear n_
 have n_ := sd (Kd.C_below HC6.out (below_alloc (Below.refl _ _) (.cells #[.int .i64 0, .bool false, .slice A8 0 c8] 24)))
 clear HC6
 have HC6 := n_
 clear n_
 have n_ := sd (blk_alloc B10.out (.cells #[.int .i64 0, .bool false, .slice A8 0 c8] 24))
 clear B10
 have B10 := n_
 clear n_
 have B14 := sd (blk_new W8 (.cells #[.int .i64 0, .bool false, .slice A8 0 c8] 24))
 have hz_B14 : W8.heap.size < (W8.alloc (.cells #[.int .i64 0, .bool false, .slice A8 0 c8] 24)).heap.size := by simp
 obtain ⟨gB14, hgB14⟩ : ∃ g, W8.heap.size = g := ⟨_, rfl⟩
 rw [hgB14] at B14 ⊢
 generalize W8.alloc (.cells #[.int .i64 0, .bool false, .slice A8 0 c8] 24) = W8b at HC1 HB B1 B4 B6 HC6 B10 B14 ⊢
 clear hgB14 hz_B14
 refine (C9.out _ _ _ none 0 HC6.out HL6.out ⟨rfl, Nat.zero_le _, fun h => absurd h (Nat.lt_irrefl _)⟩ (Nat.le_refl _)).mono ?_
 rintro e W9 ⟨rfl, hb⟩
 have n_ := sd (Kd.C_below HC1.out hb)
 clear HC1
 have HC1 := n_
 clear n_
 have n_ := sd (below_step HB.out hb)
 clear HB
 have HB := n_
 clear n_
 have n_ := sd (blk_below B1.out hb)
 clear B1
 have B1 := n_
 clear n_
 have n_ := sd (blk_below B4.out hb)
 clear B4
 have B4 := n_
 clear n_
 have n_ := sd (blk_below B6.out hb)
 clear B6
 have B6 := n_
 clear n_
 have n_ := sd (Kd.C_below HC6.out hb)
 clear HC6
 have HC6 := n_
 clear n_
 have n_ := sd (blk_below B10.out hb)
 clear B10
 have B10 := n_
 clear n_
 have n_ := sd (blk_below B14.out hb)
 clear B14
 have B14 := n_
 clear n_
 clear hb
 have B1k0 : W9.cell? ⟨gB1, 0, none⟩ = some (.int .i64 30) := blk_cell B1.out 0
 have B1k1 : W9.cell? ⟨gB1, 1, none⟩ = some (.bool false) := blk_cell B1.out 1
 have B1k2 : W9.cell? ⟨gB1, 2, none⟩ = some (.slice A livesU.length c) := blk_cell B1.out 2
 have B1l : gB1 < W9.heap.size := blk_lt B1.out
 go_wp2_with fail
 clear B1k0 B1k1 B1k2 B1l
 refine (C10.out _ _ _ HC1.out HL.out).mono ?_
 rintro e W10 ⟨rfl, hb⟩
 have n_ := sd (Kd.C_below HC1.out hb)
 clear HC1
 have HC1 := n_
 clear n_
 have n_ := sd (below_step HB.out hb)
 clear HB
 have HB := n_
 clear n_
 have n_ := sd (blk_below B1.out hb)
 clear B1
 have B1 := n_
 clear n_
 have n_ := sd (blk_below B4.out hb)
 clear B4
 have B4 := n_
 clear n_
 have n_ := sd (blk_below B6.out hb)
 clear B6
 have B6 := n_
 clear n_
 have n_ := sd (Kd.C_below HC6.out hb)
 clear HC6
 have HC6 := n_
 clear n_
 have n_ := sd (blk_below B10.out hb)
 clear B10
 have B10 := n_
 clear n_
 have n_ := sd (blk_below B14.out hb)
 clear B14
 have B14 := n_
 clear n_
 clear hb
 go_wp2_with fail
 (try go_ret)
 exact HP.out _ HB.out
def lw24_lives.f : Option Bool := some true
theorem lw24_lives.calls (r : Bool) (w : World) (h : lw24_lives.f = some r) (hG : Gl w) :
  Calls Tryd.prog 9 #[] w fun e w' => e = .returned (.bool r) ∧ Below w.heap.size w w' := by
 obtain rfl := Option.some.inj h
 exact lives_walk w hG ⟨fun W => lw24_usual.calls _ _ _ W rfl⟩
  ⟨fun W A c hC hl hG => terms_Due.calls 50 30 false A c livesU 46000 _ _ W hC hl (by decide +kernel) hG⟩
  ⟨fun W A c hC hl hG => terms_Cut.calls 50 30 false A c livesU 46000 46015 _ _ _ W hC hl (by decide +kernel) hG⟩
  ⟨fun W A c hC hl hG => terms_Cut.calls 50 30 false A c livesU 46000 46021 _ _ _ W hC hl (by decide +kernel) hG⟩
  ⟨fun W A c hC hl => terms_Text.calls 50 30 false A c livesU _ _ W hC hl (by decide +kernel)⟩
  ⟨fun W => terms_Parse.calls 50 ⟨#[101, 111, 109, 32, 49, 48]⟩ _ _ _ _ W (by kernel_rfl)⟩
  ⟨fun W A c hC hl hG => terms_Due.calls 50 10 true A c [] 45000 _ _ W hC hl (by decide +kernel) hG⟩
  ⟨fun W => terms_Parse.calls 50 ⟨#[48, 46, 48, 51, 32, 49, 48, 32, 110, 101, 116, 32, 51, 48]⟩ _ _ _ _ W (by kernel_rfl)⟩
  ⟨fun W A c A' c' hC hl hC' hl' => rf24_Same.calls 50 10 true A c [] 10 true A' c' [] _ W hC hl hC' hl' (by decide +kernel)⟩
  ⟨fun W A c hC hl => terms_Right.calls 50 30 false A c livesU _ W hC hl (by decide +kernel)⟩
end Go.Proofs.YtelfiofnhchmbaaDoor.A
namespace Go.Proofs.YtelfiofnhchmbaaDoor.A
open Go.RowKit Go.Proofs.YtelfiofnhchmbaaDoor.B Go.Proofs.YtelfiofnhchmbaaDoorW.PrintWords Go.Proofs.YtelfiofnhchmbaaDoorW.PrintLast Go.Proofs.YtelfiofnhchmbaaDoorW.PrintMore
set_option linter.unusedVariables false
set_option linter.unusedSimpArgs false
theorem rightS_iff (n d : Int) : rightS n d = true ↔ (1 ≤ d ∧ d ≤ 1000000 ∧ n.natAbs ≤ 1000000 ∧ Nat.gcd n.natAbs d.natAbs = 1) := by
  unfold rightS; simp [and_assoc]
theorem right_bounds {n d : Int} (h : rightS n d = true) : -1000000 ≤ n ∧ n ≤ 1000000 ∧ 1 ≤ d ∧ d ≤ 1000000 := by
  rw [rightS_iff] at h; omega
theorem frac_Cmp_ev (a b c d : Int) (ha : I64 a) (hb : I64 b) (hc : I64 c) (hd : I64 d) : Ev (fun k => frac_Cmp.f k a b c d) (if rightS a b = true ∧ rightS c d = true then cmpS a d c b else 0) := by
  unfold frac_Cmp.f
  refine Ev.bind (frac_Right_ev a b ha hb) (Ev.both (fun h1 => ?_) (fun h1 => Ev.is (by rw [if_neg (fun h => h1 h.1)])))
  refine Ev.bind (frac_Right_ev c d hc hd) (Ev.both (fun h2 => ?_) (fun h2 => Ev.is (by rw [if_neg (fun h => h2 h.2)])))
  unfold muldiv_Cmp.f
  rw [if_pos ⟨ha, hd, hc, hb⟩, if_pos ⟨h1, h2⟩]
  exact Ev.is rfl
def inY (n : Int) : Bool := decide (0 ≤ n) && decide (n ≤ 365)
def shareS (a b : Int) : Bool := rightS a b && (decide (0 < a) && decide (a < b))
def cutAt (l : List S53) (i : Nat) : S53 := l.getD i z53
def nextS (p c : S53) : Bool := decide (p.f0 < c.f0) && (decide (rightS p.f1.f0 p.f1.f1 = true ∧ rightS c.f1.f0 c.f1.f1 = true) && decide (c.f1.f0 * p.f1.f1 < p.f1.f0 * c.f1.f1))
def okAt (l : List S53) (i : Nat) : Bool := inY (cutAt l i).f0 && (shareS (cutAt l i).f1.f0 (cutAt l i).f1.f1 && (decide (i = 0) || nextS (cutAt l (i - 1)) (cutAt l i)))
def okFrom (l : List S53) : Nat → Nat → Bool
  | _, 0 => true
  | i, d + 1 => okAt l i && okFrom l (i + 1) d
def termsOk (n : Int) (l : List S53) : Bool := inY n && (decide (l.length ≤ 5) && okFrom l 0 l.length)
def Cuts (l : List S53) : Prop := ∀ x ∈ l, I64 x.f0 ∧ I64 x.f1.f0 ∧ I64 x.f1.f1
theorem Cuts.at {l : List S53} (h : Cuts l) (i : Nat) : I64 (cutAt l i).f0 ∧ I64 (cutAt l i).f1.f0 ∧ I64 (cutAt l i).f1.f1 := by
  unfold cutAt
  by_cases hi : i < l.length
  · rw [List.getD_eq_getElem?_getD, List.getElem?_eq_getElem hi]; exact h _ (List.getElem_mem hi)
  · rw [List.getD_eq_getElem?_getD, List.getElem?_eq_none (by omega)]
    show I64 0 ∧ I64 0 ∧ I64 0
    unfold I64; omega
theorem rd_cut (l : List S53) (i : Nat) : rd_T53 l (i : Int) = cutAt l i := by unfold rd_T53 cutAt; rw [Int.toNat_natCast]
theorem w_prev (i : Nat) (h0 : 0 < i) (h : i ≤ 1000000) : wrap64 ((i : Int) - 1) = ((i - 1 : Nat) : Int) := by unfold wrap64; omega
theorem w_succ (i : Nat) (h : i ≤ 1000000) : wrap64 ((i : Int) + 1) = ((i + 1 : Nat) : Int) := by unfold wrap64; omega
theorem inYear_eq (n : Int) : terms_inYear.f n = some (inY n) := by
  unfold terms_inYear.f inY
  by_cases h : 0 ≤ n
  · rw [if_pos h, decide_eq_true h, Bool.true_and]
  · rw [if_neg (by omega), decide_eq_false h, Bool.false_and]
theorem proper_ev (a b : Int) (ha : I64 a) (hb : I64 b) : Ev (fun k => terms_proper.f k a b) (shareS a b) := by
  unfold terms_proper.f shareS
  refine Ev.bind (frac_Right_ev a b ha hb) (Ev.both (fun h => ?_) (fun h => Ev.is ?_))
  · rw [h, Bool.true_and]
    refine Ev.both (fun h1 => Ev.is ?_) (fun h1 => Ev.is ?_)
    · rw [decide_eq_true (show 0 < a by omega), Bool.true_and]
    · rw [decide_eq_false (show ¬ 0 < a by omega), Bool.false_and]
  · rw [Bool.eq_false_iff.mpr h, Bool.false_and]
theorem cmp_pos (a d c b : Int) : (cmpS a d c b ≤ 0) = ¬ (c * b < a * d) := by
  unfold cmpS
  apply propext
  split
  · constructor <;> intro h <;> omega
  · split
    · constructor <;> intro h <;> omega
    · constructor <;> intro h <;> omega
theorem tright_j2 (l : List S53) (hl : Cuts l) (hlen : l.length ≤ 1000) (n : Int) (b : Bool) (i d : Nat) (hid : i + (d + 1) = l.length) (x32 : Bool)
    (ih : Ev (fun k => terms_Right.l0 k l (l.length : Int) ((i + 1 : Nat) : Int) n b l) (okFrom l (i + 1) d)) :
    Ev (fun k => terms_Right.j2 k (i : Int) l (l.length : Int) (i : Int) x32 n b l (cutAt l i).f0 (cutAt l i).f1.f0 (cutAt l i).f1.f1) (!x32 && ((decide (i = 0) || nextS (cutAt l (i - 1)) (cutAt l i)) && okFrom l (i + 1) d)) := by
  refine Ev.step (fun k => by rw [terms_Right.j2]) (Ev.both (fun h => Ev.is ?_) (fun h => ?_))
  · rw [h]; rfl
  rw [Bool.eq_false_iff.mpr h]
  by_cases h0 : i = 0
  · refine Ev.no (by omega) ?_
    rw [w_succ i (by omega), decide_eq_true h0]
    exact ih
  · rw [decide_eq_false h0]
    refine Ev.yes (by omega) ?_
    rw [w_prev i (by omega) (by omega), w_succ i (by omega)]
    refine Ev.yes (by omega) (Ev.yes (by omega) ?_)
    rw [rd_cut]
    unfold nextS
    refine Ev.both (fun h1 => Ev.is ?_) (fun h1 => ?_)
    · rw [decide_eq_false (show ¬ (cutAt l (i - 1)).f0 < (cutAt l i).f0 by omega)]; rfl
    rw [decide_eq_true (show (cutAt l (i - 1)).f0 < (cutAt l i).f0 by omega)]
    refine Ev.bind (frac_Cmp_ev _ _ _ _ (hl.at (i - 1)).2.1 (hl.at (i - 1)).2.2 (hl.at i).2.1 (hl.at i).2.2) ?_
    by_cases hr : rightS (cutAt l (i - 1)).f1.f0 (cutAt l (i - 1)).f1.f1 = true ∧ rightS (cutAt l i).f1.f0 (cutAt l i).f1.f1 = true
    · rw [if_pos hr, decide_eq_true hr]
      refine Ev.both (fun h2 => Ev.is ?_) (fun h2 => ?_)
      · rw [cmp_pos] at h2
        rw [decide_eq_false h2]; rfl
      · rw [cmp_pos] at h2
        rw [decide_eq_true (Classical.not_not.mp h2)]
        exact ih
    · rw [if_neg hr, decide_eq_false hr]
      exact Ev.yes (by omega) (Ev.is rfl)
theorem tright_l0 (l : List S53) (hl : Cuts l) (hlen : l.length ≤ 1000) (n : Int) (b : Bool) (d : Nat) : ∀ i : Nat, i + d = l.length → Ev (fun k => terms_Right.l0 k l (l.length : Int) (i : Int) n b l) (okFrom l i d) := by
  induction d with
  | zero =>
    intro i hi
    refine Ev.step (fun k => by rw [terms_Right.l0]) ?_
    exact Ev.no (by omega) (Ev.is rfl)
  | succ d ih =>
    intro i hi
    refine Ev.step (fun k => by rw [terms_Right.l0]) (Ev.yes (by omega) (Ev.yes (by omega) (Ev.yes (by omega) ?_)))
    rw [rd_cut, inYear_eq]
    simp only [Option.bind_some]
    have ih1 := ih (i + 1) (by omega)
    show Ev _ (okAt l i && okFrom l (i + 1) d)
    unfold okAt
    refine Ev.both (fun h => ?_) (fun h => ?_)
    · rw [h, Bool.true_and]
      refine Ev.bind (proper_ev _ _ (hl.at i).2.1 (hl.at i).2.2) ?_
      have := tright_j2 l hl hlen n b i d hi (!shareS (cutAt l i).f1.f0 (cutAt l i).f1.f1) ih1
      rw [Bool.not_not, ← Bool.and_assoc] at this
      exact this
    · rw [Bool.eq_false_iff.mpr h]
      exact tright_j2 l hl hlen n b i d hi true ih1
theorem terms_Right_ev (n : Int) (b : Bool) (l : List S53) (hl : Cuts l) (hlen : l.length ≤ 1000) : Ev (fun k => terms_Right.f k n b l) (termsOk n l) := by
  unfold terms_Right.f termsOk
  rw [inYear_eq]
  simp only [Option.bind_some]
  have key : ∀ x : Bool, Ev (fun k => terms_Right.j0 k x n b l) (!x && okFrom l 0 l.length) := fun x => by
    refine Ev.step (fun k => by rw [terms_Right.j0]) (Ev.both (fun h => Ev.is ?_) (fun h => ?_))
    · rw [h]; rfl
    · rw [Bool.eq_false_iff.mpr h]
      exact tright_l0 l hl hlen n b l.length 0 (by omega)
  refine Ev.both (fun h => ?_) (fun h => ?_)
  · rw [h, Bool.true_and]
    have := key (decide ((l.length : Int) > 5))
    rw [show (!decide ((l.length : Int) > 5)) = decide (l.length ≤ 5) by
      by_cases h5 : l.length ≤ 5
      · rw [decide_eq_true h5, decide_eq_false (show ¬ (l.length : Int) > 5 by omega)]; rfl
      · rw [decide_eq_false h5, decide_eq_true (show (l.length : Int) > 5 by omega)]; rfl] at this
    exact this
  · rw [Bool.eq_false_iff.mpr h]
    exact key true
end Go.Proofs.YtelfiofnhchmbaaDoor.A
namespace Go.Proofs.YtelfiofnhchmbaaDoor.B
open Go.Deep Go.ChangeShapes Go.WideShapes Go.ChangeAt Go.Joins Go.Proofs.YtelfiofnhchmbaaDoorW.PrintWords
theorem weights_mem_all {H : Type} {P : Program} {e : TypeId} {l : List (DataW H)} {d : DataW H} (h : d ∈ l) {x : Nat} (hx : x ∈ d.weights P e) : x ∈ DataW.weightsAll P e l := by
  induction l with
  | nil => cases h
  | cons a l ih =>
    rw [DataW.weightsAll]
    rcases List.mem_cons.mp h with rfl | h
    · exact List.mem_append_left _ hx
    · exact List.mem_append_right _ (ih h)
structure Opens {α : Type} (P : Program) (t : TypeId) (d : Kd α) (G : α → Prop) : Prop where
  size : P.cellsOf t = d.sz
  get : ∀ {H : Type} {enc : TypeId × Value → H} {W : World} {base : Nat} {spare : Nat → Bool} {held : Bool} {n : Nat} {cs : List Value} {y : DataW H × List MemPlace}, DataW.trod enc P W base spare held n t cs = some y → (∀ x ∈ y.1.weights P t, x ≤ reachBytes) → ∃ a, d.K W a cs ∧ G a
theorem Opens.int {P : Program} {t : TypeId} {k : IntKind} (ht : P.underlying t = some (.int k)) (hc : P.cellsOf t = 1) : Opens P t (Kd.int k) (fun x => (Lit.int k x).wf = true) where
  size := hc
  get h _ := by
    obtain ⟨x, rfl, _, hw⟩ := DataW.trod_int ht h
    exact ⟨x, rfl, hw⟩
theorem Opens.bool {P : Program} {t : TypeId} (ht : P.underlying t = some .bool) (hc : P.cellsOf t = 1) : Opens P t Kd.bool (fun _ => True) where
  size := hc
  get h _ := by
    obtain ⟨x, rfl, _⟩ := DataW.trod_bool ht h
    exact ⟨x, rfl, trivial⟩
structure OpensF {α : Type} (P : Program) (fs : List Field) (o : Nat) (d : Kd α) (G : α → Prop) : Prop where
  get : ∀ {H : Type} {enc : TypeId × Value → H} {W : World} {base : Nat} {spare : Nat → Bool} {held : Bool} {n : Nat} {cs : List Value}, o + d.sz ≤ cs.length → (∀ f ∈ fs, ∃ y, DataW.trod enc P W base spare held n f.type ((cs.drop f.offset).take (P.cellsOf f.type)) = some y ∧ ∀ x ∈ y.1.weights P f.type, x ≤ reachBytes) →
    ∃ a, d.K W a ((cs.drop o).take d.sz) ∧ G a
theorem OpensF.cons {α β : Type} {P : Program} {f : Field} {fs : List Field} {o o' : Nat} {d : Kd α} {e : Kd β} {G : α → Prop} {G' : β → Prop} (h : Opens P f.type d G) (ho : f.offset = o) (h' : OpensF P fs o' e G') (ho' : o' = o + d.sz) :
    OpensF P (f :: fs) o (Kd.pair d e) (fun x => G x.1 ∧ G' x.2) where
  get := by
    intro H enc W base spare held n cs hl hf
    have hsz : (Kd.pair d e).sz = d.sz + e.sz := rfl
    rw [hsz] at hl ⊢
    obtain ⟨y, hy, hw⟩ := hf f (List.mem_cons_self ..)
    rw [ho, h.size] at hy
    obtain ⟨a, ha, hg⟩ := h.get hy hw
    obtain ⟨b, hb, hg'⟩ := h'.get (by omega) (fun f' hf' => hf f' (List.mem_cons_of_mem _ hf'))
    refine ⟨(a, b), ⟨_, _, ?_, ha, hb⟩, hg, hg'⟩
    rw [ho', ← List.drop_drop, List.take_add]
theorem Opens.struct {α : Type} {P : Program} {t : TypeId} {fs : Array Field} {d : Kd α} {G : α → Prop} (ht : P.underlying t = some (.struct fs)) (hc : P.cellsOf t = d.sz) (h : OpensF P fs.toList 0 d G) : Opens P t d G where
  size := hc
  get := by
    intro H enc W base spare held n cs y hh hw
    obtain ⟨xs, n, _, rfl, hl, hlen, hf⟩ := DataW.trod_struct ht hh
    rw [hc] at hl
    have hw' : ∀ x ∈ DataW.weightsEach P (fs.toList.map (·.type)) (xs.map (·.1)), x ≤ reachBytes := by
      intro x hx
      refine hw x ?_
      show x ∈ DataW.weights P t (.agg (xs.map (·.1)))
      rw [DataW.weights, ht]; exact hx
    obtain ⟨a, ha, hg⟩ := h.get (cs := cs) (by omega) (fun f hm => by
      obtain ⟨i, hi, rfl⟩ := List.getElem_of_mem hm
      have hi' : i < fs.size := by simpa using hi
      have := hf i fs[i] (Array.getElem?_eq_getElem hi')
      rw [Array.getElem_toList]
      have hx9 : xs[i]? = some xs[i] := List.getElem?_eq_getElem (by omega)
      refine ⟨_, this.trans hx9, fun x hx => hw' x (DataW.weights_mem_each (j := i) (t := fs[i].type) (d := xs[i].1) ?_ ?_ x hx)⟩
      · rw [List.getElem?_map, List.getElem?_eq_getElem hi, Array.getElem_toList]; rfl
      · rw [List.getElem?_map, hx9]; rfl)
    rw [List.drop_zero, ← hl, List.take_length] at ha
    exact ⟨a, ha, hg⟩
theorem Opens.slice {α : Type} {P : Program} {t e : TypeId} {d : Kd α} {G : α → Prop} (ht : P.underlying t = some (.slice e)) (hc : P.cellsOf t = 1) (h : Opens P e d G) : Opens P t (Kd.slice e d) (fun xs => (∀ x ∈ xs, G x) ∧ xs.length ≤ maxLen ∧ xs.length * P.bytesOf e ≤ 140737488351232) where
  size := hc
  get := by
    intro H enc W base spare held n cs y hh hw
    rcases open_slice ht hh with ⟨rfl, _⟩ | ⟨a, len, cap, m, n', D, Pl, rfl, _, hlc, hcm, hm, rfl, hel⟩
    · exact ⟨[], ⟨none, 0, rfl, Nat.le_refl _, rfl, Nat.zero_le _, fun h => absurd h (Nat.lt_irrefl _)⟩, ⟨fun x hx => (by cases hx), Nat.zero_le _, by simp⟩⟩
    · have hml : len ≤ m := by rw [hm]; split <;> omega
      have hw1 : ∀ i, i < len → ∀ x ∈ (D i).weights P e, x ≤ reachBytes := by
        intro i hi x hx
        refine hw x ?_
        show x ∈ DataW.weights P t (.slice ((List.range len).map D) _)
        rw [DataW.weights, ht]
        refine List.mem_cons_of_mem _ (List.mem_append_left _ ?_)
        exact weights_mem_all (List.mem_map.mpr ⟨i, List.mem_range.mpr hi, rfl⟩) hx
      have hw2 : len * P.bytesOf e ≤ 140737488351232 := by
        have := hw ((((List.range len).map D).length + ((List.range (m - len)).map fun j => D (len + j)).length) * P.bytesOf e) (by
          show _ ∈ DataW.weights P t (.slice ((List.range len).map D) _)
          rw [DataW.weights, ht]; exact List.mem_cons_self ..)
        rw [List.length_map, List.length_range] at this
        exact Nat.le_trans (Nat.mul_le_mul_right _ (Nat.le_add_right _ _)) this
      have key : ∀ i, i < len → ∃ x : α, ∃ cs', W.cells? base (a.add (i * d.sz)) d.sz = some cs' ∧ d.K W x cs' ∧ G x := by
        intro i hi
        obtain ⟨cs', h1, h2⟩ := hel i (by omega)
        obtain ⟨x, hx, hg⟩ := h.get h2 (hw1 i hi)
        rw [h.size] at h1
        exact ⟨x, cs', h1, hx, hg⟩
      have build : ∀ k, k ≤ len → ∃ xs : List α, xs.length = k ∧ ∀ j x, xs[j]? = some x → ∃ cs', W.cells? base (a.add (j * d.sz)) d.sz = some cs' ∧ d.K W x cs' ∧ G x := by
        intro k
        induction k with
        | zero => intro _; exact ⟨[], rfl, fun j x hj => by simp at hj⟩
        | succ k ih =>
          intro hk
          obtain ⟨xs, hxs, hget⟩ := ih (by omega)
          obtain ⟨x, hx⟩ := key k (by omega)
          refine ⟨xs ++ [x], by rw [List.length_append, hxs]; rfl, fun j z hj => ?_⟩
          by_cases hjk : j < k
          · rw [List.getElem?_append_left (by omega)] at hj; exact hget j z hj
          · rw [List.getElem?_append_right (by omega)] at hj
            obtain rfl : j = k := by
              have := (List.getElem?_eq_some_iff.mp hj).1
              rw [List.length_singleton] at this; omega
            rw [hxs, Nat.sub_self] at hj
            obtain rfl : x = z := Option.some.inj hj
            exact hx
      obtain ⟨xs, hxs, hget⟩ := build len (Nat.le_refl _)
      unfold maxLen at hcm
      refine ⟨xs, ⟨some a, cap, by rw [hxs], by omega, rfl, by omega, fun _ => ⟨a, rfl, fun j x hj => ?_⟩⟩, ⟨fun x hx => ?_, by unfold maxLen; omega, by rw [hxs]; exact hw2⟩⟩
      · obtain ⟨cs', h1, h2, _⟩ := hget j x hj
        refine ⟨cs', d.K_len h2, h2, fun i u hu => ?_⟩
        obtain ⟨_, h4, h3⟩ := World.cells?_some h1
        have hi := (List.getElem?_eq_some_iff.mp hu).1
        have h5 := h3 i (by omega)
        rw [← hu, ← h5, Deep.add_add]
      · obtain ⟨j, hj⟩ := List.getElem?_of_mem hx
        obtain ⟨_, _, _, hg⟩ := hget j x hj
        exact hg
theorem Opens.agg {α : Type} {P : Program} {t : TypeId} {fs : Array Field} {d : Kd α} {G : α → Prop} (h : Opens P t d G) (ht : P.underlying t = some (.struct fs)) {H : Type} {enc : TypeId × Value → H} {W : World} {base b0 : Nat} {spare : Nat → Bool} {held : Bool} {r : Reach} {v : Value} {y : DataW H} {p : List MemPlace}
    (hv : Value.okWide P W r b0 t v) (hh : DataW.Trod enc P W base spare held t v y p) (hw : ∀ x ∈ y.weights P t, x ≤ reachBytes) : ∃ (cs : Array Value) (a : α), v = .agg cs ∧ d.K W a cs.toList ∧ G a := by
  obtain ⟨cs, rfl, _⟩ := okWide_struct ht hv
  obtain ⟨n, hn⟩ := hh
  obtain ⟨a, ha, hg⟩ := h.get hn hw
  exact ⟨cs, a, rfl, ha, hg⟩
end Go.Proofs.YtelfiofnhchmbaaDoor.B
namespace Go.Proofs.YtelfiofnhchmbaaDoor.A
open Go.RowKit Go.Proofs.YtelfiofnhchmbaaDoor.B Go.Proofs.YtelfiofnhchmbaaDoorW.PrintWords Go.Proofs.YtelfiofnhchmbaaDoorW.PrintLast Go.Proofs.YtelfiofnhchmbaaDoorW.PrintMore
def monN (m : Nat) : Int := ([31, 28, 31, 30, 31, 30, 31, 31, 30, 31, 30, 31] : List Int).getD m 0
def leapN (y : Nat) : Bool := (decide (y % 4 = 0) && decide (y % 100 ≠ 0)) || decide (y % 400 = 0)
def lenYM (j m : Nat) : Int := if m = 1 then (if leapN (1900 + j) = true then 29 else 28) else monN m
def lenK (K : Nat) : Int := lenYM (K / 12) (K % 12)
def first : Nat → Int
  | 0 => 0
  | K + 1 => first K + lenK K
end Go.Proofs.YtelfiofnhchmbaaDoor.A
namespace Go.Proofs.YtelfiofnhchmbaaDoor.A
open Go.RowKit Go.Proofs.YtelfiofnhchmbaaDoor.B Go.Proofs.YtelfiofnhchmbaaDoorW.PrintWords Go.Proofs.YtelfiofnhchmbaaDoorW.PrintLast Go.Proofs.YtelfiofnhchmbaaDoorW.PrintMore
set_option linter.unusedVariables false
set_option linter.unusedSimpArgs false
def Day (n : Int) : Prop := 0 ≤ n ∧ n ≤ 109572
instance (n : Int) : Decidable (Day n) := inferInstanceAs (Decidable (0 ≤ n ∧ n ≤ 109572))
def pre (x : S91) (q : List S91 × Nat × Nat) : List S91 × Nat × Nat := if q.2.2 = 0 then (x :: q.1, q.2.1, 0) else ([], q.2.1, q.2.2)
def Good (c : S53) : Prop := (0 ≤ c.f0 ∧ c.f0 ≤ 365) ∧ shareS c.f1.f0 c.f1.f1 = true
theorem Good.in {c : S53} (h : Good c) : 0 < c.f1.f0 ∧ c.f1.f0 ≤ 1000000 ∧ 1 ≤ c.f1.f1 ∧ c.f1.f1 ≤ 1000000 ∧ rightS c.f1.f0 c.f1.f1 = true := by
  have h2 := h.2
  unfold shareS at h2
  rw [Bool.and_eq_true, Bool.and_eq_true, decide_eq_true_eq, decide_eq_true_eq] at h2
  have := right_bounds h2.1
  exact ⟨h2.2.1, by omega, by omega, by omega, h2.1⟩
end Go.Proofs.YtelfiofnhchmbaaDoor.A
