import Derived.Test.YteimiejbhhgljaaGreatDoorZAG
set_option linter.unusedVariables false
set_option linter.unusedSimpArgs false
section
namespace Go.Proofs.T
open Go Go.AM Go.Proofs
set_option maxRecDepth 20000
variable {Γ : List (Nat × List AVal)}
theorem copyConfig (s : St) (hs : s.Small) : Pure Tryz.prog Γ 98 [.agg s.cfg] (.agg s.cfg) := by
  have hng := hs.ng
  refine Pure_at Tryz.func98 rfl 10 rfl (Nat.le_of_ble_eq_true rfl) rfl fun k => ?_
  rcases Nat.eq_zero_or_pos s.ng with h0 | hpos
  · simp only [St.cfg, h0]
    have kp : Kp [0,1,2,3] (fun i => i - k) := kpI
    refine wl ?_ <;> and_intros <;> first | exact hdT | (apply zM; (repeat intro ht); apply zM; (repeat intro hg); apply zM)
    have uU := Go.AM.uU; refine cR ?_; apply zN
    exact VLe.aggs (.cons (VLe.refl _) (.cons (VLe.refl _) (.cons (VLe.nil _ _) .nil)))
  · have hne : s.ng ≠ 0 := by omega
    have kp : Kp [0,1,2,3] (fun i => i - k) := kpI
    have uU := zA @hne @hpos
    refine wl ?_ <;> and_intros <;> first | exact hdT | (apply zM; (repeat intro ht); apply zM; (repeat intro hg); apply zM)
    refine W_mv (Mv.freeze (k + 2) (by simp -dsimp -implicitDefEqProofs only [go_sem, hne, hpos, eq_self, ↓reduceIte]; rfl) rfl) ?_; simp -dsimp -implicitDefEqProofs only [frzF, frz_app, go_sem, hne, hpos, eq_self, ↓reduceIte]
    have uU := zA @hne @hpos; refine cR ?_; apply zN
    exact VLe.aggs (.cons (VLe.refl _) (.cons (VLe.refl _) (.cons (VLe.copy' _ _ _) .nil)))
def spL (s : St) (i : Nat) : List (List AVal) := (List.range i).map (ssf s)
theorem spL_zero (s : St) : spL s 0 = [] := rfl
theorem spL_succ (s : St) (i : Nat) : spL s (i + 1) = spL s i ++ [ssf s i] := range_snoc
theorem spL_len (s : St) (i : Nat) : (spL s i).length = i := by simp [spL]
theorem spL_clean (s : St) (i : Nat) : ((spL s i).all fun row => row.all clean) = true := all_clean fun i => rfl
def zst : List AVal := [.lit (.int .i64 0), .lit (.int .u64 0), .lit (.slice none 0 0), .lit (.slice none 0 0), .lit (.slice none 0 0), .lit (.slice none 0 0), .lit (.slice none 0 0)]
attribute [go_sem] zst spL_len
theorem copyState (s : St) (hs : s.Small) : Pure Tryz.prog Γ 35 [.agg s.cells] (.agg s.cells) := by
  obtain ⟨hng, hnk, hnu, hnt, hns, hnsp⟩ := id hs
  refine Pure_at Tryz.func35 rfl 44 rfl (Nat.le_of_ble_eq_true rfl) rfl fun k => ?_
  have kp : Kp [0,1,2,3,4,5,6,11] (fun i => i - k) := kpI
  refine wl ?_ <;> and_intros <;> first | exact hdT | (apply zM; (repeat intro ht); apply zM; (repeat intro hg); apply zM)
  refine M_forO (X := Nat) rfl [0,1,2,3,4,5,6,11] (k + 3) (fun i => [(5, .lit (.int .i64 (i : Int))), (4, accV (k + 2) (spL s i))]) (fun i => accH (k + 2) 1 (spL s i) [(k + 1, ⟨7, true, [zst]⟩), (k, ⟨7, true, [s.cells]⟩)]) (fun i => i ≤ s.ns) (fun i => s.ns - i) 0 ?_ (Nat.zero_le _) ?_
  · rw [spL_zero]
    refine rR ?_ <;> first | exact hdT | apply zN
    exact wkF
  intro i hi
  refine rR ?_ <;> first | exact hdT | apply zN
  have hcl : ((spL s i ++ [ssf s i]).all fun row => row.all clean) = true := by rw [← spL_succ]; exact spL_clean s (i + 1)
  refine wl ?_ <;> and_intros <;> first | exact hdT | (apply zM; (repeat intro ht); apply zM; (repeat intro hg); apply zM)
  · by_cases hz : s.nsp i = 0
    · have uU := @hz
      refine wl ?_ <;> and_intros <;> first | exact hdT | (apply zM; (repeat intro ht); apply zM; (repeat intro hg); apply zM)
      refine ⟨i + 1, by omega, by omega, ?_⟩
      rw [spL_succ]
      refine Mv.trans (Mv.row (k + 4) (ssf s i) (by simp -dsimp -implicitDefEqProofs only [go_sem, hz, List.map_append, Flt.row, eq_self, ↓reduceIte]; rfl) (by rw [ssf, hz]; exact .cons (VLe.nil _ _) .nil) hcl) ?_
      exact Mv.app (k + 4) (k + 2) ⟨by omega, by omega⟩ ⟨by omega, by omega⟩ (wk_low (by omega) (by simp -dsimp -implicitDefEqProofs only [go_sem, hz, List.map_append, Flt.row, eq_self, ↓reduceIte]) (by simp -dsimp -implicitDefEqProofs only [go_sem, hz, List.map_append, Flt.row, eq_self, ↓reduceIte]) (by simp -dsimp -implicitDefEqProofs only [go_sem, hz, List.map_append, Flt.row, eq_self, ↓reduceIte]) (by simp -dsimp -implicitDefEqProofs only [go_sem, hz, List.map_append, Flt.row, eq_self, ↓reduceIte]))
    · have hpos : 0 < s.nsp i := by omega
      have hle : s.nsp i ≤ 1000 := hnsp i (by omega)
      have uU := zA @hz @hpos
      refine wl ?_ <;> and_intros <;> first | exact hdT | (apply zM; (repeat intro ht); apply zM; (repeat intro hg); apply zM)
      refine ⟨i + 1, by omega, by omega, ?_⟩
      rw [spL_succ]
      refine Mv.trans (Mv.freeze (k + 3) (by simp -dsimp -implicitDefEqProofs only [go_sem, hz, hpos, eq_self, ↓reduceIte]; rfl) rfl) ?_
      simp -dsimp -implicitDefEqProofs only [frzF, frz_app, go_sem, hz, hpos, frz_rows (spL_clean s i), eq_self, ↓reduceIte]
      refine Mv.trans (Mv.row (k + 5) (ssf s i) (by simp -dsimp -implicitDefEqProofs only [go_sem, hz, hpos, frz_rows (spL_clean s i), List.map_append, Flt.row, eq_self, ↓reduceIte]; rfl) (.cons (VLe.copy' _ _ _) .nil) hcl) ?_
      exact Mv.app (k + 5) (k + 2) ⟨by omega, by omega⟩ ⟨by omega, by omega⟩ (wk_low (by omega) (by simp -dsimp -implicitDefEqProofs only [go_sem, hz, hpos, frz_rows (spL_clean s i), List.map_append, Flt.row, eq_self, ↓reduceIte]) (by simp -dsimp -implicitDefEqProofs only [go_sem, hz, hpos, frz_rows (spL_clean s i), List.map_append, Flt.row, eq_self, ↓reduceIte]) (by simp -dsimp -implicitDefEqProofs only [go_sem, hz, hpos, frz_rows (spL_clean s i), List.map_append, Flt.row, eq_self, ↓reduceIte]) (by simp -dsimp -implicitDefEqProofs only [go_sem, hz, hpos, frz_rows (spL_clean s i), List.map_append, Flt.row, eq_self, ↓reduceIte]))
  · have hi' : i = s.ns := by omega
    subst hi'
    have hv : VLe (rows 1 (spL s s.ns)) (.rd 1 s.ns (ssf s)) := by
      rw [rows, spL_len]
      exact VLe.copy' _ _ _
    refine W_mv (Mv.frz_at (id := k + 2) (s := 1) (l := spL s s.ns) 4 (.rd 1 s.ns (ssf s)) [(k + 1, ⟨7, true, [zst]⟩), (k, ⟨7, true, [s.cells]⟩)] (by simp -dsimp -implicitDefEqProofs only [go_sem, List.map_append, Flt.row, eq_self, ↓reduceIte]) (by simp -dsimp -implicitDefEqProofs only [go_sem, List.map_append, Flt.row, eq_self, ↓reduceIte]) hv (by simp -dsimp -implicitDefEqProofs only [go_sem, List.map_append, Flt.row, eq_self, ↓reduceIte]) (by simp -dsimp -implicitDefEqProofs only [go_sem, List.map_append, Flt.row, eq_self, ↓reduceIte])) ?_
    refine rR ?_ <;> first | exact hdT | apply zN
    rcases Nat.eq_zero_or_pos s.nt with hz | hpos
    · have uU := @hz
      refine dl [.ret (.agg s.cfg), .ret (.rd 1 s.nk (kf s)), .ret (.rd 1 s.nu (uf s))] ?_ <;> and_intros <;> first | exact hdT | (apply zM; (repeat intro ht); apply zM; (repeat intro hg); apply zM)
      · exact copyConfig s hs
      · exact copyInts s.nk s.clk hnk
      · exact copyInts s.nu s.cur hnu
      refine wl ?_ <;> and_intros <;> first | exact hdT | (apply zM; (repeat intro ht); apply zM; (repeat intro hg); apply zM)
      have uU := @hz; refine cR ?_; apply zN
      exact VLe.aggs (.cons (VLe.refl _) (.cons (VLe.refl _) (.cons (VLe.refl _) (.cons (VLe.refl _) (.cons (VLe.refl _) (.cons (VLe.nil _ _) (.cons (VLe.refl _) .nil)))))))
    · have hne : ¬ s.nt = 0 := by omega
      have uU := zA @hne @hpos
      refine dl [.ret (.agg s.cfg), .ret (.rd 1 s.nk (kf s)), .ret (.rd 1 s.nu (uf s))] ?_ <;> and_intros <;> first | exact hdT | (apply zM; (repeat intro ht); apply zM; (repeat intro hg); apply zM)
      · exact copyConfig s hs
      · exact copyInts s.nk s.clk hnk
      · exact copyInts s.nu s.cur hnu
      refine wl ?_ <;> and_intros <;> first | exact hdT | (apply zM; (repeat intro ht); apply zM; (repeat intro hg); apply zM)
      refine W_mv (Mv.freeze (k + 3) (by simp -dsimp -implicitDefEqProofs only [go_sem, hne, hpos, eq_self, ↓reduceIte]; rfl) rfl) ?_; simp -dsimp -implicitDefEqProofs only [frzF, frz_app, go_sem, hne, hpos, eq_self, ↓reduceIte]
      have uU := zA @hne @hpos; refine cR ?_; apply zN
      exact VLe.aggs (.cons (VLe.refl _) (.cons (VLe.refl _) (.cons (VLe.refl _) (.cons (VLe.refl _) (.cons (VLe.refl _) (.cons (VLe.copy' _ _ _) (.cons (VLe.refl _) .nil)))))))
end Go.Proofs.T
end
section
namespace Go.Proofs.T
open Go Go.AM Go.Proofs
set_option maxRecDepth 20000
variable {Γ : List (Nat × List AVal)}
def lkRow (F : Nat) (s : St) (l : List Flt) : List AVal := [.lit (.int .i64 s.cpus), .lit (.int .u64 s.credit), .rd 2 s.ng (gf s), .rd 1 s.nk (kf s), .rd 1 s.nu (uf s), .rd 8 s.nt (tf s), .rd 1 s.ns (ssf s), accV F (l.map Flt.row)]
def LK (L F : Nat) (s : St) (l : List Flt) : Heap := (L, ⟨8, false, [lkRow F s l]⟩) :: accH F 3 (l.map Flt.row) []
attribute [go_sem] lkRow LK
def iff1 (b : Bool) (f : Flt) : List Flt := if b = true then [f] else []
theorem found (k L F : Nat) (s : St) (l : List Flt) (is : Bool) (r a b : Int) (hL : L < k) (hF : F < k) (hne : L ≠ F) (hl : l.length ≤ 100000) :
    Tr Tryz.prog Γ 116 k [.ptr L 0 0, .lit (.bool is), .lit (.int .u8 r), .lit (.int .i64 a), .lit (.int .i64 b)] (LK L F s l) (fun k1 r1 H1 => k1 = k + 1 ∧ r1 = .tup [] ∧ H1 = LK L k s (l ++ iff1 is ⟨r, a, b⟩)) := by
  obtain ⟨a1, a2, a3, a4, a5, a6⟩ := old_name hL
  obtain ⟨b1, b2, b3, b4, b5, b6⟩ := old_name hF
  obtain ⟨c1, c2⟩ := two_names hne
  refine Tr_at Tryz.func116 rfl 24 rfl (Nat.le_of_ble_eq_true rfl) (W_upM ?_)
  have kp : Kp [0,1,2,3,4,10] (fun i => i - k) := kpI
  have uU := zA @a1 (zA @a2 (zA @a3 (zA @a4 (zA @a5 (zA @a6 (zA @b1 (zA @b2 (zA @b3 (zA @b4 (zA @b5 (zA @b6 (zA @c1 @c2))))))))))))
  refine wl ?_ <;> and_intros <;> first | exact hdT | (apply zM; (repeat intro ht); apply zM; (repeat intro hg); apply zM)
  · subst ht
    refine ⟨k + 1, [], LK L k s (l ++ [⟨r, a, b⟩]), ?_, _, rfl, rfl, rfl, by simp [iff1, LK, lkRow]⟩
    exact Mv.app (k + 1) (k) ⟨by omega, by omega⟩ ⟨by omega, by omega⟩ (wk_low (by omega) (by simp -dsimp -implicitDefEqProofs only [go_sem, a1, a2, a3, a4, a5, a6, b1, b2, b3, b4, b5, b6, c1, c2, List.map_append, Flt.row, eq_self, ↓reduceIte]) (by simp -dsimp -implicitDefEqProofs only [go_sem, a1, a2, a3, a4, a5, a6, b1, b2, b3, b4, b5, b6, c1, c2, List.map_append, Flt.row, eq_self, ↓reduceIte]) (by simp -dsimp -implicitDefEqProofs only [go_sem, a1, a2, a3, a4, a5, a6, b1, b2, b3, b4, b5, b6, c1, c2, List.map_append, Flt.row, eq_self, ↓reduceIte]) (by simp -dsimp -implicitDefEqProofs only [go_sem, a1, a2, a3, a4, a5, a6, b1, b2, b3, b4, b5, b6, c1, c2, List.map_append, Flt.row, eq_self, ↓reduceIte]))
  · subst ht
    refine ⟨k + 1, [], LK L k s (l ++ []), ?_, _, rfl, rfl, rfl, by simp [iff1, LK, lkRow]⟩
    rw [List.append_nil]
    exact Mv.trans (Mv.fresh (F) (by omega)) (Mv.wk (wk_low (by omega) (by simp -dsimp -implicitDefEqProofs only [go_sem, a1, a2, a3, a4, a5, a6, b1, b2, b3, b4, b5, b6, c1, c2, List.map_append, Flt.row, eq_self, ↓reduceIte]) (by simp -dsimp -implicitDefEqProofs only [go_sem, a1, a2, a3, a4, a5, a6, b1, b2, b3, b4, b5, b6, c1, c2, List.map_append, Flt.row, eq_self, ↓reduceIte]) (by simp -dsimp -implicitDefEqProofs only [go_sem, a1, a2, a3, a4, a5, a6, b1, b2, b3, b4, b5, b6, c1, c2, List.map_append, Flt.row, eq_self, ↓reduceIte]) (by simp -dsimp -implicitDefEqProofs only [go_sem, a1, a2, a3, a4, a5, a6, b1, b2, b3, b4, b5, b6, c1, c2, List.map_append, Flt.row, eq_self, ↓reduceIte])))
theorem found' (k L F : Nat) (s : St) (l l' : List Flt) (is is' : Bool) (r a b : Int) (hb : is = is') (hl' : l' = l ++ iff1 is' ⟨r, a, b⟩) (hL : L < k) (hF : F < k) (hne : L ≠ F) (hl : l.length ≤ 100000) :
    Tr Tryz.prog Γ 116 k [.ptr L 0 0, .lit (.bool is), .lit (.int .u8 r), .lit (.int .i64 a), .lit (.int .i64 b)] (LK L F s l) (fun k1 r1 H1 => k1 = k + 1 ∧ r1 = .tup [] ∧ H1 = LK L k s l') := by
  subst hb hl'; exact found k L F s l is r a b hL hF hne hl
def Adds (Γ : List (Nat × List AVal)) (f : Nat) (s : St) (G : List Flt) : Prop :=
  ∀ (k L F : Nat) (l : List Flt), L < k → F < k → L ≠ F → l.length ≤ 10000 → Tr Tryz.prog Γ f k [.ptr L 0 0] (LK L F s l) (fun k1 r1 H1 => k1 = k + 1 ∧ r1 = .tup [] ∧ H1 = LK L k s (l ++ G))
theorem iff1_len (l : List Flt) (b : Bool) (f : Flt) : (l ++ iff1 b f).length ≤ l.length + 1 := by
  unfold iff1; split <;> simp
def shapeA (s : St) : List Flt := iff1 ((s.nk : Int) != s.cpus) ⟨2, 0, 0⟩ ++ (iff1 ((s.nu : Int) != s.cpus) ⟨2, 1, 0⟩ ++ (iff1 ((s.ns : Int) != s.ng) ⟨2, 2, 0⟩ ++ (if s.ns = s.ng then flats (shapeAt s) s.ns else [])))
theorem shape (s : St) (hs : s.Small) : Adds Γ 190 s (shapeA s) := by
  obtain ⟨hng, hnk, hnu, hnt, hns, hnsp⟩ := id hs
  intro k L F l hL hF hne hl
  obtain ⟨a1, a2, a3, a4, a5, a6⟩ := old_name hL
  obtain ⟨b1, b2, b3, b4, b5, b6⟩ := old_name hF
  obtain ⟨c1, c2⟩ := two_names hne
  refine Tr_at Tryz.func190 rfl 64 rfl (Nat.le_of_ble_eq_true rfl) (W_upM ?_)
  have kp : Kp [0,2,3,4,5,47,49,50,51,52] (fun i => if i = L then 0 else i - k + 1) := kpI
  have uU := zA @a1 (zA @a2 (zA @a3 (zA @a4 (zA @a5 (zA @a6 (zA @b1 (zA @b2 (zA @b3 (zA @b4 (zA @b5 (zA @b6 (zA @c1 @c2))))))))))))
  refine wl ?_ <;> and_intros <;> first | exact hdT | (apply zM; (repeat intro ht); apply zM; (repeat intro hg); apply zM)
  obtain ⟨l1, e_l1, h_l1⟩ : ∃ x, x = l ++ iff1 ((s.nk : Int) != s.cpus) ⟨2, 0, 0⟩ ∧ x.length ≤ (l).length + 1 := ⟨_, rfl, iff1_len _ _ _⟩
  refine cl [.gen (.tup []) (k + 2) (LK (L) (F) s (l)) (LK (L) (k + 1) s (l1))] ?_ <;> and_intros <;> first | exact hdT | (apply zM; (repeat intro ht); apply zM; (repeat intro hg); apply zM)
  · exact found' (k + 1) (L) (F) s (l) (l1) _ ((s.nk : Int) != s.cpus) _ _ _ (by first | rfl | (rw [Bool.eq_iff_iff]; simp only [beq_iff_eq, bne_iff_ne, ne_eq, decide_eq_true_eq, decide_eq_false_iff_not, Bool.and_eq_true, Bool.or_eq_true, Bool.not_eq_true', beq_eq_false_iff_ne, Bool.false_eq_true, Bool.true_eq_false, true_iff, false_iff, iff_true, iff_false]; omega) | (simp [hg]; done) | (simp [hg, hq]; done) | (simp_all; done) | (simp_all; omega)) e_l1 (by omega) (by omega) (by omega) (by omega)
  refine wl ?_ <;> and_intros <;> first | exact hdT | (apply zM; (repeat intro ht); apply zM; (repeat intro hg); apply zM)
  obtain ⟨l2, e_l2, h_l2⟩ : ∃ x, x = l1 ++ iff1 ((s.nu : Int) != s.cpus) ⟨2, 1, 0⟩ ∧ x.length ≤ (l1).length + 1 := ⟨_, rfl, iff1_len _ _ _⟩
  refine cl [.gen (.tup []) (k + 3) (LK (L) (k + 1) s (l1)) (LK (L) (k + 2) s (l2))] ?_ <;> and_intros <;> first | exact hdT | (apply zM; (repeat intro ht); apply zM; (repeat intro hg); apply zM)
  · exact found' (k + 2) (L) (k + 1) s (l1) (l2) _ ((s.nu : Int) != s.cpus) _ _ _ (by first | rfl | (rw [Bool.eq_iff_iff]; simp only [beq_iff_eq, bne_iff_ne, ne_eq, decide_eq_true_eq, decide_eq_false_iff_not, Bool.and_eq_true, Bool.or_eq_true, Bool.not_eq_true', beq_eq_false_iff_ne, Bool.false_eq_true, Bool.true_eq_false, true_iff, false_iff, iff_true, iff_false]; omega) | (simp [hg]; done) | (simp [hg, hq]; done) | (simp_all; done) | (simp_all; omega)) e_l2 (by omega) (by omega) (by omega) (by omega)
  refine wl ?_ <;> and_intros <;> first | exact hdT | (apply zM; (repeat intro ht); apply zM; (repeat intro hg); apply zM)
  obtain ⟨l3, e_l3, h_l3⟩ : ∃ x, x = l2 ++ iff1 ((s.ns : Int) != s.ng) ⟨2, 2, 0⟩ ∧ x.length ≤ (l2).length + 1 := ⟨_, rfl, iff1_len _ _ _⟩
  refine cl [.gen (.tup []) (k + 4) (LK (L) (k + 2) s (l2)) (LK (L) (k + 3) s (l3))] ?_ <;> and_intros <;> first | exact hdT | (apply zM; (repeat intro ht); apply zM; (repeat intro hg); apply zM)
  · exact found' (k + 3) (L) (k + 2) s (l2) (l3) _ ((s.ns : Int) != s.ng) _ _ _ (by first | rfl | (rw [Bool.eq_iff_iff]; simp only [beq_iff_eq, bne_iff_ne, ne_eq, decide_eq_true_eq, decide_eq_false_iff_not, Bool.and_eq_true, Bool.or_eq_true, Bool.not_eq_true', beq_eq_false_iff_ne, Bool.false_eq_true, Bool.true_eq_false, true_iff, false_iff, iff_true, iff_false]; omega) | (simp [hg]; done) | (simp [hg, hq]; done) | (simp_all; done) | (simp_all; omega)) e_l3 (by omega) (by omega) (by omega) (by omega)
  have e3 : l3 = l ++ (iff1 ((s.nk : Int) != s.cpus) ⟨2, 0, 0⟩ ++ (iff1 ((s.nu : Int) != s.cpus) ⟨2, 1, 0⟩ ++ iff1 ((s.ns : Int) != s.ng) ⟨2, 2, 0⟩)) := by rw [e_l3, e_l2, e_l1]; simp
  clear e_l3 e_l2 e_l1
  refine wl ?_ <;> and_intros <;> first | exact hdT | (apply zM; (repeat intro ht); apply zM; (repeat intro hg); apply zM)
  · refine M_forO (X := Nat) rfl [0,2,3,4,5,47,49,50,51,52] (k + 4) (fun i => [(51, .lit (.int .i64 (i : Int)))]) (fun i => (L, ⟨8, false, [lkRow (k + 3) s (l3 ++ flats (shapeAt s) i)]⟩) :: accH (k + 3) 3 ((l3 ++ flats (shapeAt s) i).map Flt.row) [(k, ⟨7, true, [s.cells]⟩)]) (fun i => i ≤ s.ns) (fun i => s.ns - i) 0 ?_ (Nat.zero_le _) ?_
    · rw [flats_zero, List.append_nil]
      refine rR ?_ <;> first | exact hdT | apply zN
      (have uU := zA @a1 (zA @a2 (zA @a3 (zA @a4 (zA @a5 (zA @a6 (zA @b1 (zA @b2 (zA @b3 (zA @b4 (zA @b5 (zA @b6 (zA @c1 @c2)))))))))))); exact wkU)
    intro i hi
    have hfl := flats_len (shapeAt_len s) i
    obtain ⟨l4, e4, h4⟩ : ∃ x, x = l3 ++ flats (shapeAt s) i ∧ x.length ≤ l3.length + i := ⟨_, rfl, by simp; omega⟩
    rw [← e4]
    refine rR ?_ <;> first | exact hdT | apply zN
    refine wl ?_ <;> and_intros <;> first | exact hdT | (apply zM; (repeat intro ht); apply zM; (repeat intro hg); apply zM)
    · obtain ⟨l5, e_l5, h_l5⟩ : ∃ x, x = l4 ++ iff1 (((s.nsp i : Nat) : Int) != s.cpus) ⟨2, 3, (i : Int)⟩ ∧ x.length ≤ (l4).length + 1 := ⟨_, rfl, iff1_len _ _ _⟩
      refine cl [.gen (.tup []) (k + 5) (LK (L) (k + 3) s (l4)) (LK (L) (k + 4) s (l5))] ?_ <;> and_intros <;> first | exact hdT | (apply zM; (repeat intro ht); apply zM; (repeat intro hg); apply zM)
      · exact found' (k + 4) (L) (k + 3) s (l4) (l5) _ (((s.nsp i : Nat) : Int) != s.cpus) _ _ _ (by first | rfl | (rw [Bool.eq_iff_iff]; simp only [beq_iff_eq, bne_iff_ne, ne_eq, decide_eq_true_eq, decide_eq_false_iff_not, Bool.and_eq_true, Bool.or_eq_true, Bool.not_eq_true', beq_eq_false_iff_ne, Bool.false_eq_true, Bool.true_eq_false, true_iff, false_iff, iff_true, iff_false]; omega) | (simp [hg]; done) | (simp [hg, hq]; done) | (simp_all; done) | (simp_all; omega)) e_l5 (by omega) (by omega) (by omega) (by omega)
      refine wl ?_ <;> and_intros <;> first | exact hdT | (apply zM; (repeat intro ht); apply zM; (repeat intro hg); apply zM)
      refine ⟨i + 1, by omega, by omega, ?_⟩
      rw [show l3 ++ flats (shapeAt s) (i + 1) = l5 by
        rw [flats_succ, ← List.append_assoc, ← e4, e_l5, shapeAt, iff1]
        congr 1
        by_cases hc : ((s.nsp i : Nat) : Int) = s.cpus <;> simp [hc]]
      refine rR ?_ <;> first | exact hdT | apply zN
      exact Mv.app (k + 4) (k + 3) ⟨by omega, by omega⟩ ⟨by omega, by omega⟩ (wk_low (by omega) (by simp -dsimp -implicitDefEqProofs only [go_sem, a1, a2, a3, a4, a5, a6, b1, b2, b3, b4, b5, b6, c1, c2, List.map_append, Flt.row, eq_self, ↓reduceIte]) (by simp -dsimp -implicitDefEqProofs only [go_sem, a1, a2, a3, a4, a5, a6, b1, b2, b3, b4, b5, b6, c1, c2, List.map_append, Flt.row, eq_self, ↓reduceIte]) (by simp -dsimp -implicitDefEqProofs only [go_sem, a1, a2, a3, a4, a5, a6, b1, b2, b3, b4, b5, b6, c1, c2, List.map_append, Flt.row, eq_self, ↓reduceIte]) (by simp -dsimp -implicitDefEqProofs only [go_sem, a1, a2, a3, a4, a5, a6, b1, b2, b3, b4, b5, b6, c1, c2, List.map_append, Flt.row, eq_self, ↓reduceIte]))
    · have hi' : i = s.ns := by omega
      have he : l4 = l ++ shapeA s := by
        rw [e4, e3, shapeA, if_pos (by omega), hi']
        simp
      refine ⟨k + 1, [], LK L k s l4, ?_, _, rfl, rfl, rfl, by rw [he]; rfl⟩
      exact Mv.app (k + 3) (k) ⟨by omega, by omega⟩ ⟨by omega, by omega⟩ (wk_low (by omega) (by simp -dsimp -implicitDefEqProofs only [go_sem, a1, a2, a3, a4, a5, a6, b1, b2, b3, b4, b5, b6, c1, c2, List.map_append, Flt.row, eq_self, ↓reduceIte]) (by simp -dsimp -implicitDefEqProofs only [go_sem, a1, a2, a3, a4, a5, a6, b1, b2, b3, b4, b5, b6, c1, c2, List.map_append, Flt.row, eq_self, ↓reduceIte]) (by simp -dsimp -implicitDefEqProofs only [go_sem, a1, a2, a3, a4, a5, a6, b1, b2, b3, b4, b5, b6, c1, c2, List.map_append, Flt.row, eq_self, ↓reduceIte]) (by simp -dsimp -implicitDefEqProofs only [go_sem, a1, a2, a3, a4, a5, a6, b1, b2, b3, b4, b5, b6, c1, c2, List.map_append, Flt.row, eq_self, ↓reduceIte]))
  · have he : l3 = l ++ shapeA s := by
      rw [e3, shapeA, if_neg (by omega)]
      simp
    refine ⟨k + 1, [], LK L k s l3, ?_, _, rfl, rfl, rfl, by rw [he]; rfl⟩
    exact Mv.app (k + 3) (k) ⟨by omega, by omega⟩ ⟨by omega, by omega⟩ (wk_low (by omega) (by simp -dsimp -implicitDefEqProofs only [go_sem, a1, a2, a3, a4, a5, a6, b1, b2, b3, b4, b5, b6, c1, c2, List.map_append, Flt.row, eq_self, ↓reduceIte]) (by simp -dsimp -implicitDefEqProofs only [go_sem, a1, a2, a3, a4, a5, a6, b1, b2, b3, b4, b5, b6, c1, c2, List.map_append, Flt.row, eq_self, ↓reduceIte]) (by simp -dsimp -implicitDefEqProofs only [go_sem, a1, a2, a3, a4, a5, a6, b1, b2, b3, b4, b5, b6, c1, c2, List.map_append, Flt.row, eq_self, ↓reduceIte]) (by simp -dsimp -implicitDefEqProofs only [go_sem, a1, a2, a3, a4, a5, a6, b1, b2, b3, b4, b5, b6, c1, c2, List.map_append, Flt.row, eq_self, ↓reduceIte]))
theorem clo1 (s : St) (i : Nat) (now c : Int) : Pure Tryz.prog Γ 244 [.agg (tf s i), .rp [.lit (.int .i64 now)], .rp [.lit (.int .i64 c)]] (.lit (.bool (isReady s now c i))) := by
  refine Pure_at Tryz.func244 rfl 19 rfl (Nat.le_of_ble_eq_true rfl) rfl fun k => ?_
  have kp : Kp [0,1,2,3,4] (fun i => i - k) := kpI
  refine wl ?_ <;> and_intros <;> first | exact hdT | (apply zM; (repeat intro ht); apply zM; (repeat intro hg); apply zM)
  all_goals (refine C_ret rfl ⟨_, rfl, VLe.of_eq ?_⟩)
  all_goals (congr 2; rw [Bool.eq_iff_iff]; simp_all [isReady])
def f0 (f : Nat → Bool) : Nat → Option Nat
  | 0 => none
  | n + 1 => match f0 f n with
    | some i => some i
    | none => if f n = true then some n else none
theorem f0_none {f : Nat → Bool} : ∀ {n : Nat}, (∀ i, i < n → f i = false) → f0 f n = none
  | 0, _ => rfl
  | n + 1, h => by rw [f0, f0_none (fun i hi => h i (by omega))]; simp [h n (by omega)]
theorem f0_some {f : Nat → Bool} {i : Nat} (hall : ∀ j, j < i → f j = false) (hi : f i = true) : ∀ {n : Nat}, i < n → f0 f n = some i
  | 0, h => by omega
  | n + 1, h => by
    rw [f0]
    by_cases he : i = n
    · subst he; rw [f0_none hall]; simp [hi]
    · rw [f0_some hall hi (by omega)]
def idx (f : Nat → Bool) (n : Nat) : Int := match f0 f n with | some i => (i : Int) | none => -1
theorem idx_any (f : Nat → Bool) (n : Nat) : decide (0 ≤ idx f n) = anyB f n := by
  have key : ∀ n, (f0 f n).isSome = anyB f n := by
    intro n
    induction n with
    | zero => rfl
    | succ n ih =>
      rw [anyB, ← ih, f0]
      cases f0 f n with
      | some i => rfl
      | none => cases f n <;> rfl
  rw [← key, idx]
  cases f0 f n <;> simp
theorem indexFunc (s : St) (n : Nat) (now c : Int) (hn : n ≤ 1000) : Pure Tryz.prog Γ 125 [.rd 8 n (tf s), .fn 244 [.rp [.lit (.int .i64 now)], .rp [.lit (.int .i64 c)]]] (.lit (.int .i64 (idx (isReady s now c) n))) := by
  refine Pure_at Tryz.func125 rfl 19 rfl (Nat.le_of_ble_eq_true rfl) rfl fun k => ?_
  have kp : Kp [0,1,4,5,7,8,9,16] (fun i => i - k) := kpI
  refine wl ?_ <;> and_intros <;> first | exact hdT | (apply zM; (repeat intro ht); apply zM; (repeat intro hg); apply zM)
  refine M_forO (X := Nat) rfl [0,1,4,5,7,8,9,16] k (fun i => [(8, .lit (.int .i64 (i : Int)))]) (fun i => []) (fun i => i ≤ n ∧ ∀ j, j < i → isReady s now c j = false) (fun i => n - i) 0 ?_ ⟨Nat.zero_le _, fun j hj => absurd hj (Nat.not_lt_zero _)⟩ ?_
  · refine rR ?_ <;> first | exact hdT | apply zN
    exact wkF
  rintro i ⟨hi, hall⟩
  refine rR ?_ <;> first | exact hdT | apply zN
  refine wl ?_ <;> and_intros <;> first | exact hdT | (apply zM; (repeat intro ht); apply zM; (repeat intro hg); apply zM)
  · refine cl [.ret (.lit (.bool (isReady s now c i)))] ?_ <;> and_intros <;> first | exact hdT | (apply zM; (repeat intro ht); apply zM; (repeat intro hg); apply zM)
    · exact clo1 s i now c
    refine wl ?_ <;> and_intros <;> first | exact hdT | (apply zM; (repeat intro ht); apply zM; (repeat intro hg); apply zM)
    · refine C_ret rfl ⟨_, rfl, VLe.of_eq ?_⟩
      rw [idx, f0_some hall ht (by omega)]
    · refine ⟨i + 1, ⟨by omega, fun j hj => ?_⟩, by omega, ?_⟩
      · by_cases he : j = i
        · subst he; exact ht
        · exact hall j (by omega)
      · refine rR ?_ <;> first | exact hdT | apply zN
        exact wkF
  · refine C_ret rfl ⟨_, rfl, VLe.of_eq ?_⟩
    rw [idx, f0_none (fun j hj => hall j (by omega))]
theorem containsFunc (s : St) (n : Nat) (now c : Int) (hn : n ≤ 1000) : Pure Tryz.prog Γ 66 [.rd 8 n (tf s), .fn 244 [.rp [.lit (.int .i64 now)], .rp [.lit (.int .i64 c)]]] (.lit (.bool (anyB (isReady s now c) n))) := by
  refine Pure_at Tryz.func66 rfl 9 rfl (Nat.le_of_ble_eq_true rfl) rfl fun k => ?_
  have kp : Kp [0,1,4] (fun i => i - k) := kpI
  refine wl ?_ <;> and_intros <;> first | exact hdT | (apply zM; (repeat intro ht); apply zM; (repeat intro hg); apply zM)
  refine cl [.ret (.lit (.int .i64 (idx (isReady s now c) n)))] ?_ <;> and_intros <;> first | exact hdT | (apply zM; (repeat intro ht); apply zM; (repeat intro hg); apply zM)
  · exact indexFunc s n now c hn
  refine C_ret rfl ⟨_, rfl, VLe.of_eq ?_⟩
  rw [idx_any]
end Go.Proofs.T
end
section
namespace Go.Proofs.T
open Go Go.AM Go.Proofs
set_option maxRecDepth 20000
variable {Γ : List (Nat × List AVal)}
def clockAt (s : St) (c : Nat) : List Flt := iff1 (decide (s.clk c < 0 ∨ 281474976710656 < s.clk c)) ⟨3, (c : Int), 0⟩
theorem iff1_len1 (b : Bool) (f : Flt) : (iff1 b f).length ≤ 1 := by unfold iff1; split <;> simp
def curAt (s : St) (c : Nat) : List Flt := iff1 (decide (s.cur c ≠ 0) && !(anyB (isReady s (s.cur c) c) s.nt)) ⟨13, (c : Int), 0⟩
def clocksA (s : St) : List Flt := flats (clockAt s) s.nk ++ flats (curAt s) s.nu
theorem clocks (s : St) (hs : s.Small) : Adds Γ 191 s (clocksA s) := by
  obtain ⟨hng, hnk, hnu, hnt, hns, hnsp⟩ := id hs
  intro k L F l hL hF hne hl
  obtain ⟨a1, a2, a3, a4, a5, a6⟩ := old_name hL
  obtain ⟨b1, b2, b3, b4, b5, b6⟩ := old_name hF
  obtain ⟨c1, c2⟩ := two_names hne
  refine Tr_at Tryz.func191 rfl 56 rfl (Nat.le_of_ble_eq_true rfl) (W_upM ?_)
  refine W_mv (Mv.fresh F (by omega)) ?_
  have uU := zA @a1 (zA @a2 (zA @a3 (zA @a4 (zA @a5 (zA @a6 (zA @b1 (zA @b2 (zA @b3 (zA @b4 (zA @b5 (zA @b6 (zA @c1 @c2))))))))))))
  refine rR ?_ <;> first | exact hdT | apply zN
  refine C_seq rfl ?_
  refine C_seq rfl ?_
  have kp : Kp [0,2,3,4,5,6,11,12,13,14,32,33,34,35] (fun i => if i = L then 0 else i - k + 1) := kpI
  refine wl ?_ <;> and_intros <;> first | exact hdT | (apply zM; (repeat intro ht); apply zM; (repeat intro hg); apply zM)
  refine M_forO (X := Nat) rfl [0,2,3,4,5,6,11,12,13,14,32,33,34,35] (k + 1) (fun i => [(13, .lit (.int .i64 (i : Int)))]) (fun i => LK L k s (l ++ flats (clockAt s) i)) (fun i => i ≤ s.nk) (fun i => s.nk - i) 0 ?_ (Nat.zero_le _) ?_
  · rw [flats_zero, List.append_nil]
    refine rR ?_ <;> first | exact hdT | apply zN
    (have uU := zA @a1 (zA @a2 (zA @a3 (zA @a4 (zA @a5 (zA @a6 (zA @b1 (zA @b2 (zA @b3 (zA @b4 (zA @b5 (zA @b6 (zA @c1 @c2)))))))))))); exact wkU)
  · intro i hi
    have hfl := flats_len (fun c => iff1_len1 _ _) (f := clockAt s) i
    obtain ⟨l4, e4, h4⟩ : ∃ x, x = l ++ flats (clockAt s) i ∧ x.length ≤ l.length + i := ⟨_, rfl, by simp; omega⟩
    rw [← e4]
    refine rR ?_ <;> first | exact hdT | apply zN
    refine wl ?_ <;> and_intros <;> first | exact hdT | (apply zM; (repeat intro ht); apply zM; (repeat intro hg); apply zM)
    · obtain ⟨l5, e_l5, h_l5⟩ : ∃ x, x = l4 ++ iff1 (decide (s.clk i < 0 ∨ 281474976710656 < s.clk i)) ⟨3, (i : Int), 0⟩ ∧ x.length ≤ (l4).length + 1 := ⟨_, rfl, iff1_len _ _ _⟩
      refine M_cutO [0,2,3,4,5,6,11,12,13,14,32,33,34,35] (k + 2) [] ((L, ⟨8, false, [lkRow (k + 1) s (l5)]⟩) :: accH (k + 1) 3 ((l5).map Flt.row) []) ?_ ?_
      · refine cl [.gen (.tup []) (k + 2) (LK (L) (k) s (l4)) (LK (L) (k + 1) s (l5))] ?_ <;> and_intros <;> first | exact hdT | (apply zM; (repeat intro ht); apply zM; (repeat intro hg); apply zM)
        all_goals (first | (exact found' (k + 1) (L) (k) s (l4) (l5) _ (decide (s.clk i < 0 ∨ 281474976710656 < s.clk i)) _ _ _ (by first | rfl | (rw [Bool.eq_iff_iff]; simp only [beq_iff_eq, bne_iff_ne, ne_eq, decide_eq_true_eq, decide_eq_false_iff_not, Bool.and_eq_true, Bool.or_eq_true, Bool.not_eq_true', beq_eq_false_iff_ne, Bool.false_eq_true, Bool.true_eq_false, true_iff, false_iff, iff_true, iff_false]; omega) | (simp [hg]; done) | (simp [hg, hq]; done) | (simp_all; done) | (simp_all; omega)) e_l5 (by omega) (by omega) (by omega) (by omega)) | ((have uU := zA @a1 (zA @a2 (zA @a3 (zA @a4 (zA @a5 (zA @a6 (zA @b1 (zA @b2 (zA @b3 (zA @b4 (zA @b5 (zA @b6 (zA @c1 @c2)))))))))))); exact wkU)))
      refine rR ?_ <;> first | exact hdT | apply zN
      refine wl ?_ <;> and_intros <;> first | exact hdT | (apply zM; (repeat intro ht); apply zM; (repeat intro hg); apply zM)
      refine ⟨i + 1, by omega, by omega, ?_⟩
      rw [show l ++ flats (clockAt s) (i + 1) = l5 by rw [flats_succ, ← List.append_assoc, ← e4, e_l5]; rfl]
      refine rR ?_ <;> first | exact hdT | apply zN
      exact Mv.app (k + 1) (k) ⟨by omega, by omega⟩ ⟨by omega, by omega⟩ (wk_low (by omega) (by simp -dsimp -implicitDefEqProofs only [go_sem, a1, a2, a3, a4, a5, a6, b1, b2, b3, b4, b5, b6, c1, c2, List.map_append, Flt.row, eq_self, ↓reduceIte]) (by simp -dsimp -implicitDefEqProofs only [go_sem, a1, a2, a3, a4, a5, a6, b1, b2, b3, b4, b5, b6, c1, c2, List.map_append, Flt.row, eq_self, ↓reduceIte]) (by simp -dsimp -implicitDefEqProofs only [go_sem, a1, a2, a3, a4, a5, a6, b1, b2, b3, b4, b5, b6, c1, c2, List.map_append, Flt.row, eq_self, ↓reduceIte]) (by simp -dsimp -implicitDefEqProofs only [go_sem, a1, a2, a3, a4, a5, a6, b1, b2, b3, b4, b5, b6, c1, c2, List.map_append, Flt.row, eq_self, ↓reduceIte]))
    · have hi' : i = s.nk := by omega
      subst hi'
      have h4' : l4.length ≤ 11000 := by omega
      refine M_forO (X := Nat) rfl [0,2,3,4,5,6,11,12,13,14,32,33,34,35] (k + 1) (fun i => [(34, .lit (.int .i64 (i : Int)))]) (fun i => LK L k s (l4 ++ flats (curAt s) i)) (fun i => i ≤ s.nu) (fun i => s.nu - i) 0 ?_ (Nat.zero_le _) ?_
      · rw [flats_zero, List.append_nil]
        refine rR ?_ <;> first | exact hdT | apply zN
        (have uU := zA @a1 (zA @a2 (zA @a3 (zA @a4 (zA @a5 (zA @a6 (zA @b1 (zA @b2 (zA @b3 (zA @b4 (zA @b5 (zA @b6 (zA @c1 @c2)))))))))))); exact wkU)
      intro i hi
      have hfl := flats_len (fun c => iff1_len1 _ _) (f := curAt s) i
      obtain ⟨l6, e6, h6⟩ : ∃ x, x = l4 ++ flats (curAt s) i ∧ x.length ≤ l4.length + i := ⟨_, rfl, by simp; omega⟩
      rw [← e6]
      refine rR ?_ <;> first | exact hdT | apply zN
      refine wl ?_ <;> and_intros <;> first | exact hdT | (apply zM; (repeat intro ht); apply zM; (repeat intro hg); apply zM)
      · refine W_mv (Mv.freeze (k + 1) (by simp -dsimp -implicitDefEqProofs only [go_sem, a1, a2, a3, a4, a5, a6, b1, b2, b3, b4, b5, b6, c1, c2, eq_self, ↓reduceIte]; rfl) rfl) ?_; simp -dsimp -implicitDefEqProofs only [frzF, frz_app, go_sem, a1, a2, a3, a4, a5, a6, b1, b2, b3, b4, b5, b6, c1, c2, eq_self, ↓reduceIte]
        refine W_mv (Mv.freeze (k + 2) (by simp -dsimp -implicitDefEqProofs only [go_sem, a1, a2, a3, a4, a5, a6, b1, b2, b3, b4, b5, b6, c1, c2, eq_self, ↓reduceIte]; rfl) rfl) ?_; simp -dsimp -implicitDefEqProofs only [frzF, frz_app, go_sem, a1, a2, a3, a4, a5, a6, b1, b2, b3, b4, b5, b6, c1, c2, eq_self, ↓reduceIte]
        obtain ⟨l7, e_l7, h_l7⟩ : ∃ x, x = l6 ++ iff1 (decide (s.cur i ≠ 0) && !(anyB (isReady s (s.cur i) i) s.nt)) ⟨13, (i : Int), 0⟩ ∧ x.length ≤ (l6).length + 1 := ⟨_, rfl, iff1_len _ _ _⟩
        refine M_cutO [0,2,3,4,5,6,11,12,13,14,32,33,34,35] (k + 4) [] ((L, ⟨8, false, [lkRow (k + 3) s (l7)]⟩) :: accH (k + 3) 3 ((l7).map Flt.row) []) ?_ ?_
        · refine dl [.ret (.lit (.bool (anyB (isReady s (s.cur i) i) s.nt))), .gen (.tup []) (k + 4) (LK (L) (k) s (l6)) (LK (L) (k + 3) s (l7))] ?_ <;> and_intros <;> first | exact hdT | (apply zM; (repeat intro ht); apply zM; (repeat intro hg); apply zM)
          all_goals (first | (exact found' (k + 3) (L) (k) s (l6) (l7) _ (decide (s.cur i ≠ 0) && !(anyB (isReady s (s.cur i) i) s.nt)) _ _ _ (by first | rfl | (rw [Bool.eq_iff_iff]; simp only [beq_iff_eq, bne_iff_ne, ne_eq, decide_eq_true_eq, decide_eq_false_iff_not, Bool.and_eq_true, Bool.or_eq_true, Bool.not_eq_true', beq_eq_false_iff_ne, Bool.false_eq_true, Bool.true_eq_false, true_iff, false_iff, iff_true, iff_false]; omega) | (simp [hg]; done) | (simp [hg, hq]; done) | (simp_all; done) | (simp_all; omega)) e_l7 (by omega) (by omega) (by omega) (by omega)) | (exact containsFunc s s.nt (s.cur i) i hnt) | ((have uU := zA @a1 (zA @a2 (zA @a3 (zA @a4 (zA @a5 (zA @a6 (zA @b1 (zA @b2 (zA @b3 (zA @b4 (zA @b5 (zA @b6 (zA @c1 @c2)))))))))))); exact wkU)))
        refine rR ?_ <;> first | exact hdT | apply zN
        refine wl ?_ <;> and_intros <;> first | exact hdT | (apply zM; (repeat intro ht); apply zM; (repeat intro hg); apply zM)
        refine ⟨i + 1, by omega, by omega, ?_⟩
        rw [show l4 ++ flats (curAt s) (i + 1) = l7 by rw [flats_succ, ← List.append_assoc, ← e6, e_l7]; rfl]
        refine rR ?_ <;> first | exact hdT | apply zN
        exact Mv.app (k + 3) (k) ⟨by omega, by omega⟩ ⟨by omega, by omega⟩ (wk_low (by omega) (by simp -dsimp -implicitDefEqProofs only [go_sem, a1, a2, a3, a4, a5, a6, b1, b2, b3, b4, b5, b6, c1, c2, List.map_append, Flt.row, eq_self, ↓reduceIte]) (by simp -dsimp -implicitDefEqProofs only [go_sem, a1, a2, a3, a4, a5, a6, b1, b2, b3, b4, b5, b6, c1, c2, List.map_append, Flt.row, eq_self, ↓reduceIte]) (by simp -dsimp -implicitDefEqProofs only [go_sem, a1, a2, a3, a4, a5, a6, b1, b2, b3, b4, b5, b6, c1, c2, List.map_append, Flt.row, eq_self, ↓reduceIte]) (by simp -dsimp -implicitDefEqProofs only [go_sem, a1, a2, a3, a4, a5, a6, b1, b2, b3, b4, b5, b6, c1, c2, List.map_append, Flt.row, eq_self, ↓reduceIte]))
      · have hi' : i = s.nu := by omega
        subst hi'
        have he : l6 = l ++ clocksA s := by rw [e6, e4, clocksA]; simp
        refine ⟨k + 1, [], LK L k s l6, ?_, _, rfl, rfl, rfl, by rw [he]; rfl⟩
        (have uU := zA @a1 (zA @a2 (zA @a3 (zA @a4 (zA @a5 (zA @a6 (zA @b1 (zA @b2 (zA @b3 (zA @b4 (zA @b5 (zA @b6 (zA @c1 @c2)))))))))))); exact wkU)
end Go.Proofs.T
end
section
namespace Go.Proofs.T
open Go Go.AM Go.Proofs
set_option maxRecDepth 20000
variable {Γ : List (Nat × List AVal)}
def onB (s : St) (i : Nat) : Bool := decide (0 ≤ (s.tsk i).cpu ∧ (s.tsk i).cpu < s.cpus)
def max0 (x : Int) : Int := if 0 > x then 0 else x
def shr (m c : Int) : Int := m.fdiv (2 ^ min c.toNat 64)
def and1 (m : Int) : Int := IntKind.u64.wrap (BitVec.ofInt IntKind.u64.bits m &&& BitVec.ofInt IntKind.u64.bits 1).toNat
def t4 (s : St) (i : Nat) : Bool := decide (0 < (i : Int)) && decide ((s.tsk i).id ≤ (s.tsk (i - 1)).id)
def t5 (s : St) (i : Nat) : Bool := decide ((s.tsk i).id < 1 ∨ 65535 < (s.tsk i).id)
def t6 (s : St) (i : Nat) : Bool := decide ((s.tsk i).group < 0 ∨ (s.ng : Int) ≤ (s.tsk i).group)
def t7 (s : St) (i : Nat) : Bool := !(onB s i)
def t8 (s : St) (i : Nat) : Bool := decide (s.cpus < 64) && decide (0 < shr (s.tsk i).mask s.cpus)
def t9 (s : St) (i : Nat) : Bool := onB s i && (and1 (shr (s.tsk i).mask (max0 (s.tsk i).cpu)) == 0)
def t10 (s : St) (i : Nat) : Bool := !(ent (s.tsk i).v (s.tsk i).r (s.tsk i).weight)
def taskAt (s : St) (i : Nat) : List Flt := iff1 (t4 s i) ⟨4, (i : Int), 0⟩ ++ (iff1 (t5 s i) ⟨5, (i : Int), 0⟩ ++ (iff1 (t6 s i) ⟨6, (i : Int), 0⟩ ++ (iff1 (t7 s i) ⟨7, (i : Int), 0⟩ ++ (iff1 (t8 s i) ⟨8, (i : Int), 0⟩ ++ (iff1 (t9 s i) ⟨9, (i : Int), 0⟩ ++ iff1 (t10 s i) ⟨10, (i : Int), 0⟩)))))
theorem taskAt_len (s : St) (i : Nat) : (taskAt s i).length ≤ 7 := by
  have h := fun b f => iff1_len1 b f
  simp only [taskAt, List.length_append]
  have := h (t4 s i) ⟨4, (i : Int), 0⟩; have := h (t5 s i) ⟨5, (i : Int), 0⟩; have := h (t6 s i) ⟨6, (i : Int), 0⟩; have := h (t7 s i) ⟨7, (i : Int), 0⟩
  have := h (t8 s i) ⟨8, (i : Int), 0⟩; have := h (t9 s i) ⟨9, (i : Int), 0⟩; have := h (t10 s i) ⟨10, (i : Int), 0⟩
  omega
def tasksA (s : St) : List Flt := flats (taskAt s) s.nt
set_option maxHeartbeats 4000000 in
theorem tasks (s : St) (hs : s.Small) (hc : 0 ≤ s.cpus) : Adds Γ 192 s (tasksA s) := by
  obtain ⟨hng, hnk, hnu, hnt, hns, hnsp⟩ := id hs
  intro k L F l hL hF hne hl
  obtain ⟨a1, a2, a3, a4, a5, a6⟩ := old_name hL
  obtain ⟨b1, b2, b3, b4, b5, b6⟩ := old_name hF
  obtain ⟨c1, c2⟩ := two_names hne
  refine Tr_at Tryz.func192 rfl 125 rfl (Nat.le_of_ble_eq_true rfl) (W_upM ?_)
  refine W_mv (Mv.fresh F (by omega)) ?_
  have uU := zA @a1 (zA @a2 (zA @a3 (zA @a4 (zA @a5 (zA @a6 (zA @b1 (zA @b2 (zA @b3 (zA @b4 (zA @b5 (zA @b6 (zA @c1 @c2))))))))))))
  refine rR ?_ <;> first | exact hdT | apply zN
  have kp : Kp [0,2,3,4,5,16,17,18,19] (fun i => if i = L then 0 else i - k + 1) := kpI
  refine wl ?_ <;> and_intros <;> first | exact hdT | (apply zM; (repeat intro ht); apply zM; (repeat intro hg); apply zM)
  refine M_forO (X := Nat) rfl [0,2,3,4,5,16,17,18,19] (k + 1) (fun i => [(18, .lit (.int .i64 (i : Int)))]) (fun i => LK L k s (l ++ flats (taskAt s) i)) (fun i => i ≤ s.nt) (fun i => s.nt - i) 0 ?_ (Nat.zero_le _) ?_
  · rw [flats_zero, List.append_nil]
    refine rR ?_ <;> first | exact hdT | apply zN
    (have uU := zA @a1 (zA @a2 (zA @a3 (zA @a4 (zA @a5 (zA @a6 (zA @b1 (zA @b2 (zA @b3 (zA @b4 (zA @b5 (zA @b6 (zA @c1 @c2)))))))))))); exact wkU)
  intro i hi
  have hfl := flats_len (taskAt_len s) i
  obtain ⟨l0, e0, h0⟩ : ∃ x, x = l ++ flats (taskAt s) i ∧ x.length ≤ l.length + i * 7 := ⟨_, rfl, by simp; omega⟩
  rw [← e0]
  refine rR ?_ <;> first | exact hdT | apply zN
  refine wl ?_ <;> and_intros <;> first | exact hdT | (apply zM; (repeat intro ht); apply zM; (repeat intro hg); apply zM)
  rotate_right
  · have hi' : i = s.nt := by omega
    subst hi'
    refine ⟨k + 1, [], LK L k s l0, ?_, _, rfl, rfl, rfl, by rw [e0]; rfl⟩
    (have uU := zA @a1 (zA @a2 (zA @a3 (zA @a4 (zA @a5 (zA @a6 (zA @b1 (zA @b2 (zA @b3 (zA @b4 (zA @b5 (zA @b6 (zA @c1 @c2)))))))))))); exact wkU)
  all_goals
    have hq := hg
    have hw1 : IntKind.i64.wrap ((i : Int) - 1) = (i : Int) - 1 := wrap_i64 (by omega) (by omega)
    have hmx : (if (0 : Int) > (i : Int) - 1 then (0 : Int) else (i : Int) - 1) = ((i - 1 : Nat) : Int) := by split <;> omega
    obtain ⟨l1, e_l1, h_l1⟩ : ∃ x, x = l0 ++ iff1 (decide (0 < (i : Int)) && decide ((s.tsk i).id ≤ (s.tsk (i - 1)).id)) ⟨4, (i : Int), 0⟩ ∧ x.length ≤ (l0).length + 1 := ⟨_, rfl, iff1_len _ _ _⟩
    refine M_cutO [0,2,3,4,5,16,17,18,19] (k + 3) [] ((L, ⟨8, false, [lkRow (k + 2) s (l1)]⟩) :: accH (k + 2) 3 ((l1).map Flt.row) [(k + 1, ⟨8, true, [tf s i]⟩)]) ?_ ?_
    · have uU := zA @a1 (zA @a2 (zA @a3 (zA @a4 (zA @a5 (zA @a6 (zA @b1 (zA @b2 (zA @b3 (zA @b4 (zA @b5 (zA @b6 (zA @c1 (zA @c2 (zA @hw1 @hmx))))))))))))))
      refine dl [.gen (.tup []) (k + 3) (LK (L) (k) s (l0)) (LK (L) (k + 2) s (l1))] ?_ <;> and_intros <;> first | exact hdT | (apply zM; (repeat intro ht); apply zM; (repeat intro hg); apply zM)
      all_goals (first | (exact found' (k + 2) (L) (k) s (l0) (l1) _ (decide (0 < (i : Int)) && decide ((s.tsk i).id ≤ (s.tsk (i - 1)).id)) _ _ _ (by first | rfl | (rw [Bool.eq_iff_iff]; simp only [beq_iff_eq, bne_iff_ne, ne_eq, decide_eq_true_eq, decide_eq_false_iff_not, Bool.and_eq_true, Bool.or_eq_true, Bool.not_eq_true', beq_eq_false_iff_ne, Bool.false_eq_true, Bool.true_eq_false, true_iff, false_iff, iff_true, iff_false]; omega) | (simp [hg]; done) | (simp [hg, hq]; done) | (simp_all; done) | (simp_all; omega)) e_l1 (by omega) (by omega) (by omega) (by omega)) | ((have uU := zA @a1 (zA @a2 (zA @a3 (zA @a4 (zA @a5 (zA @a6 (zA @b1 (zA @b2 (zA @b3 (zA @b4 (zA @b5 (zA @b6 (zA @c1 (zA @c2 (zA @hw1 @hmx)))))))))))))); exact wkU)))
    have uU := zA @a1 (zA @a2 (zA @a3 (zA @a4 (zA @a5 (zA @a6 (zA @b1 (zA @b2 (zA @b3 (zA @b4 (zA @b5 (zA @b6 (zA @c1 (zA @c2 (zA @hw1 @hmx))))))))))))))
    refine rR ?_ <;> first | exact hdT | apply zN
    have hcn : (s.cpus < 0) = False := by simp; omega
    have hm0 : (if (0 : Int) > (s.tsk i).cpu then (0 : Int) else (s.tsk i).cpu) = max0 (s.tsk i).cpu := rfl
    have hm1 : (max0 (s.tsk i).cpu < 0) = False := by simp [max0]; split <;> omega
    refine C_seq rfl ?_
    obtain ⟨l2, e_l2, h_l2⟩ : ∃ x, x = l1 ++ iff1 (decide ((s.tsk i).id < 1 ∨ 65535 < (s.tsk i).id)) ⟨5, (i : Int), 0⟩ ∧ x.length ≤ (l1).length + 1 := ⟨_, rfl, iff1_len _ _ _⟩
    refine M_cutO [0,2,3,4,5,16,17,18,19] (k + 4) [] ((L, ⟨8, false, [lkRow (k + 3) s (l2)]⟩) :: accH (k + 3) 3 ((l2).map Flt.row) [(k + 1, ⟨8, true, [tf s i]⟩)]) ?_ ?_
    · have uU := zA @a1 (zA @a2 (zA @a3 (zA @a4 (zA @a5 (zA @a6 (zA @b1 (zA @b2 (zA @b3 (zA @b4 (zA @b5 (zA @b6 (zA @c1 (zA @c2 (zA @hcn (zA @hm0 @hm1)))))))))))))))
      refine cl [.gen (.tup []) (k + 4) (LK (L) (k + 2) s (l1)) (LK (L) (k + 3) s (l2))] ?_ <;> and_intros <;> first | exact hdT | (apply zM; (repeat intro ht); apply zM; (repeat intro hg); apply zM)
      all_goals (first | (exact found' (k + 3) (L) (k + 2) s (l1) (l2) _ (decide ((s.tsk i).id < 1 ∨ 65535 < (s.tsk i).id)) _ _ _ (by first | rfl | (rw [Bool.eq_iff_iff]; simp only [beq_iff_eq, bne_iff_ne, ne_eq, decide_eq_true_eq, decide_eq_false_iff_not, Bool.and_eq_true, Bool.or_eq_true, Bool.not_eq_true', beq_eq_false_iff_ne, Bool.false_eq_true, Bool.true_eq_false, true_iff, false_iff, iff_true, iff_false]; omega) | (simp [hg]; done) | (simp [hg, hq]; done) | (simp_all; done) | (simp_all; omega)) e_l2 (by omega) (by omega) (by omega) (by omega)) | ((have uU := zA @a1 (zA @a2 (zA @a3 (zA @a4 (zA @a5 (zA @a6 (zA @b1 (zA @b2 (zA @b3 (zA @b4 (zA @b5 (zA @b6 (zA @c1 (zA @c2 (zA @hcn (zA @hm0 @hm1))))))))))))))); exact wkU)))
    have uU := zA @a1 (zA @a2 (zA @a3 (zA @a4 (zA @a5 (zA @a6 (zA @b1 (zA @b2 (zA @b3 (zA @b4 (zA @b5 (zA @b6 (zA @c1 (zA @c2 (zA @hcn (zA @hm0 @hm1)))))))))))))))
    refine rR ?_ <;> first | exact hdT | apply zN
    refine C_seq rfl ?_
    obtain ⟨l3, e_l3, h_l3⟩ : ∃ x, x = l2 ++ iff1 (decide ((s.tsk i).group < 0 ∨ (s.ng : Int) ≤ (s.tsk i).group)) ⟨6, (i : Int), 0⟩ ∧ x.length ≤ (l2).length + 1 := ⟨_, rfl, iff1_len _ _ _⟩
    refine M_cutO [0,2,3,4,5,16,17,18,19] (k + 5) [] ((L, ⟨8, false, [lkRow (k + 4) s (l3)]⟩) :: accH (k + 4) 3 ((l3).map Flt.row) [(k + 1, ⟨8, true, [tf s i]⟩)]) ?_ ?_
    · refine dl [.gen (.tup []) (k + 5) (LK (L) (k + 3) s (l2)) (LK (L) (k + 4) s (l3))] ?_ <;> and_intros <;> first | exact hdT | (apply zM; (repeat intro ht); apply zM; (repeat intro hg); apply zM)
      all_goals (first | (exact found' (k + 4) (L) (k + 3) s (l2) (l3) _ (decide ((s.tsk i).group < 0 ∨ (s.ng : Int) ≤ (s.tsk i).group)) _ _ _ (by first | rfl | (rw [Bool.eq_iff_iff]; simp only [beq_iff_eq, bne_iff_ne, ne_eq, decide_eq_true_eq, decide_eq_false_iff_not, Bool.and_eq_true, Bool.or_eq_true, Bool.not_eq_true', beq_eq_false_iff_ne, Bool.false_eq_true, Bool.true_eq_false, true_iff, false_iff, iff_true, iff_false]; omega) | (simp [hg]; done) | (simp [hg, hq]; done) | (simp_all; done) | (simp_all; omega)) e_l3 (by omega) (by omega) (by omega) (by omega)) | ((have uU := zA @a1 (zA @a2 (zA @a3 (zA @a4 (zA @a5 (zA @a6 (zA @b1 (zA @b2 (zA @b3 (zA @b4 (zA @b5 (zA @b6 (zA @c1 (zA @c2 (zA @hcn (zA @hm0 @hm1))))))))))))))); exact wkU)))
    refine rR ?_ <;> first | exact hdT | apply zN
    refine C_seq rfl ?_
    obtain ⟨l4, e_l4, h_l4⟩ : ∃ x, x = l3 ++ iff1 (!(decide (0 ≤ (s.tsk i).cpu ∧ (s.tsk i).cpu < s.cpus))) ⟨7, (i : Int), 0⟩ ∧ x.length ≤ (l3).length + 1 := ⟨_, rfl, iff1_len _ _ _⟩
    refine M_cutO [0,2,3,4,5,16,17,18,19] (k + 6) [] ((L, ⟨8, false, [lkRow (k + 5) s (l4)]⟩) :: accH (k + 5) 3 ((l4).map Flt.row) [(k + 1, ⟨8, true, [tf s i]⟩)]) ?_ ?_
    · refine cl [.gen (.tup []) (k + 6) (LK (L) (k + 4) s (l3)) (LK (L) (k + 5) s (l4))] ?_ <;> and_intros <;> first | exact hdT | (apply zM; (repeat intro ht); apply zM; (repeat intro hg); apply zM)
      all_goals (first | (exact found' (k + 5) (L) (k + 4) s (l3) (l4) _ (!(decide (0 ≤ (s.tsk i).cpu ∧ (s.tsk i).cpu < s.cpus))) _ _ _ (by first | rfl | (rw [Bool.eq_iff_iff]; simp only [beq_iff_eq, bne_iff_ne, ne_eq, decide_eq_true_eq, decide_eq_false_iff_not, Bool.and_eq_true, Bool.or_eq_true, Bool.not_eq_true', beq_eq_false_iff_ne, Bool.false_eq_true, Bool.true_eq_false, true_iff, false_iff, iff_true, iff_false]; omega) | (simp [hg]; done) | (simp [hg, hq]; done) | (simp_all; done) | (simp_all; omega)) e_l4 (by omega) (by omega) (by omega) (by omega)) | ((have uU := zA @a1 (zA @a2 (zA @a3 (zA @a4 (zA @a5 (zA @a6 (zA @b1 (zA @b2 (zA @b3 (zA @b4 (zA @b5 (zA @b6 (zA @c1 (zA @c2 (zA @hcn (zA @hm0 @hm1))))))))))))))); exact wkU)))
    refine rR ?_ <;> first | exact hdT | apply zN
    refine C_seq rfl ?_
    obtain ⟨l5, e_l5, h_l5⟩ : ∃ x, x = l4 ++ iff1 (decide (s.cpus < 64) && decide (0 < (s.tsk i).mask.fdiv (2 ^ min s.cpus.toNat 64))) ⟨8, (i : Int), 0⟩ ∧ x.length ≤ (l4).length + 1 := ⟨_, rfl, iff1_len _ _ _⟩
    refine M_cutO [0,2,3,4,5,16,17,18,19] (k + 7) [] ((L, ⟨8, false, [lkRow (k + 6) s (l5)]⟩) :: accH (k + 6) 3 ((l5).map Flt.row) [(k + 1, ⟨8, true, [tf s i]⟩)]) ?_ ?_
    · refine cl [.gen (.tup []) (k + 7) (LK (L) (k + 5) s (l4)) (LK (L) (k + 6) s (l5))] ?_ <;> and_intros <;> first | exact hdT | (apply zM; (repeat intro ht); apply zM; (repeat intro hg); apply zM)
      all_goals (first | (exact found' (k + 6) (L) (k + 5) s (l4) (l5) _ (decide (s.cpus < 64) && decide (0 < (s.tsk i).mask.fdiv (2 ^ min s.cpus.toNat 64))) _ _ _ (by first | rfl | (rw [Bool.eq_iff_iff]; simp only [beq_iff_eq, bne_iff_ne, ne_eq, decide_eq_true_eq, decide_eq_false_iff_not, Bool.and_eq_true, Bool.or_eq_true, Bool.not_eq_true', beq_eq_false_iff_ne, Bool.false_eq_true, Bool.true_eq_false, true_iff, false_iff, iff_true, iff_false]; omega) | (simp [hg]; done) | (simp [hg, hq]; done) | (simp_all; done) | (simp_all; omega)) e_l5 (by omega) (by omega) (by omega) (by omega)) | ((have uU := zA @a1 (zA @a2 (zA @a3 (zA @a4 (zA @a5 (zA @a6 (zA @b1 (zA @b2 (zA @b3 (zA @b4 (zA @b5 (zA @b6 (zA @c1 (zA @c2 (zA @hcn (zA @hm0 @hm1))))))))))))))); exact wkU)))
    refine rR ?_ <;> first | exact hdT | apply zN
    refine C_seq rfl ?_
    obtain ⟨l6, e_l6, h_l6⟩ : ∃ x, x = l5 ++ iff1 (decide (0 ≤ (s.tsk i).cpu ∧ (s.tsk i).cpu < s.cpus) && (IntKind.u64.wrap (BitVec.ofInt IntKind.u64.bits ((s.tsk i).mask.fdiv (2 ^ min (max0 (s.tsk i).cpu).toNat 64)) &&& BitVec.ofInt IntKind.u64.bits 1).toNat == 0)) ⟨9, (i : Int), 0⟩ ∧ x.length ≤ (l5).length + 1 := ⟨_, rfl, iff1_len _ _ _⟩
    refine M_cutO [0,2,3,4,16,17,18,19] (k + 8) [] ((L, ⟨8, false, [lkRow (k + 7) s (l6)]⟩) :: accH (k + 7) 3 ((l6).map Flt.row) [(k + 1, ⟨8, true, [tf s i]⟩)]) ?_ ?_
    · refine cl [.gen (.tup []) (k + 8) (LK (L) (k + 6) s (l5)) (LK (L) (k + 7) s (l6))] ?_ <;> and_intros <;> first | exact hdT | (apply zM; (repeat intro ht); apply zM; (repeat intro hg); apply zM)
      all_goals (first | (exact found' (k + 7) (L) (k + 6) s (l5) (l6) _ (decide (0 ≤ (s.tsk i).cpu ∧ (s.tsk i).cpu < s.cpus) && (IntKind.u64.wrap (BitVec.ofInt IntKind.u64.bits ((s.tsk i).mask.fdiv (2 ^ min (max0 (s.tsk i).cpu).toNat 64)) &&& BitVec.ofInt IntKind.u64.bits 1).toNat == 0)) _ _ _ (by first | rfl | (rw [Bool.eq_iff_iff]; simp only [beq_iff_eq, bne_iff_ne, ne_eq, decide_eq_true_eq, decide_eq_false_iff_not, Bool.and_eq_true, Bool.or_eq_true, Bool.not_eq_true', beq_eq_false_iff_ne, Bool.false_eq_true, Bool.true_eq_false, true_iff, false_iff, iff_true, iff_false]; omega) | (simp [hg]; done) | (simp [hg, hq]; done) | (simp_all; done) | (simp_all; omega)) e_l6 (by omega) (by omega) (by omega) (by omega)) | ((have uU := zA @a1 (zA @a2 (zA @a3 (zA @a4 (zA @a5 (zA @a6 (zA @b1 (zA @b2 (zA @b3 (zA @b4 (zA @b5 (zA @b6 (zA @c1 (zA @c2 (zA @hcn (zA @hm0 @hm1))))))))))))))); exact wkU)))
    refine rR ?_ <;> first | exact hdT | apply zN
    obtain ⟨l7, e_l7, h_l7⟩ : ∃ x, x = l6 ++ iff1 (!(ent (s.tsk i).v (s.tsk i).r (s.tsk i).weight)) ⟨10, (i : Int), 0⟩ ∧ x.length ≤ (l6).length + 1 := ⟨_, rfl, iff1_len _ _ _⟩
    refine M_cutO [0,2,3,4,5,16,17,18,19] (k + 9) [] ((L, ⟨8, false, [lkRow (k + 8) s (l7)]⟩) :: accH (k + 8) 3 ((l7).map Flt.row) [(k + 1, ⟨8, true, [tf s i]⟩)]) ?_ ?_
    · refine cl [.ret (.lit (.bool (ent (s.tsk i).v (s.tsk i).r (s.tsk i).weight))), .gen (.tup []) (k + 9) (LK (L) (k + 7) s (l6)) (LK (L) (k + 8) s (l7))] ?_ <;> and_intros <;> first | exact hdT | (apply zM; (repeat intro ht); apply zM; (repeat intro hg); apply zM)
      all_goals (first | (exact found' (k + 8) (L) (k + 7) s (l6) (l7) _ (!(ent (s.tsk i).v (s.tsk i).r (s.tsk i).weight)) _ _ _ (by first | rfl | (rw [Bool.eq_iff_iff]; simp only [beq_iff_eq, bne_iff_ne, ne_eq, decide_eq_true_eq, decide_eq_false_iff_not, Bool.and_eq_true, Bool.or_eq_true, Bool.not_eq_true', beq_eq_false_iff_ne, Bool.false_eq_true, Bool.true_eq_false, true_iff, false_iff, iff_true, iff_false]; omega) | (simp [hg]; done) | (simp [hg, hq]; done) | (simp_all; done) | (simp_all; omega)) e_l7 (by omega) (by omega) (by omega) (by omega)) | (exact entity (s.tsk i).v (s.tsk i).r (s.tsk i).weight) | ((have uU := zA @a1 (zA @a2 (zA @a3 (zA @a4 (zA @a5 (zA @a6 (zA @b1 (zA @b2 (zA @b3 (zA @b4 (zA @b5 (zA @b6 (zA @c1 (zA @c2 (zA @hcn (zA @hm0 @hm1))))))))))))))); exact wkU)))
    refine rR ?_ <;> first | exact hdT | apply zN
    refine wl ?_ <;> and_intros <;> first | exact hdT | (apply zM; (repeat intro ht); apply zM; (repeat intro hg); apply zM)
    refine ⟨i + 1, by omega, by omega, ?_⟩
    rw [show l ++ flats (taskAt s) (i + 1) = l7 by
      rw [flats_succ, ← List.append_assoc, ← e0, e_l7, e_l6, e_l5, e_l4, e_l3, e_l2, e_l1]
      simp only [List.append_assoc]
      rfl]
    refine rR ?_ <;> first | exact hdT | apply zN
    exact Mv.app (k + 8) (k) ⟨by omega, by omega⟩ ⟨by omega, by omega⟩ (wk_low (by omega) (by simp -dsimp -implicitDefEqProofs only [go_sem, a1, a2, a3, a4, a5, a6, b1, b2, b3, b4, b5, b6, c1, c2, hcn, hm0, hm1, List.map_append, Flt.row, eq_self, ↓reduceIte]) (by simp -dsimp -implicitDefEqProofs only [go_sem, a1, a2, a3, a4, a5, a6, b1, b2, b3, b4, b5, b6, c1, c2, hcn, hm0, hm1, List.map_append, Flt.row, eq_self, ↓reduceIte]) (by simp -dsimp -implicitDefEqProofs only [go_sem, a1, a2, a3, a4, a5, a6, b1, b2, b3, b4, b5, b6, c1, c2, hcn, hm0, hm1, List.map_append, Flt.row, eq_self, ↓reduceIte]) (by simp -dsimp -implicitDefEqProofs only [go_sem, a1, a2, a3, a4, a5, a6, b1, b2, b3, b4, b5, b6, c1, c2, hcn, hm0, hm1, List.map_append, Flt.row, eq_self, ↓reduceIte]))
end Go.Proofs.T
end
section
namespace Go.Proofs.T
open Go Go.AM Go.Proofs
set_option maxRecDepth 20000
variable {Γ : List (Nat × List AVal)}
def spotAt (s : St) (g c : Nat) : List Flt := if g = 0 then iff1 (decide ((s.sp g c).v ≠ 0 ∨ (s.sp g c).r ≠ 0)) ⟨12, (c : Int), 0⟩ else iff1 (!(ent (s.sp g c).v (s.sp g c).r (s.wt g))) ⟨11, (g : Int), (c : Int)⟩
theorem spotAt_len (s : St) (g c : Nat) : (spotAt s g c).length ≤ 1 := by unfold spotAt; split <;> exact iff1_len1 _ _
def spotsAt (s : St) (g : Nat) : List Flt := flats (spotAt s g) (s.nsp g)
def spotsA (s : St) : List Flt := flats (spotsAt s) s.ns
theorem flats_len' {f : Nat → List Flt} {m : Nat} : ∀ n, (∀ i, i < n → (f i).length ≤ m) → (flats f n).length ≤ n * m
  | 0, _ => by simp [flats]
  | n + 1, h => by have := flats_len' n (fun i hi => h i (by omega)); have := h n (by omega); simp only [flats, List.length_append, Nat.add_mul, Nat.one_mul]; omega
theorem spots (s : St) (hs : s.Small) (hg : s.ns ≤ s.ng) (h12 : s.ns ≤ 12) (hp12 : ∀ g, g < s.ns → s.nsp g ≤ 12) : Adds Γ 193 s (spotsA s) := by
  obtain ⟨hng, hnk, hnu, hnt, hns, hnsp⟩ := id hs
  intro k L F l hL hF hne hl
  obtain ⟨a1, a2, a3, a4, a5, a6⟩ := old_name hL
  obtain ⟨b1, b2, b3, b4, b5, b6⟩ := old_name hF
  obtain ⟨c1, c2⟩ := two_names hne
  refine Tr_at Tryz.func193 rfl 59 rfl (Nat.le_of_ble_eq_true rfl) (W_upM ?_)
  refine W_mv (Mv.fresh F (by omega)) ?_
  have uU := zA @a1 (zA @a2 (zA @a3 (zA @a4 (zA @a5 (zA @a6 (zA @b1 (zA @b2 (zA @b3 (zA @b4 (zA @b5 (zA @b6 (zA @c1 @c2))))))))))))
  refine rR ?_ <;> first | exact hdT | apply zN
  have kp : Kp [0,2,3,4,5,10,11,12,13,17,18,19,20,25] (fun i => if i = L then 0 else i - k + 1) := kpI
  refine wl ?_ <;> and_intros <;> first | exact hdT | (apply zM; (repeat intro ht); apply zM; (repeat intro hg); apply zM)
  refine M_forO (X := Nat) rfl [0,2,3,4,5,10,11,12,13,17,18,19,20,25] (k + 1) (fun i => [(12, .lit (.int .i64 (i : Int)))]) (fun i => LK L k s (l ++ flats (spotsAt s) i)) (fun i => i ≤ s.ns) (fun i => s.ns - i) 0 ?_ (Nat.zero_le _) ?_
  · rw [flats_zero, List.append_nil]
    refine rR ?_ <;> first | exact hdT | apply zN
    (have uU := zA @a1 (zA @a2 (zA @a3 (zA @a4 (zA @a5 (zA @a6 (zA @b1 (zA @b2 (zA @b3 (zA @b4 (zA @b5 (zA @b6 (zA @c1 @c2)))))))))))); exact wkU)
  intro g hg2
  have hfl := flats_len' (f := spotsAt s) (m := 12) g (fun i hi => by have := flats_len (spotAt_len s i) (s.nsp i); have := hp12 i (by omega); unfold spotsAt; omega)
  obtain ⟨l0, e0, h0⟩ : ∃ x, x = l ++ flats (spotsAt s) g ∧ x.length ≤ l.length + g * 12 := ⟨_, rfl, by simp; omega⟩
  rw [← e0]
  refine rR ?_ <;> first | exact hdT | apply zN
  refine wl ?_ <;> and_intros <;> first | exact hdT | (apply zM; (repeat intro ht); apply zM; (repeat intro hg); apply zM)
  · have hpg : s.nsp g ≤ 12 := hp12 g (by omega)
    refine M_forO (X := Nat) rfl [0,2,3,4,5,10,11,12,13,17,18,19,20,25] (k + 1) (fun c => [(19, .lit (.int .i64 (c : Int)))]) (fun c => LK L k s (l0 ++ flats (spotAt s g) c)) (fun c => c ≤ s.nsp g) (fun c => s.nsp g - c) 0 ?_ (Nat.zero_le _) ?_
    · rw [flats_zero, List.append_nil]
      refine rR ?_ <;> first | exact hdT | apply zN
      (have uU := zA @a1 (zA @a2 (zA @a3 (zA @a4 (zA @a5 (zA @a6 (zA @b1 (zA @b2 (zA @b3 (zA @b4 (zA @b5 (zA @b6 (zA @c1 @c2)))))))))))); exact wkU)
    intro c hc
    have hfc := flats_len (spotAt_len s g) c
    obtain ⟨l1, e1, h1⟩ : ∃ x, x = l0 ++ flats (spotAt s g) c ∧ x.length ≤ l0.length + c := ⟨_, rfl, by simp; omega⟩
    rw [← e1]
    refine rR ?_ <;> first | exact hdT | apply zN
    refine wl ?_ <;> and_intros <;> first | exact hdT | (apply zM; (repeat intro ht); apply zM; (repeat intro hg); apply zM)
    · have hg0 : g = 0 := by omega
      obtain ⟨l2, e_l2, h_l2⟩ : ∃ x, x = l1 ++ iff1 (decide ((s.sp g c).v ≠ 0 ∨ (s.sp g c).r ≠ 0)) ⟨12, (c : Int), 0⟩ ∧ x.length ≤ (l1).length + 1 := ⟨_, rfl, iff1_len _ _ _⟩
      refine M_cutO [0,2,3,4,5,10,11,12,13,17,18,19,20,25] (k + 3) [] ((L, ⟨8, false, [lkRow (k + 2) s (l2)]⟩) :: accH (k + 2) 3 ((l2).map Flt.row) [(k + 1, ⟨3, true, [sf s g c]⟩)]) ?_ ?_
      · refine cl [.gen (.tup []) (k + 3) (LK (L) (k) s (l1)) (LK (L) (k + 2) s (l2))] ?_ <;> and_intros <;> first | exact hdT | (apply zM; (repeat intro ht); apply zM; (repeat intro hg); apply zM)
        all_goals (first | (exact found' (k + 2) (L) (k) s (l1) (l2) _ (decide ((s.sp g c).v ≠ 0 ∨ (s.sp g c).r ≠ 0)) _ _ _ (by first | rfl | (rw [Bool.eq_iff_iff]; simp only [beq_iff_eq, bne_iff_ne, ne_eq, decide_eq_true_eq, decide_eq_false_iff_not, Bool.and_eq_true, Bool.or_eq_true, Bool.not_eq_true', beq_eq_false_iff_ne, Bool.false_eq_true, Bool.true_eq_false, true_iff, false_iff, iff_true, iff_false]; omega) | (simp [hg]; done) | (simp [hg, hq]; done) | (simp_all; done) | (simp_all; omega)) e_l2 (by omega) (by omega) (by omega) (by omega)) | ((have uU := zA @a1 (zA @a2 (zA @a3 (zA @a4 (zA @a5 (zA @a6 (zA @b1 (zA @b2 (zA @b3 (zA @b4 (zA @b5 (zA @b6 (zA @c1 @c2)))))))))))); exact wkU)))
      refine rR ?_ <;> first | exact hdT | apply zN
      refine wl ?_ <;> and_intros <;> first | exact hdT | (apply zM; (repeat intro ht); apply zM; (repeat intro hg); apply zM)
      refine ⟨c + 1, by omega, by omega, ?_⟩
      rw [show l0 ++ flats (spotAt s g) (c + 1) = l2 by
        rw [flats_succ, ← List.append_assoc, ← e1, e_l2, spotAt, if_pos hg0]]
      refine rR ?_ <;> first | exact hdT | apply zN
      exact Mv.app (k + 2) (k) ⟨by omega, by omega⟩ ⟨by omega, by omega⟩ (wk_low (by omega) (by simp -dsimp -implicitDefEqProofs only [go_sem, a1, a2, a3, a4, a5, a6, b1, b2, b3, b4, b5, b6, c1, c2, List.map_append, Flt.row, eq_self, ↓reduceIte]) (by simp -dsimp -implicitDefEqProofs only [go_sem, a1, a2, a3, a4, a5, a6, b1, b2, b3, b4, b5, b6, c1, c2, List.map_append, Flt.row, eq_self, ↓reduceIte]) (by simp -dsimp -implicitDefEqProofs only [go_sem, a1, a2, a3, a4, a5, a6, b1, b2, b3, b4, b5, b6, c1, c2, List.map_append, Flt.row, eq_self, ↓reduceIte]) (by simp -dsimp -implicitDefEqProofs only [go_sem, a1, a2, a3, a4, a5, a6, b1, b2, b3, b4, b5, b6, c1, c2, List.map_append, Flt.row, eq_self, ↓reduceIte]))
    · have hg0 : ¬ g = 0 := by omega
      obtain ⟨l2, e_l2, h_l2⟩ : ∃ x, x = l1 ++ iff1 (!(ent (s.sp g c).v (s.sp g c).r (s.wt g))) ⟨11, (g : Int), (c : Int)⟩ ∧ x.length ≤ (l1).length + 1 := ⟨_, rfl, iff1_len _ _ _⟩
      refine M_cutO [0,2,3,4,5,10,11,12,13,17,18,19,20,25] (k + 3) [] ((L, ⟨8, false, [lkRow (k + 2) s (l2)]⟩) :: accH (k + 2) 3 ((l2).map Flt.row) [(k + 1, ⟨3, true, [sf s g c]⟩)]) ?_ ?_
      · refine dl [.ret (.lit (.bool (ent (s.sp g c).v (s.sp g c).r (s.wt g)))), .gen (.tup []) (k + 3) (LK (L) (k) s (l1)) (LK (L) (k + 2) s (l2))] ?_ <;> and_intros <;> first | exact hdT | (apply zM; (repeat intro ht); apply zM; (repeat intro hg); apply zM)
        all_goals (first | (exact found' (k + 2) (L) (k) s (l1) (l2) _ (!(ent (s.sp g c).v (s.sp g c).r (s.wt g))) _ _ _ (by first | rfl | (rw [Bool.eq_iff_iff]; simp only [beq_iff_eq, bne_iff_ne, ne_eq, decide_eq_true_eq, decide_eq_false_iff_not, Bool.and_eq_true, Bool.or_eq_true, Bool.not_eq_true', beq_eq_false_iff_ne, Bool.false_eq_true, Bool.true_eq_false, true_iff, false_iff, iff_true, iff_false]; omega) | (simp [hg]; done) | (simp [hg, hq]; done) | (simp_all; done) | (simp_all; omega)) e_l2 (by omega) (by omega) (by omega) (by omega)) | (exact entity (s.sp g c).v (s.sp g c).r (s.wt g)) | ((have uU := zA @a1 (zA @a2 (zA @a3 (zA @a4 (zA @a5 (zA @a6 (zA @b1 (zA @b2 (zA @b3 (zA @b4 (zA @b5 (zA @b6 (zA @c1 @c2)))))))))))); exact wkU)))
      refine rR ?_ <;> first | exact hdT | apply zN
      refine wl ?_ <;> and_intros <;> first | exact hdT | (apply zM; (repeat intro ht); apply zM; (repeat intro hg); apply zM)
      refine ⟨c + 1, by omega, by omega, ?_⟩
      rw [show l0 ++ flats (spotAt s g) (c + 1) = l2 by
        rw [flats_succ, ← List.append_assoc, ← e1, e_l2, spotAt, if_neg hg0]]
      refine rR ?_ <;> first | exact hdT | apply zN
      exact Mv.app (k + 2) (k) ⟨by omega, by omega⟩ ⟨by omega, by omega⟩ (wk_low (by omega) (by simp -dsimp -implicitDefEqProofs only [go_sem, a1, a2, a3, a4, a5, a6, b1, b2, b3, b4, b5, b6, c1, c2, List.map_append, Flt.row, eq_self, ↓reduceIte]) (by simp -dsimp -implicitDefEqProofs only [go_sem, a1, a2, a3, a4, a5, a6, b1, b2, b3, b4, b5, b6, c1, c2, List.map_append, Flt.row, eq_self, ↓reduceIte]) (by simp -dsimp -implicitDefEqProofs only [go_sem, a1, a2, a3, a4, a5, a6, b1, b2, b3, b4, b5, b6, c1, c2, List.map_append, Flt.row, eq_self, ↓reduceIte]) (by simp -dsimp -implicitDefEqProofs only [go_sem, a1, a2, a3, a4, a5, a6, b1, b2, b3, b4, b5, b6, c1, c2, List.map_append, Flt.row, eq_self, ↓reduceIte]))
    · have hc' : c = s.nsp g := by omega
      refine ⟨g + 1, by omega, by omega, ?_⟩
      rw [show l ++ flats (spotsAt s) (g + 1) = l1 by
        rw [flats_succ, ← List.append_assoc, ← e0, e1, hc']; rfl]
      refine rR ?_ <;> first | exact hdT | apply zN
      (have uU := zA @a1 (zA @a2 (zA @a3 (zA @a4 (zA @a5 (zA @a6 (zA @b1 (zA @b2 (zA @b3 (zA @b4 (zA @b5 (zA @b6 (zA @c1 @c2)))))))))))); exact wkU)
  · have hi' : g = s.ns := by omega
    subst hi'
    refine ⟨k + 1, [], LK L k s l0, ?_, _, rfl, rfl, rfl, by rw [e0]; rfl⟩
    (have uU := zA @a1 (zA @a2 (zA @a3 (zA @a4 (zA @a5 (zA @a6 (zA @b1 (zA @b2 (zA @b3 (zA @b4 (zA @b5 (zA @b6 (zA @c1 @c2)))))))))))); exact wkU)
end Go.Proofs.T
end
section
namespace Go.Proofs.T
open Go Go.AM Go.Proofs
set_option maxRecDepth 20000
variable {Γ : List (Nat × List AVal)}
def optP : Option Int → AVal
  | none => .lit (.pointer none)
  | some v => .rp [.lit (.int .u64 v)]
theorem optP_clean (x : Option Int) : clean (optP x) = true := by cases x <;> rfl
theorem optP_none : optP none = .lit (.pointer none) := rfl
theorem optP_some (v : Int) : optP (some v) = .rp [.lit (.int .u64 v)] := rfl
def rowsP (f : Nat → Option Int) (n : Nat) : List (List AVal) := (List.range n).map fun i => [optP (f i)]
theorem rowsP_len (f : Nat → Option Int) (n : Nat) : (rowsP f n).length = n := by simp [rowsP]
theorem rowsP_get (f : Nat → Option Int) (n g : Nat) (h : g < n) : (rowsP f n)[g]? = some [optP (f g)] := by simp [rowsP, h]
theorem rowsP_clean (f : Nat → Option Int) (n : Nat) : ((rowsP f n).all fun row => row.all clean) = true := all_clean fun i => by simp [optP_clean]
def put (f : Nat → Option Int) (g : Nat) (v : Int) : Nat → Option Int := fun i => if i = g then some v else f i
theorem rowsP_set (f : Nat → Option Int) (n g : Nat) (v : Int) : (rowsP f n).set g [.rp [.lit (.int .u64 v)]] = rowsP (put f g v) n := by
  apply List.ext_getElem?
  intro j
  rw [List.getElem?_set]
  by_cases hj : j < n
  · rw [rowsP_get _ n j hj, rowsP_get _ n j hj, rowsP_len]
    by_cases he : g = j
    · subst he; simp [put, hj, optP]
    · have : ¬ j = g := fun e => he e.symm
      simp [he, put, this]
  · have h1 : (rowsP f n)[j]? = none := by simp [rowsP, hj]
    have h2 : (rowsP (put f g v) n)[j]? = none := by simp [rowsP, hj]
    rw [h1, h2, rowsP_len]
    split
    · rename_i he; subst he; simp [hj]
    · rfl
def low (f : Nat → Option Int) (g : Nat) (v : Int) : Nat → Option Int := match f g with
  | none => put f g v
  | some u => if v < u then put f g v else f
def LW (T B n : Nat) (f : Nat → Option Int) : Heap := [(T, ⟨1, false, [[.sl B 0 n]]⟩), (B, ⟨1, true, rowsP f n⟩)]
attribute [go_sem] LW rowsP_len
theorem lower (k T B n : Nat) (f : Nat → Option Int) (g : Nat) (v : Int) (hT : T < k) (hB : B < k) (hne : T ≠ B) (hg : g < n) :
    Tr Tryz.prog Γ 246 k [.lit (.int .i64 (g : Int)), .lit (.int .u64 v), .ptr T 0 0] (LW T B n f) (fun k1 r1 H1 => k1 = k ∧ r1 = .tup [] ∧ H1 = LW T B n (low f g v)) := by
  obtain ⟨a1, a2, a3, a4, a5, a6⟩ := old_name hT
  obtain ⟨b1, b2, b3, b4, b5, b6⟩ := old_name hB
  obtain ⟨c1, c2⟩ := two_names hne
  have hget := rowsP_get f n g hg
  refine Tr_at Tryz.func246 rfl 23 rfl (Nat.le_of_ble_eq_true rfl) (W_upM ?_)
  cases hf : f g with
  | none =>
    rw [hf, optP_none] at hget
    have kp : Kp [0,1,2,4,19] (fun i => if i = T then 0 else if i = B then 1 else i - k + 2) := kpI
    have uU := zA @a1 (zA @a2 (zA @a3 (zA @a4 (zA @a5 (zA @a6 (zA @b1 (zA @b2 (zA @b3 (zA @b4 (zA @b5 (zA @b6 (zA @c1 (zA @c2 @hget)))))))))))))
    refine wl ?_ <;> and_intros <;> first | exact hdT | (apply zM; (repeat intro ht); apply zM; (repeat intro hg); apply zM)
    refine ⟨k, [], LW T B n (put f g v), ?_, _, rfl, rfl, rfl, by rw [show low f g v = put f g v by simp only [low, hf]]; rfl⟩
    refine Mv.trans (Mv.freeze k (by simp -dsimp -implicitDefEqProofs only [go_sem, a1, a2, a3, a4, a5, a6, b1, b2, b3, b4, b5, b6, c1, c2, hget, eq_self, ↓reduceIte]; rfl) rfl) ?_
    simp -dsimp -implicitDefEqProofs only [frzF, frz_app, go_sem, a1, a2, a3, a4, a5, a6, b1, b2, b3, b4, b5, b6, c1, c2, List.map_set, frz_rows (rowsP_clean f n), rowsP_set, eq_self, ↓reduceIte]
    refine Mv.trans (Mv.pure B (by simp -dsimp -implicitDefEqProofs only [go_sem, a1, a2, a3, a4, a5, a6, b1, b2, b3, b4, b5, b6, c1, c2, List.map_set, frz_rows (rowsP_clean f n), rowsP_set, eq_self, ↓reduceIte]; rfl) (rowsP_clean _ _)) ?_
    exact Mv.wk (wk_low (by omega) (by simp -dsimp -implicitDefEqProofs only [go_sem, a1, a2, a3, a4, a5, a6, b1, b2, b3, b4, b5, b6, c1, c2, List.map_set, frz_rows (rowsP_clean f n), rowsP_set, List.map_append, Flt.row, eq_self, ↓reduceIte]) (by simp -dsimp -implicitDefEqProofs only [go_sem, a1, a2, a3, a4, a5, a6, b1, b2, b3, b4, b5, b6, c1, c2, List.map_set, frz_rows (rowsP_clean f n), rowsP_set, List.map_append, Flt.row, eq_self, ↓reduceIte]) (by simp -dsimp -implicitDefEqProofs only [go_sem, a1, a2, a3, a4, a5, a6, b1, b2, b3, b4, b5, b6, c1, c2, List.map_set, frz_rows (rowsP_clean f n), rowsP_set, List.map_append, Flt.row, eq_self, ↓reduceIte]) (by simp -dsimp -implicitDefEqProofs only [go_sem, a1, a2, a3, a4, a5, a6, b1, b2, b3, b4, b5, b6, c1, c2, List.map_set, frz_rows (rowsP_clean f n), rowsP_set, List.map_append, Flt.row, eq_self, ↓reduceIte]))
  | some u =>
    rw [hf, optP_some] at hget
    have kp : Kp [0,1,2,4,19] (fun i => if i = T then 0 else if i = B then 1 else i - k + 2) := kpI
    have uU := zA @a1 (zA @a2 (zA @a3 (zA @a4 (zA @a5 (zA @a6 (zA @b1 (zA @b2 (zA @b3 (zA @b4 (zA @b5 (zA @b6 (zA @c1 (zA @c2 @hget)))))))))))))
    refine wl ?_ <;> and_intros <;> first | exact hdT | (apply zM; (repeat intro ht); apply zM; (repeat intro hg); apply zM)
    · refine ⟨k, [], LW T B n (put f g v), ?_, _, rfl, rfl, rfl, by rw [show low f g v = put f g v by simp only [low, hf, if_pos ht]]; rfl⟩
      refine Mv.trans (Mv.freeze k (by simp -dsimp -implicitDefEqProofs only [go_sem, a1, a2, a3, a4, a5, a6, b1, b2, b3, b4, b5, b6, c1, c2, hget, eq_self, ↓reduceIte]; rfl) rfl) ?_
      simp -dsimp -implicitDefEqProofs only [frzF, frz_app, go_sem, a1, a2, a3, a4, a5, a6, b1, b2, b3, b4, b5, b6, c1, c2, List.map_set, frz_rows (rowsP_clean f n), rowsP_set, eq_self, ↓reduceIte]
      refine Mv.trans (Mv.pure B (by simp -dsimp -implicitDefEqProofs only [go_sem, a1, a2, a3, a4, a5, a6, b1, b2, b3, b4, b5, b6, c1, c2, List.map_set, frz_rows (rowsP_clean f n), rowsP_set, eq_self, ↓reduceIte]; rfl) (rowsP_clean _ _)) ?_
      exact Mv.wk (wk_low (by omega) (by simp -dsimp -implicitDefEqProofs only [go_sem, a1, a2, a3, a4, a5, a6, b1, b2, b3, b4, b5, b6, c1, c2, List.map_set, frz_rows (rowsP_clean f n), rowsP_set, List.map_append, Flt.row, eq_self, ↓reduceIte]) (by simp -dsimp -implicitDefEqProofs only [go_sem, a1, a2, a3, a4, a5, a6, b1, b2, b3, b4, b5, b6, c1, c2, List.map_set, frz_rows (rowsP_clean f n), rowsP_set, List.map_append, Flt.row, eq_self, ↓reduceIte]) (by simp -dsimp -implicitDefEqProofs only [go_sem, a1, a2, a3, a4, a5, a6, b1, b2, b3, b4, b5, b6, c1, c2, List.map_set, frz_rows (rowsP_clean f n), rowsP_set, List.map_append, Flt.row, eq_self, ↓reduceIte]) (by simp -dsimp -implicitDefEqProofs only [go_sem, a1, a2, a3, a4, a5, a6, b1, b2, b3, b4, b5, b6, c1, c2, List.map_set, frz_rows (rowsP_clean f n), rowsP_set, List.map_append, Flt.row, eq_self, ↓reduceIte]))
    · refine ⟨k, [], LW T B n f, ?_, _, rfl, rfl, rfl, by rw [show low f g v = f by simp only [low, hf, if_neg (Int.not_lt.2 ht)]]; rfl⟩
      (have uU := zA @a1 (zA @a2 (zA @a3 (zA @a4 (zA @a5 (zA @a6 (zA @b1 (zA @b2 (zA @b3 (zA @b4 (zA @b5 (zA @b6 (zA @c1 (zA @c2 @hget))))))))))))); exact wkU)
end Go.Proofs.T
end
section
namespace Go.Proofs.T
open Go Go.AM Go.Proofs
set_option maxRecDepth 20000
variable {Γ : List (Nat × List AVal)}
def takes (s : St) (c : Int) (i : Nat) : Bool := (s.tsk i).ready && decide ((s.tsk i).cpu = c)
def fT (s : St) (c : Int) : Nat → Nat → Option Int
  | 0 => fun _ => none
  | i + 1 => if takes s c i = true then low (fT s c i) (s.tsk i).group.toNat (s.tsk i).v else fT s c i
def stepF (s : St) (c g : Nat) (f : Nat → Option Int) : Nat → Option Int := match f g with
  | none => f
  | some _ => if 0 < g then low f (s.par g).toNat (s.sp g c).v else f
def stepL (s : St) (c g : Nat) (f : Nat → Option Int) : List Flt := match f g with
  | none => []
  | some m => iff1 (decide ((s.sp g c).floor < m)) ⟨14, (g : Int), (c : Int)⟩
theorem stepL_len (s : St) (c g : Nat) (f : Nat → Option Int) : (stepL s c g f).length ≤ 1 := by
  unfold stepL; split
  · simp
  · exact iff1_len1 _ _
def dF (s : St) (c : Nat) : Nat → Nat → Option Int
  | 0 => fT s c s.nt
  | j + 1 => stepF s c (s.ns - 1 - j) (dF s c j)
def floorJ (s : St) (c j : Nat) : List Flt := stepL s c (s.ns - 1 - j) (dF s c j)
def floorsAt (s : St) (c : Nat) : List Flt := flats (floorJ s c) s.ns
def floorsA (s : St) : List Flt := flats (floorsAt s) s.cpus.toNat
structure FloorOk (s : St) : Prop where
  grp : ∀ i, i < s.nt → 0 ≤ (s.tsk i).group ∧ (s.tsk i).group < s.ns
  par : ∀ g, 1 ≤ g → g < s.ns → 0 ≤ s.par g ∧ s.par g < g
  sp : ∀ g, g < s.ns → (s.nsp g : Int) = s.cpus
  ng : s.ns ≤ s.ng
  c0 : 0 ≤ s.cpus
  c1 : s.cpus ≤ 64
  n12 : s.ns ≤ 12
theorem rowsP_nil (n : Nat) : List.replicate n [AVal.lit (.pointer none)] = rowsP (fun _ => none) n := by
  apply List.ext_getElem?
  intro j
  by_cases hj : j < n
  · rw [rowsP_get _ n j hj, List.getElem?_replicate, if_pos hj]; rfl
  · rw [List.getElem?_replicate, if_neg hj]; simp [rowsP, hj]
set_option maxHeartbeats 4000000 in
theorem floors (s : St) (hs : s.Small) (hk : FloorOk s) : Adds Γ 194 s (floorsA s) := by
  obtain ⟨hng, hnk, hnu, hnt, hns, hnsp⟩ := id hs
  obtain ⟨kgrp, kpar, ksp, kng, kc0, kc1, k12⟩ := hk
  intro k L F l hL hF hne hl
  obtain ⟨a1, a2, a3, a4, a5, a6⟩ := old_name hL
  obtain ⟨b1, b2, b3, b4, b5, b6⟩ := old_name hF
  obtain ⟨c1, c2⟩ := two_names hne
  refine Tr_at Tryz.func194 rfl 112 rfl (Nat.le_of_ble_eq_true rfl) (W_upM ?_)
  refine W_mv (Mv.fresh F (by omega)) ?_
  have uU := zA @a1 (zA @a2 (zA @a3 (zA @a4 (zA @a5 (zA @a6 (zA @b1 (zA @b2 (zA @b3 (zA @b4 (zA @b5 (zA @b6 (zA @c1 @c2))))))))))))
  refine rR ?_ <;> first | exact hdT | apply zN
  have kp : Kp [0,2,3,4,6,7,13,14,15,29,30,31,32,42,54,61,86] (fun i => if i = L then 0 else i - k + 1) := kpI
  refine wl ?_ <;> and_intros <;> first | exact hdT | (apply zM; (repeat intro ht); apply zM; (repeat intro hg); apply zM)
  refine M_forO (X := Nat) rfl [0,2,3,4,6,7,13,14,15,29,30,31,32,42,54,61,86] (k + 1) (fun i => [(14, .lit (.int .i64 (i : Int)))]) (fun i => LK L k s (l ++ flats (floorsAt s) i)) (fun i => i ≤ s.cpus.toNat) (fun i => s.cpus.toNat - i) 0 ?_ (Nat.zero_le _) ?_
  · rw [flats_zero, List.append_nil]
    refine rR ?_ <;> first | exact hdT | apply zN
    (have uU := zA @a1 (zA @a2 (zA @a3 (zA @a4 (zA @a5 (zA @a6 (zA @b1 (zA @b2 (zA @b3 (zA @b4 (zA @b5 (zA @b6 (zA @c1 @c2)))))))))))); exact wkU)
  intro c hc
  have hfl := flats_len (f := floorsAt s) (m := 12) (fun i => by have := flats_len (f := floorJ s i) (m := 1) (fun j => stepL_len _ _ _ _) s.ns; unfold floorsAt; omega) c
  obtain ⟨l0, e0, h0⟩ : ∃ x, x = l ++ flats (floorsAt s) c ∧ x.length ≤ l.length + c * 12 := ⟨_, rfl, by simp; omega⟩
  rw [← e0]
  have uU := zA @a1 (zA @a2 (zA @a3 (zA @a4 (zA @a5 (zA @a6 (zA @b1 (zA @b2 (zA @b3 (zA @b4 (zA @b5 (zA @b6 (zA @c1 (zA @c2 @rowsP_nil)))))))))))))
  refine rR ?_ <;> first | exact hdT | apply zN
  refine wl ?_ <;> and_intros <;> first | exact hdT | (apply zM; (repeat intro ht); apply zM; (repeat intro hg); apply zM)
  · refine M_forO (X := Nat) rfl [0,2,3,4,6,7,13,14,15,29,30,31,32,42,54,61,86] (k + 3) (fun i => [(31, .lit (.int .i64 (i : Int)))]) (fun i => LW (k + 2) (k + 1) s.ns (fT s c i) ++ LK L k s l0) (fun i => i ≤ s.nt) (fun i => s.nt - i) 0 ?_ (Nat.zero_le _) ?_
    · rw [fT]
      refine rR ?_ <;> first | exact hdT | apply zN
      (have uU := zA @a1 (zA @a2 (zA @a3 (zA @a4 (zA @a5 (zA @a6 (zA @b1 (zA @b2 (zA @b3 (zA @b4 (zA @b5 (zA @b6 (zA @c1 (zA @c2 @rowsP_nil))))))))))))); exact wkU)
    intro i hi
    obtain ⟨f, ef⟩ : ∃ f, f = fT s c i := ⟨_, rfl⟩
    rw [← ef]
    have hstep : fT s c (i + 1) = if takes s c i = true then low f (s.tsk i).group.toNat (s.tsk i).v else f := by rw [ef]; rfl
    refine rR ?_ <;> first | exact hdT | apply zN
    refine wl ?_ <;> and_intros <;> first | exact hdT | (apply zM; (repeat intro ht); apply zM; (repeat intro hg); apply zM)
    · obtain ⟨hg1, hg2⟩ := kgrp i (by omega)
      have htk : takes s c i = true := by simp [takes, hg, ht]
      obtain ⟨f1, ef1⟩ : ∃ f1, f1 = low f (s.tsk i).group.toNat (s.tsk i).v := ⟨_, rfl⟩
      refine cl [.gen (.tup []) (k + 4) (LW (k + 2) (k + 1) s.ns f) (LW (k + 2) (k + 1) s.ns f1)] ?_ <;> and_intros <;> first | exact hdT | (apply zM; (repeat intro ht); apply zM; (repeat intro hg); apply zM)
      · have h := lower (Γ := Γ) (k + 4) (k + 2) (k + 1) s.ns f (s.tsk i).group.toNat (s.tsk i).v (by omega) (by omega) (by omega) (by omega)
        rw [Int.toNat_of_nonneg hg1, ← ef1] at h
        exact h
      refine wl ?_ <;> and_intros <;> first | exact hdT | (apply zM; (repeat intro ht); apply zM; (repeat intro hg); apply zM)
      refine ⟨i + 1, by omega, by omega, ?_⟩
      rw [hstep, if_pos htk, ← ef1]
      refine rR ?_ <;> first | exact hdT | apply zN
      (have uU := zA @a1 (zA @a2 (zA @a3 (zA @a4 (zA @a5 (zA @a6 (zA @b1 (zA @b2 (zA @b3 (zA @b4 (zA @b5 (zA @b6 (zA @c1 (zA @c2 @rowsP_nil))))))))))))); exact wkU)
    · refine ⟨i + 1, by omega, by omega, ?_⟩
      rw [hstep, if_neg (by simp [takes, ht])]
      refine rR ?_ <;> first | exact hdT | apply zN
      (have uU := zA @a1 (zA @a2 (zA @a3 (zA @a4 (zA @a5 (zA @a6 (zA @b1 (zA @b2 (zA @b3 (zA @b4 (zA @b5 (zA @b6 (zA @c1 (zA @c2 @rowsP_nil))))))))))))); exact wkU)
    · refine ⟨i + 1, by omega, by omega, ?_⟩
      rw [hstep, if_neg (by simp [takes, hg])]
      refine rR ?_ <;> first | exact hdT | apply zN
      (have uU := zA @a1 (zA @a2 (zA @a3 (zA @a4 (zA @a5 (zA @a6 (zA @b1 (zA @b2 (zA @b3 (zA @b4 (zA @b5 (zA @b6 (zA @c1 (zA @c2 @rowsP_nil))))))))))))); exact wkU)
    · have hi' : i = s.nt := by omega
      subst hi'
      clear hstep
      refine M_forO (X := Nat) rfl [0,2,3,4,6,7,13,14,15,29,30,31,32,42,54,61,86] (k + 3) (fun j => [(7, .lit (.int .i64 ((s.ns : Int) - 1 - j)))]) (fun j => LW (k + 2) (k + 1) s.ns (dF s c j) ++ LK L k s (l0 ++ flats (floorJ s c) j)) (fun j => j ≤ s.ns) (fun j => s.ns - j) 0 ?_ (Nat.zero_le _) ?_
      · rw [flats_zero, List.append_nil, dF, ← ef, show ((s.ns : Int) - 1 - ((0 : Nat) : Int)) = (s.ns : Int) - 1 by omega]
        refine rR ?_ <;> first | exact hdT | apply zN
        (have uU := zA @a1 (zA @a2 (zA @a3 (zA @a4 (zA @a5 (zA @a6 (zA @b1 (zA @b2 (zA @b3 (zA @b4 (zA @b5 (zA @b6 (zA @c1 (zA @c2 @rowsP_nil))))))))))))); exact wkU)
      clear ef f
      intro j hj
      have hfj := flats_len (f := floorJ s c) (m := 1) (fun j => stepL_len _ _ _ _) j
      obtain ⟨l1, e1, h1⟩ : ∃ x, x = l0 ++ flats (floorJ s c) j ∧ x.length ≤ l0.length + j := ⟨_, rfl, by simp; omega⟩
      obtain ⟨f, ef⟩ : ∃ f, f = dF s c j := ⟨_, rfl⟩
      rw [← e1, ← ef]
      refine rR ?_ <;> first | exact hdT | apply zN
      by_cases hlt : j < s.ns
      · obtain ⟨g, eg, hgn⟩ : ∃ g : Nat, (s.ns : Int) - 1 - j = (g : Int) ∧ g = s.ns - 1 - j := ⟨s.ns - 1 - j, by omega, rfl⟩
        rw [eg]
        have hF : dF s c (j + 1) = stepF s c g f := by rw [ef, hgn]; rfl
        have hLj : floorJ s c j = stepL s c g f := by rw [ef, hgn]; rfl
        have hget := rowsP_get f s.ns g (by omega)
        cases hf : f g with
        | none =>
          rw [hf, optP_none] at hget
          have uU := zA @a1 (zA @a2 (zA @a3 (zA @a4 (zA @a5 (zA @a6 (zA @b1 (zA @b2 (zA @b3 (zA @b4 (zA @b5 (zA @b6 (zA @c1 (zA @c2 @hget)))))))))))))
          refine wl ?_ <;> and_intros <;> first | exact hdT | (apply zM; (repeat intro ht); apply zM; (repeat intro hg); apply zM)
          refine ⟨j + 1, by omega, by omega, ?_⟩
          rw [hF, show stepF s c g f = f by simp only [stepF, hf], flats_succ, hLj, show stepL s c g f = [] by simp only [stepL, hf], List.append_nil, ← e1, show ((s.ns : Int) - 1 - ((j + 1 : Nat) : Int)) = (g : Int) - 1 by omega]
          (have uU := zA @a1 (zA @a2 (zA @a3 (zA @a4 (zA @a5 (zA @a6 (zA @b1 (zA @b2 (zA @b3 (zA @b4 (zA @b5 (zA @b6 (zA @c1 (zA @c2 @hget))))))))))))); exact wkU)
        | some m =>
          rw [hf, optP_some] at hget
          have hspg := ksp g (by omega)
          have hnn := eg
          have uU := zA @a1 (zA @a2 (zA @a3 (zA @a4 (zA @a5 (zA @a6 (zA @b1 (zA @b2 (zA @b3 (zA @b4 (zA @b5 (zA @b6 (zA @c1 (zA @c2 @hget)))))))))))))
          refine wl ?_ <;> and_intros <;> first | exact hdT | (apply zM; (repeat intro ht); apply zM; (repeat intro hg); apply zM)
          obtain ⟨l2, e_l2, h_l2⟩ : ∃ x, x = l1 ++ iff1 (decide ((s.sp g c).floor < m)) ⟨14, (g : Int), (c : Int)⟩ ∧ x.length ≤ (l1).length + 1 := ⟨_, rfl, iff1_len _ _ _⟩
          refine M_cutO [0,2,3,4,6,7,13,14,15,29,30,31,32,42,54,61,86] (k + 4) [] ((L, ⟨8, false, [lkRow (k + 3) s (l2)]⟩) :: accH (k + 3) 3 ((l2).map Flt.row) (LW (k + 2) (k + 1) s.ns f)) ?_ ?_
          · refine dl [.gen (.tup []) (k + 4) (LK (L) (k) s (l1)) (LK (L) (k + 3) s (l2))] ?_ <;> and_intros <;> first | exact hdT | (apply zM; (repeat intro ht); apply zM; (repeat intro hg); apply zM)
            all_goals (first | (exact found' (k + 3) (L) (k) s (l1) (l2) _ (decide ((s.sp g c).floor < m)) _ _ _ (by first | rfl | (rw [Bool.eq_iff_iff]; simp only [beq_iff_eq, bne_iff_ne, ne_eq, decide_eq_true_eq, decide_eq_false_iff_not, Bool.and_eq_true, Bool.or_eq_true, Bool.not_eq_true', beq_eq_false_iff_ne, Bool.false_eq_true, Bool.true_eq_false, true_iff, false_iff, iff_true, iff_false]; omega) | (simp [hg]; done) | (simp [hg, hq]; done) | (simp_all; done) | (simp_all; omega)) e_l2 (by omega) (by omega) (by omega) (by omega)) | ((have uU := zA @a1 (zA @a2 (zA @a3 (zA @a4 (zA @a5 (zA @a6 (zA @b1 (zA @b2 (zA @b3 (zA @b4 (zA @b5 (zA @b6 (zA @c1 (zA @c2 @hget))))))))))))); exact wkU)))
          refine rR ?_ <;> first | exact hdT | apply zN
          have hl2 : l0 ++ flats (floorJ s c) (j + 1) = l2 := by
            rw [flats_succ, ← List.append_assoc, ← e1, hLj, e_l2]
            simp only [stepL, hf]
          refine wl ?_ <;> and_intros <;> first | exact hdT | (apply zM; (repeat intro ht); apply zM; (repeat intro hg); apply zM)
          · obtain ⟨hp1, hp2⟩ := kpar g (by omega) (by omega)
            obtain ⟨f1, ef1⟩ : ∃ f1, f1 = low f (s.par g).toNat (s.sp g c).v := ⟨_, rfl⟩
            refine dl [.gen (.tup []) (k + 4) (LW (k + 2) (k + 1) s.ns f) (LW (k + 2) (k + 1) s.ns f1)] ?_ <;> and_intros <;> first | exact hdT | (apply zM; (repeat intro ht); apply zM; (repeat intro hg); apply zM)
            · have h := lower (Γ := Γ) (k + 4) (k + 2) (k + 1) s.ns f (s.par g).toNat (s.sp g c).v (by omega) (by omega) (by omega) (by omega)
              rw [Int.toNat_of_nonneg hp1, ← ef1] at h
              exact h
            refine wl ?_ <;> and_intros <;> first | exact hdT | (apply zM; (repeat intro ht); apply zM; (repeat intro hg); apply zM)
            refine ⟨j + 1, by omega, by omega, ?_⟩
            rw [hF, show stepF s c g f = f1 by simp only [stepF, hf]; rw [if_pos (by omega), ef1], hl2, show ((s.ns : Int) - 1 - ((j + 1 : Nat) : Int)) = (g : Int) - 1 by omega]
            exact Mv.app (k + 3) (k) ⟨by omega, by omega⟩ ⟨by omega, by omega⟩ (wk_low (by omega) (by simp -dsimp -implicitDefEqProofs only [go_sem, a1, a2, a3, a4, a5, a6, b1, b2, b3, b4, b5, b6, c1, c2, hget, List.map_append, Flt.row, eq_self, ↓reduceIte]) (by simp -dsimp -implicitDefEqProofs only [go_sem, a1, a2, a3, a4, a5, a6, b1, b2, b3, b4, b5, b6, c1, c2, hget, List.map_append, Flt.row, eq_self, ↓reduceIte]) (by simp -dsimp -implicitDefEqProofs only [go_sem, a1, a2, a3, a4, a5, a6, b1, b2, b3, b4, b5, b6, c1, c2, hget, List.map_append, Flt.row, eq_self, ↓reduceIte]) (by simp -dsimp -implicitDefEqProofs only [go_sem, a1, a2, a3, a4, a5, a6, b1, b2, b3, b4, b5, b6, c1, c2, hget, List.map_append, Flt.row, eq_self, ↓reduceIte]))
          · refine ⟨j + 1, by omega, by omega, ?_⟩
            rw [hF, show stepF s c g f = f by simp only [stepF, hf]; rw [if_neg (by omega)], hl2, show ((s.ns : Int) - 1 - ((j + 1 : Nat) : Int)) = (g : Int) - 1 by omega]
            exact Mv.app (k + 3) (k) ⟨by omega, by omega⟩ ⟨by omega, by omega⟩ (wk_low (by omega) (by simp -dsimp -implicitDefEqProofs only [go_sem, a1, a2, a3, a4, a5, a6, b1, b2, b3, b4, b5, b6, c1, c2, hget, List.map_append, Flt.row, eq_self, ↓reduceIte]) (by simp -dsimp -implicitDefEqProofs only [go_sem, a1, a2, a3, a4, a5, a6, b1, b2, b3, b4, b5, b6, c1, c2, hget, List.map_append, Flt.row, eq_self, ↓reduceIte]) (by simp -dsimp -implicitDefEqProofs only [go_sem, a1, a2, a3, a4, a5, a6, b1, b2, b3, b4, b5, b6, c1, c2, hget, List.map_append, Flt.row, eq_self, ↓reduceIte]) (by simp -dsimp -implicitDefEqProofs only [go_sem, a1, a2, a3, a4, a5, a6, b1, b2, b3, b4, b5, b6, c1, c2, hget, List.map_append, Flt.row, eq_self, ↓reduceIte]))
      · have uU := zA @a1 (zA @a2 (zA @a3 (zA @a4 (zA @a5 (zA @a6 (zA @b1 (zA @b2 (zA @b3 (zA @b4 (zA @b5 (zA @b6 (zA @c1 @c2))))))))))))
        refine wl ?_ <;> and_intros <;> first | exact hdT | (apply zM; (repeat intro ht); apply zM; (repeat intro hg); apply zM)
        have hj' : j = s.ns := by omega
        refine ⟨c + 1, by omega, by omega, ?_⟩
        rw [show l ++ flats (floorsAt s) (c + 1) = l1 by
          rw [flats_succ, ← List.append_assoc, ← e0, e1, hj']; rfl]
        refine rR ?_ <;> first | exact hdT | apply zN
        (have uU := zA @a1 (zA @a2 (zA @a3 (zA @a4 (zA @a5 (zA @a6 (zA @b1 (zA @b2 (zA @b3 (zA @b4 (zA @b5 (zA @b6 (zA @c1 @c2)))))))))))); exact wkU)
  · have hi' : c = s.cpus.toNat := by omega
    refine ⟨k + 1, [], LK L k s l0, ?_, _, rfl, rfl, rfl, by rw [e0, hi']; rfl⟩
    (have uU := zA @a1 (zA @a2 (zA @a3 (zA @a4 (zA @a5 (zA @a6 (zA @b1 (zA @b2 (zA @b3 (zA @b4 (zA @b5 (zA @b6 (zA @c1 @c2)))))))))))); exact wkU)
end Go.Proofs.T
end
section
namespace Go.Proofs.T
open Go Go.AM Go.Proofs
set_option maxRecDepth 20000
variable {Γ : List (Nat × List AVal)}
structure Wf (s : St) : Prop where
  mask0 : ∀ i, 0 ≤ (s.tsk i).mask
  mask1 : ∀ i, (s.tsk i).mask < 18446744073709551616
  tv : ∀ i, (s.tsk i).v ≤ 18446744073709551615
  tr : ∀ i, 0 ≤ (s.tsk i).r
  sv : ∀ g c, (s.sp g c).v ≤ 18446744073709551615
  sr : ∀ g c, 0 ≤ (s.sp g c).r
def wideB (s : St) (i : Nat) (c : Nat) : Bool := decide (s.cpus ≤ (c : Int)) && bitB (s.tsk i).mask c
def r8 (s : St) (i : Nat) : Bool := anyB (wideB s i) 64
def r9 (s : St) (i : Nat) : Bool := onB s i && !(bitB (s.tsk i).mask (s.tsk i).cpu.toNat)
def brk (s : St) (i : Nat) (r : Int) : Bool := if r = 4 then t4 s i else if r = 5 then t5 s i else if r = 6 then t6 s i else if r = 7 then t7 s i else if r = 8 then r8 s i else if r = 9 then r9 s i else t10 s i
theorem brk4 {s : St} {i : Nat} {r : Int} (h : r = 4) : brk s i r = t4 s i := by subst h; rfl
theorem brk5 {s : St} {i : Nat} {r : Int} (h : r = 5) : brk s i r = t5 s i := by subst h; rfl
theorem brk6 {s : St} {i : Nat} {r : Int} (h : r = 6) : brk s i r = t6 s i := by subst h; rfl
theorem brk7 {s : St} {i : Nat} {r : Int} (h : r = 7) : brk s i r = t7 s i := by subst h; rfl
theorem brk8 {s : St} {i : Nat} {r : Int} (h : r = 8) : brk s i r = r8 s i := by subst h; rfl
theorem brk9 {s : St} {i : Nat} {r : Int} (h : r = 9) : brk s i r = r9 s i := by subst h; rfl
theorem brk10 {s : St} {i : Nat} {r : Int} (h4 : ¬ r = 4) (h5 : ¬ r = 5) (h6 : ¬ r = 6) (h7 : ¬ r = 7) (h8 : ¬ r = 8) (h9 : ¬ r = 9) : brk s i r = t10 s i := by simp [brk, h4, h5, h6, h7, h8, h9]
theorem anyB_false {f : Nat → Bool} : ∀ {n : Nat}, (∀ j, j < n → f j = false) → anyB f n = false
  | 0, _ => rfl
  | n + 1, h => by rw [anyB, anyB_false (fun j hj => h j (by omega)), h n (by omega)]; rfl
set_option maxHeartbeats 4000000 in
theorem broken_ref (s : St) (hs : s.Small) (hw : Wf s) (hc0 : 0 ≤ s.cpus) (hc1 : s.cpus ≤ 64) (i : Nat) (hi : i < s.nt) (r : Int) : Pure Tryz.prog Γ 241 [.agg s.cells, .lit (.int .i64 (i : Int)), .lit (.int .u8 r)] (.lit (.bool (brk s i r))) := by
  obtain ⟨hng, hnk, hnu, hnt, hns, hnsp⟩ := id hs
  have hw1 : IntKind.i64.wrap ((i : Int) - 1) = (i : Int) - 1 := wrap_i64 (by omega) (by omega)
  have hpn : ((i : Int) - 1).toNat = i - 1 := by omega
  refine Pure_at Tryz.func241 rfl 103 rfl (Nat.le_of_ble_eq_true rfl) rfl fun k => ?_
  obtain ⟨B, eB⟩ : ∃ B, B = brk s i r := ⟨_, rfl⟩
  rw [← eB]
  (repeat' (first | (refine C_seq rfl ?_) | (refine C_block rfl ?_) | (refine C_skip rfl ?_; (try simp -dsimp -implicitDefEqProofs only [go_sem, hw1, hpn, eq_self, ↓reduceIte])) | (refine C_exit rfl ?_; (try simp -dsimp -implicitDefEqProofs only [go_sem, hw1, hpn, eq_self, ↓reduceIte])) | (refine C_cond rfl _ rfl (fun ht => ?_) (fun ht => ?_) <;> (try (simp only [nf] at ht)) <;> (try (exfalso; omega))) | ((first | (refine S_reg0 rfl [0,1,2,3,6,7,8,9,26,27,43,53,67,71,77,83,84] rfl rfl (fun K hK => ?_)) | (refine S_drw0 rfl [0,1,2,3,6,7,8,9,26,27,43,53,67,71,77,83,84] rfl (by kernel_rfl) rfl (fun K hK => ?_))); simp -dsimp -implicitDefEqProofs only [go_sem, hw1, hpn, eq_self, ↓reduceIte]; (repeat' (first | (refine And.intro ?_ ?_) | (refine gs_both (fun hb => ?_) (fun hb => ?_) <;> (have hg := hb; (try simp only [nfb] at hg); simp -dsimp -implicitDefEqProofs only [go_sem, hw1, hpn, hb, hg, eq_self, ↓reduceIte]; clear hb; (try simp only [nfe] at hg))))); any_goals ((first | (refine hK _ _ _ _ (fun hx => ?_)) | (refine hK _ _ _ _ (drawOk_names (fun i => i - k) (by simp only [List.map_cons, List.map_nil, shG, hw1, hpn, ↓reduceIte, Nat.add_sub_cancel_left, Nat.sub_self]; rfl) (by decide +kernel) (by simp -dsimp -implicitDefEqProofs only [go_sem, hw1, hpn, eq_self, ↓reduceIte])) (fun hx => ?_)) | (refine hK _ _ _ _ (drawOk_of (by kernel_rfl) (by simp -dsimp -implicitDefEqProofs only [go_sem, hw1, hpn, eq_self, ↓reduceIte])) (fun hx => ?_))); clear hx hK; simp -dsimp -implicitDefEqProofs only [go_sem, hw1, hpn, eq_self, ↓reduceIte]; (try simp (disch := omega) only [wrap_i64, wrap_u64, wrap_u32, wrap_u8]))) | omega))
  any_goals (refine C_ret rfl ⟨_, rfl, VLe.of_eq ?_⟩; first
    | (rw [eB, brk4 (by omega), t4]; (simp only [AVal.lit.injEq, Value.bool.injEq]; rw [Bool.eq_iff_iff]; simp only [beq_iff_eq, bne_iff_ne, ne_eq, decide_eq_true_eq, decide_eq_false_iff_not, Bool.and_eq_true, Bool.or_eq_true, Bool.not_eq_true', beq_eq_false_iff_ne, Bool.false_eq_true, Bool.true_eq_false, true_iff, false_iff, iff_true, iff_false]; omega); done)
    | (rw [eB, brk5 (by omega), t5]; (simp only [AVal.lit.injEq, Value.bool.injEq]; rw [Bool.eq_iff_iff]; simp only [beq_iff_eq, bne_iff_ne, ne_eq, decide_eq_true_eq, decide_eq_false_iff_not, Bool.and_eq_true, Bool.or_eq_true, Bool.not_eq_true', beq_eq_false_iff_ne, Bool.false_eq_true, Bool.true_eq_false, true_iff, false_iff, iff_true, iff_false]; omega); done)
    | (rw [eB, brk6 (by omega), t6]; (simp only [AVal.lit.injEq, Value.bool.injEq]; rw [Bool.eq_iff_iff]; simp only [beq_iff_eq, bne_iff_ne, ne_eq, decide_eq_true_eq, decide_eq_false_iff_not, Bool.and_eq_true, Bool.or_eq_true, Bool.not_eq_true', beq_eq_false_iff_ne, Bool.false_eq_true, Bool.true_eq_false, true_iff, false_iff, iff_true, iff_false]; omega); done)
    | (rw [eB, brk7 (by omega), t7, onB]; (simp only [AVal.lit.injEq, Value.bool.injEq]; rw [Bool.eq_iff_iff]; simp only [beq_iff_eq, bne_iff_ne, ne_eq, decide_eq_true_eq, decide_eq_false_iff_not, Bool.and_eq_true, Bool.or_eq_true, Bool.not_eq_true', beq_eq_false_iff_ne, Bool.false_eq_true, Bool.true_eq_false, true_iff, false_iff, iff_true, iff_false]; omega); done))
  all_goals (try (have h8 : B = r8 s i := by rw [eB, brk8 (by omega)]))
  all_goals (try (have h9 : B = r9 s i := by rw [eB, brk9 (by omega)]))
  all_goals (try (have h10 : B = t10 s i := by rw [eB, brk10 (by omega) (by omega) (by omega) (by omega) (by omega) (by omega)]))
  · have hst : (s.cpus.toNat : Int) = s.cpus := by omega
    refine M_forO (X := Nat) rfl [0,1,2,3,6,7,8,9,26,27,43,53,67,71,77,83,84] (k + 2) (fun c => [(9, .lit (.int .i64 (c : Int)))]) (fun c => [(k + 1, ⟨8, true, [tf s i]⟩), (k, ⟨7, true, [s.cells]⟩)]) (fun c => s.cpus ≤ (c : Int) ∧ c ≤ 64 ∧ ∀ j, j < c → wideB s i j = false) (fun c => 64 - c) s.cpus.toNat ?_ ⟨by omega, by omega, fun j hj => by simp only [wideB, decide_eq_false (show ¬ s.cpus ≤ (j : Int) by omega), Bool.false_and]⟩ ?_
    · rw [hst]
      have uU := zA @hw1 @hpn
      refine rR ?_ <;> first | exact hdT | apply zN
      (have uU := zA @hw1 @hpn; exact wkU)
    rintro c ⟨hcc, hc64, hall⟩
    have uU := zA @hw1 @hpn
    refine rR ?_ <;> first | exact hdT | apply zN
    have kp : Kp [0,1,2,3,6,7,8,9,26,27,43,53,67,71,77,83,84] (fun i => i - k) := kpI
    refine wl ?_ <;> and_intros <;> first | exact hdT | (apply zM; (repeat intro ht); apply zM; (repeat intro hg); apply zM)
    · refine cl [.ret (.lit (.bool (bitB (s.tsk i).mask c)))] ?_ <;> and_intros <;> first | exact hdT | (apply zM; (repeat intro ht); apply zM; (repeat intro hg); apply zM)
      · have h := bit_ref (Γ := Γ) (s.tsk i).mask (c : Int) (hw.mask0 i) (hw.mask1 i) (by omega)
        rw [Int.toNat_natCast] at h
        exact h
      refine wl ?_ <;> and_intros <;> first | exact hdT | (apply zM; (repeat intro ht); apply zM; (repeat intro hg); apply zM)
      · refine C_ret rfl ⟨_, rfl, VLe.of_eq ?_⟩
        rw [h8, r8, anyB_true (i := c) (by simp only [wideB, decide_eq_true hcc, ht, Bool.and_self]) (by omega)]
      · refine ⟨c + 1, ⟨by omega, by omega, fun j hj => ?_⟩, by omega, ?_⟩
        · by_cases he : j = c
          · subst he; simp only [wideB, ht, Bool.and_false]
          · exact hall j (by omega)
        · refine rR ?_ <;> first | exact hdT | apply zN
          (have uU := zA @hw1 @hpn; exact wkU)
    · refine C_ret rfl ⟨_, rfl, VLe.of_eq ?_⟩
      rw [h8, r8, anyB_false (fun j hj => hall j (by omega))]
  · have hq := hg
    have kp : Kp [0,1,2,3,6,7,8,9,26,27,43,53,67,71,77,83,84] (fun i => i - k) := kpI
    have uU := zA @hw1 @hpn
    refine cl [.ret (.lit (.bool (bitB (s.tsk i).mask (s.tsk i).cpu.toNat)))] ?_ <;> and_intros <;> first | exact hdT | (apply zM; (repeat intro ht); apply zM; (repeat intro hg); apply zM)
    · exact bit_ref (s.tsk i).mask (s.tsk i).cpu (hw.mask0 i) (hw.mask1 i) (by omega)
    all_goals (refine C_ret rfl ⟨_, rfl, VLe.of_eq ?_⟩; rw [h9, r9, onB])
    · simp [hq, hg]
    · simp [hg]
  · have kp : Kp [0,1,2,3,6,7,8,9,26,27,43,53,67,71,77,83,84] (fun i => i - k) := kpI
    have uU := zA @hw1 @hpn
    refine wl ?_ <;> and_intros <;> first | exact hdT | (apply zM; (repeat intro ht); apply zM; (repeat intro hg); apply zM)
    refine cl [.ret (.lit (.bool (ent (s.tsk i).v (s.tsk i).r (s.tsk i).weight)))] ?_ <;> and_intros <;> first | exact hdT | (apply zM; (repeat intro ht); apply zM; (repeat intro hg); apply zM)
    · exact entity_ref (s.tsk i).v (s.tsk i).r (s.tsk i).weight (hw.tv i) (hw.tr i)
    refine C_ret rfl ⟨_, rfl, VLe.of_eq ?_⟩
    rw [h10, t10]
  · have hst : (s.cpus.toNat : Int) = s.cpus := by omega
    refine M_forO (X := Nat) rfl [0,1,2,3,6,7,8,9,26,27,43,53,67,71,77,83,84] (k + 2) (fun c => [(9, .lit (.int .i64 (c : Int)))]) (fun c => [(k + 1, ⟨8, true, [tf s i]⟩), (k, ⟨7, true, [s.cells]⟩)]) (fun c => s.cpus ≤ (c : Int) ∧ c ≤ 64 ∧ ∀ j, j < c → wideB s i j = false) (fun c => 64 - c) s.cpus.toNat ?_ ⟨by omega, by omega, fun j hj => by simp only [wideB, decide_eq_false (show ¬ s.cpus ≤ (j : Int) by omega), Bool.false_and]⟩ ?_
    · rw [hst]
      have uU := zA @hw1 @hpn
      refine rR ?_ <;> first | exact hdT | apply zN
      (have uU := zA @hw1 @hpn; exact wkU)
    rintro c ⟨hcc, hc64, hall⟩
    have uU := zA @hw1 @hpn
    refine rR ?_ <;> first | exact hdT | apply zN
    have kp : Kp [0,1,2,3,6,7,8,9,26,27,43,53,67,71,77,83,84] (fun i => i - k) := kpI
    refine wl ?_ <;> and_intros <;> first | exact hdT | (apply zM; (repeat intro ht); apply zM; (repeat intro hg); apply zM)
    · refine cl [.ret (.lit (.bool (bitB (s.tsk i).mask c)))] ?_ <;> and_intros <;> first | exact hdT | (apply zM; (repeat intro ht); apply zM; (repeat intro hg); apply zM)
      · have h := bit_ref (Γ := Γ) (s.tsk i).mask (c : Int) (hw.mask0 i) (hw.mask1 i) (by omega)
        rw [Int.toNat_natCast] at h
        exact h
      refine wl ?_ <;> and_intros <;> first | exact hdT | (apply zM; (repeat intro ht); apply zM; (repeat intro hg); apply zM)
      · refine C_ret rfl ⟨_, rfl, VLe.of_eq ?_⟩
        rw [h8, r8, anyB_true (i := c) (by simp only [wideB, decide_eq_true hcc, ht, Bool.and_self]) (by omega)]
      · refine ⟨c + 1, ⟨by omega, by omega, fun j hj => ?_⟩, by omega, ?_⟩
        · by_cases he : j = c
          · subst he; simp only [wideB, ht, Bool.and_false]
          · exact hall j (by omega)
        · refine rR ?_ <;> first | exact hdT | apply zN
          (have uU := zA @hw1 @hpn; exact wkU)
    · refine C_ret rfl ⟨_, rfl, VLe.of_eq ?_⟩
      rw [h8, r8, anyB_false (fun j hj => hall j (by omega))]
  · have kp : Kp [0,1,2,3,6,7,8,9,26,27,43,53,67,71,77,83,84] (fun i => i - k) := kpI
    have uU := zA @hw1 @hpn
    refine cl [.ret (.lit (.bool (bitB (s.tsk i).mask (s.tsk i).cpu.toNat)))] ?_ <;> and_intros <;> first | exact hdT | (apply zM; (repeat intro ht); apply zM; (repeat intro hg); apply zM)
    all_goals (refine C_ret rfl ⟨_, rfl, VLe.of_eq ?_⟩; rw [h9, r9, onB])
    · simp [hg]
  · have kp : Kp [0,1,2,3,6,7,8,9,26,27,43,53,67,71,77,83,84] (fun i => i - k) := kpI
    have uU := zA @hw1 @hpn
    refine wl ?_ <;> and_intros <;> first | exact hdT | (apply zM; (repeat intro ht); apply zM; (repeat intro hg); apply zM)
    refine cl [.ret (.lit (.bool (ent (s.tsk i).v (s.tsk i).r (s.tsk i).weight)))] ?_ <;> and_intros <;> first | exact hdT | (apply zM; (repeat intro ht); apply zM; (repeat intro hg); apply zM)
    · exact entity_ref (s.tsk i).v (s.tsk i).r (s.tsk i).weight (hw.tv i) (hw.tr i)
    refine C_ret rfl ⟨_, rfl, VLe.of_eq ?_⟩
    rw [h10, t10]
end Go.Proofs.T
end
