import Derived.Test.YteimiejbhhgljaaGreatDoorZAL
set_option linter.unusedVariables false
set_option linter.unusedSimpArgs false
section
namespace Go.Proofs.T
open Go Go.AM Go.Proofs Go.Lib
set_option maxRecDepth 20000
variable {Γ : List (Nat × List AVal)}
attribute [local irreducible] putO del
def nmA : Option Nat → AVal
  | some v => .tup [.lit (.int .u64 (v : Int)), .lit (.bool true)]
  | none => .tup [.junk, .lit (.bool false)]
theorem nmA_no {u : AVal} : VLe (.tup [u, .lit (.bool false)]) (nmA none) := VLe.tups (.cons (VLe.junk _) (.cons (VLe.refl _) .nil))
theorem number35_c (s : List UInt8) (hs : s.length ≤ 100000) (m : Nat) (h9 : 9 ≤ m) (hm : m ≤ 18446744073709551615) : AM.Pure Tryz.prog Γ 178 [.lit (.string (ByteArray.mk s.toArray)), .lit (.int .u64 (m : Int))] (nmA (numW s m)) := by
  obtain ⟨R, eR⟩ : ∃ R, R = numW s m := ⟨_, rfl⟩
  rw [← eR]
  refine Pure_at Tryz.func178 rfl 59 rfl (Nat.le_of_ble_eq_true rfl) (by cases R <;> rfl) fun k => ?_
  have kp : Kp [0,1,4,5,6,7,8,12,24,40] (fun i => i - k) := kpI
  refine wl ?_ <;> and_intros <;> first | exact hdT | (apply zM; (repeat intro ht); apply zM; (repeat intro hg); apply zM)
  refine M_forO (X := Nat × Nat) rfl [0,1,4,5,6,7,8,12,24,40] k (fun x => [(7, .lit (.int .i64 (x.2 : Int))), (6, .lit (.int .u64 (x.1 : Int)))]) (fun x => []) (fun x => x.2 ≤ s.length ∧ x.1 ≤ m ∧ numGoR m 0 s = numGoR m x.1 (s.drop x.2)) (fun x => s.length - x.2) (0, 0) ?_ ⟨Nat.zero_le _, Nat.zero_le _, rfl⟩ ?_
  · refine rR ?_ <;> first | exact hdT | apply zN
    exact wkF
  rintro ⟨x, i⟩ ⟨hi, hx, hgo⟩
  simp only at hi hx hgo
  by_cases hlt : i < s.length
  · obtain ⟨c, ec⟩ : ∃ c, c = s.getD i 0 := ⟨_, rfl⟩
    have hdr : s.drop i = c :: s.drop (i + 1) := by rw [drop_at hlt, ec]
    have hc0 := c.toNat_lt
    rw [hdr, numGoR] at hgo
    have hdig := dig_iff (c := c)
    obtain ⟨d, ed⟩ : ∃ d, d = c.toNat := ⟨_, rfl⟩
    rw [← ed] at hgo hc0 hdig
    have hno : ¬ (48 ≤ d ∧ d ≤ 57) → R = none := fun h => by
      rw [eR, numW, hgo, if_pos (by rw [Bool.eq_false_iff]; exact fun hd => h (hdig.1 hd))]
    have hov : 48 ≤ d → d ≤ 57 → (m - (d - 48)) / 10 < x → R = none := fun h1 h2 h => by
      rw [eR, numW, hgo, if_neg (by rw [hdig.2 ⟨h1, h2⟩]; simp), if_pos h]
    have hst : 48 ≤ d → d ≤ 57 → ¬ (m - (d - 48)) / 10 < x → numGoR m 0 s = numGoR m (10 * x + (d - 48)) (s.drop (i + 1)) := fun h1 h2 h => by
      rw [hgo, if_neg (by rw [hdig.2 ⟨h1, h2⟩]; simp), if_neg h]
    have hwr : 48 ≤ d → d ≤ 57 → IntKind.u64.wrap ((IntKind.u64.wrap ((m : Int) - ((d : Int) - 48))).tdiv 10) = (((m - (d - 48)) / 10 : Nat) : Int) := fun h1 h2 => by
      rw [wrap_u64' (n := (m : Int) - ((d : Int) - 48)) (by omega) (by omega), show (m : Int) - ((d : Int) - 48) = ((m - (d - 48) : Nat) : Int) by omega]
      have e : (((m - (d - 48) : Nat) : Int)).tdiv 10 = (((m - (d - 48)) / 10 : Nat) : Int) := by
        rw [Int.tdiv_eq_ediv_of_nonneg (by omega)]; omega
      rw [e, wrap_u64' (by omega) (by omega)]
    simp only
    have uU := And.intro (Eq.symm (ec)) (Eq.symm (ed))
    refine rR ?_ <;> first | exact hdT | apply zN
    refine wl ?_ <;> and_intros <;> first | exact hdT | (apply zM; (repeat intro ht); apply zM; (repeat intro hg); apply zM)
    · rw [hno (by omega)]
      refine wl ?_ <;> and_intros <;> first | exact hdT | (apply zM; (repeat intro ht); apply zM; (repeat intro hg); apply zM)
      exact C_ret rfl ⟨_, rfl, nmA_no⟩
    · rename_i hg
      rw [hwr (by omega) (by omega)] at hg
      have hq : ¬ (m - (d - 48)) / 10 < x := by omega
      have h1 := hst (by omega) (by omega) hq
      refine ⟨(10 * x + (d - 48), i + 1), ⟨by simp only; omega, by simp only; omega, h1⟩, by simp only; omega, ?_⟩
      simp only
      have e1 : IntKind.u64.wrap (10 * (x : Int)) = 10 * (x : Int) := wrap_u64' (by omega) (by omega)
      have e2 : IntKind.u64.wrap (10 * (x : Int) + ((d : Int) - 48)) = 10 * (x : Int) + ((d : Int) - 48) := wrap_u64' (by omega) (by omega)
      rw [show ((i + 1 : Nat) : Int) = (i : Int) + 1 by omega, show ((10 * x + (d - 48) : Nat) : Int) = 10 * (x : Int) + ((d : Int) - 48) by omega]
      (have uU := zA @e1 @e2; exact wkU)
    · rename_i hg
      rw [hwr (by omega) (by omega)] at hg
      rw [hov (by omega) (by omega) (by omega)]
      refine wl ?_ <;> and_intros <;> first | exact hdT | (apply zM; (repeat intro ht); apply zM; (repeat intro hg); apply zM)
      exact C_ret rfl ⟨_, rfl, nmA_no⟩
    · rw [hno (by omega)]
      refine wl ?_ <;> and_intros <;> first | exact hdT | (apply zM; (repeat intro ht); apply zM; (repeat intro hg); apply zM)
      exact C_ret rfl ⟨_, rfl, nmA_no⟩
  · rw [List.drop_of_length_le (by omega), numGoR] at hgo
    have hie : i = s.length := by omega
    have hh := head_getD (s := s)
    obtain ⟨d, ed⟩ : ∃ d, d = (s.getD 0 0).toNat := ⟨_, rfl⟩
    rw [← ed] at hh
    have hN : R = if s ≠ [] ∧ (s.head? ≠ some 48 ∨ s.length = 1) then some x else none := by rw [eR, numW, hgo]
    have hl0 : s ≠ [] ↔ 0 < s.length := List.length_pos_iff.symm
    simp only
    have uU := Eq.symm (ed)
    refine rR ?_ <;> first | exact hdT | apply zN
    refine wl ?_ <;> and_intros <;> first | exact hdT | (apply zM; (repeat intro ht); apply zM; (repeat intro hg); apply zM)
    · by_cases h1 : s.length = 1
      · rw [hN, if_pos ⟨hl0.2 (by omega), .inr h1⟩]
        refine C_ret rfl ⟨_, rfl, VLe.of_eq ?_⟩
        rw [show ((s.length : Int) == 1) = true by rw [h1]; rfl]; rfl
      · rw [hN, if_neg (by
          rintro ⟨q1, q2 | q2⟩
          · exact q2 (hh.1 ⟨by omega, by omega⟩)
          · exact h1 q2)]
        refine C_ret rfl ⟨_, rfl, ?_⟩
        rw [show ((s.length : Int) == 1) = false by rw [beq_eq_false_iff_ne]; omega]
        exact nmA_no
    · rw [hN, if_pos ⟨hl0.2 (by omega), .inl (fun h => by have := hh.2 h; omega)⟩]
      exact C_ret rfl ⟨_, rfl, VLe.refl _⟩
    · rw [hN, if_neg (fun h => by have := hl0.1 h.1; omega)]
      exact C_ret rfl ⟨_, rfl, nmA_no⟩
def rowS (w : List UInt8) : List AVal := [.lit (.string (ByteArray.mk w.toArray))]
theorem rowS_strs (l : List (List UInt8)) : VLe (rows 1 (l.map rowS)) (strs l) := V_strs l
theorem split_step {s : List UInt8} {f i : Nat} (hf : f ≤ i) (hi : i < s.length) (h32 : s.getD i 0 = 32) (hno : (32 : UInt8) ∉ (s.drop f).take (i - f)) : split (s.drop f) [32] = (s.drop f).take (i - f) :: split (s.drop (i + 1)) [32] := by
  have e : s.drop f = (s.drop f).take (i - f) ++ 32 :: s.drop (i + 1) := by
    have h1 : (s.drop f).drop (i - f) = 32 :: s.drop (i + 1) := by
      rw [List.drop_drop, show f + (i - f) = i by omega, drop_at hi, h32]
    rw [← h1, List.take_append_drop]
  conv => lhs; rw [e]
  exact split_cons hno
theorem split_last {s : List UInt8} {f : Nat} (hno : (32 : UInt8) ∉ (s.drop f).take (s.length - f)) : split (s.drop f) [32] = [(s.drop f).take (s.length - f)] := by
  have e : (s.drop f).take (s.length - f) = s.drop f := List.take_of_length_le (by simp)
  rw [e] at hno ⊢
  exact split_one hno
theorem no_step {s : List UInt8} {f i : Nat} (hf : f ≤ i) (hi : i < s.length) (h32 : s.getD i 0 ≠ 32) (hno : (32 : UInt8) ∉ (s.drop f).take (i - f)) : (32 : UInt8) ∉ (s.drop f).take (i + 1 - f) := by
  rw [show i + 1 - f = (i - f) + 1 by omega, take_next (by simp; omega), List.mem_append, List.mem_singleton]
  rintro (h | h)
  · exact hno h
  · refine h32 ?_
    rw [h]
    simp only [List.getD_eq_getElem?_getD, List.getElem?_drop]
    rw [show f + (i - f) = i by omega]
theorem split35_c (s : List UInt8) (hs : s.length ≤ 100000) : AM.Pure Tryz.prog Γ 177 [.lit (.string (ByteArray.mk s.toArray))] (strs (split s [32])) := by
  obtain ⟨R, eR⟩ : ∃ R, R = split s [32] := ⟨_, rfl⟩
  rw [← eR]
  refine Pure_at Tryz.func177 rfl 32 rfl (Nat.le_of_ble_eq_true rfl) rfl fun k => ?_
  have kp : Kp [0,2,3,4,5,9,21] (fun i => i - k) := kpI
  refine wl ?_ <;> and_intros <;> first | exact hdT | (apply zM; (repeat intro ht); apply zM; (repeat intro hg); apply zM)
  refine M_forO (X := List (List UInt8) × Nat × Nat) rfl [0,2,3,4,5,9,21] (k + 1) (fun x => [(5, .lit (.int .i64 (x.2.2 : Int))), (4, .lit (.int .i64 (x.2.1 : Int))), (3, accV k (x.1.map rowS))]) (fun x => accH k 1 (x.1.map rowS) []) (fun x => x.2.2 ≤ s.length + 1 ∧ x.2.1 ≤ x.2.2 ∧ x.1.length ≤ x.2.2 ∧ (x.2.2 ≤ s.length → (32 : UInt8) ∉ (s.drop x.2.1).take (x.2.2 - x.2.1) ∧ R = x.1 ++ split (s.drop x.2.1) [32]) ∧ (s.length < x.2.2 → R = x.1)) (fun x => s.length + 1 - x.2.2) ([], 0, 0) ?_ ⟨Nat.zero_le _, Nat.zero_le _, Nat.zero_le _, fun _ => ⟨by simp, eR⟩, fun h => absurd h (by simp)⟩ ?_
  · refine rR ?_ <;> first | exact hdT | apply zN
    exact wkF
  rintro ⟨A, f, i⟩ ⟨hi, hf, hA, h1, h2⟩
  simp only at hi hf hA h1 h2
  simp only
  obtain ⟨L, eL, hL⟩ : ∃ L, L = A.map rowS ∧ L.length ≤ 200000 := ⟨_, rfl, by rw [List.length_map]; omega⟩
  rw [← eL]
  by_cases hlt : i ≤ s.length
  · obtain ⟨hno, hR⟩ := h1 hlt
    obtain ⟨c, ec⟩ : ∃ c, c = s.getD i 0 := ⟨_, rfl⟩
    obtain ⟨d, ed⟩ : ∃ d, d = c.toNat := ⟨_, rfl⟩
    have hsl : (s.take i).drop f = (s.drop f).take (i - f) := List.drop_take
    have hrow : rowS ((s.drop f).take (i - f)) = [.lit (.string (ByteArray.mk ((s.drop f).take (i - f)).toArray))] := rfl
    rcases L with _ | ⟨x0, L⟩
    ·
      have uU := And.intro (Eq.symm (ec)) (And.intro (Eq.symm (ed)) (zA @hrow @hsl))
      refine rR ?_ <;> first | exact hdT | apply zN
      refine wl ?_ <;> and_intros <;> first | exact hdT | (apply zM; (repeat intro ht); apply zM; (repeat intro hg); apply zM)
      · have hd : c = 32 := UInt8.toNat_inj.1 (by rw [← ed]; show d = 32; omega)
        refine ⟨(A ++ [(s.drop f).take (i - f)], i + 1, i + 1), ⟨by simp only; omega, Nat.le_refl _, by simp only [List.length_append, List.length_singleton]; omega, fun h => ⟨by simp, ?_⟩, fun h => absurd h (by simp only; omega)⟩, by simp only; omega, ?_⟩
        · rw [hR, split_step hf (by omega) (by rw [← ec]; exact hd) hno, List.append_assoc]; rfl
        · simp only [List.map_append, List.map_cons, List.map_nil]
          rw [← eL, show ((i + 1 : Nat) : Int) = (i : Int) + 1 by omega]
          refine rR ?_ <;> first | exact hdT | apply zN
          exact Mv.app (k + 2) (k) ⟨by omega, by omega⟩ ⟨by omega, by omega⟩ (wk_low (by omega) (by simp -dsimp -implicitDefEqProofs only [go_sem, ← ec, ← ed, hrow, hsl, List.map_append, Flt.row, eq_self, ↓reduceIte]) (by simp -dsimp -implicitDefEqProofs only [go_sem, ← ec, ← ed, hrow, hsl, List.map_append, Flt.row, eq_self, ↓reduceIte]) (by simp -dsimp -implicitDefEqProofs only [go_sem, ← ec, ← ed, hrow, hsl, List.map_append, Flt.row, eq_self, ↓reduceIte]) (by simp -dsimp -implicitDefEqProofs only [go_sem, ← ec, ← ed, hrow, hsl, List.map_append, Flt.row, eq_self, ↓reduceIte]))
      · have hd : c ≠ 32 := fun h => by rw [h] at ed; exact absurd ed (by show ¬ d = 32; omega)
        refine ⟨(A, f, i + 1), ⟨by simp only; omega, by simp only; omega, by simp only; omega, fun h => ⟨no_step hf (by simp only at h; omega) (by rw [← ec]; exact hd) hno, hR⟩, fun h => absurd h (by simp only; omega)⟩, by simp only; omega, ?_⟩
        simp only
        rw [← eL, show ((i + 1 : Nat) : Int) = (i : Int) + 1 by omega]
        refine rR ?_ <;> first | exact hdT | apply zN
        exact Mv.wk (wk_low (by omega) (by simp -dsimp -implicitDefEqProofs only [go_sem, ← ec, ← ed, hrow, hsl, List.map_append, Flt.row, eq_self, ↓reduceIte]) (by simp -dsimp -implicitDefEqProofs only [go_sem, ← ec, ← ed, hrow, hsl, List.map_append, Flt.row, eq_self, ↓reduceIte]) (by simp -dsimp -implicitDefEqProofs only [go_sem, ← ec, ← ed, hrow, hsl, List.map_append, Flt.row, eq_self, ↓reduceIte]) (by simp -dsimp -implicitDefEqProofs only [go_sem, ← ec, ← ed, hrow, hsl, List.map_append, Flt.row, eq_self, ↓reduceIte]))
      · have hie : i = s.length := by omega
        refine ⟨(A ++ [(s.drop f).take (i - f)], i + 1, i + 1), ⟨by simp only; omega, Nat.le_refl _, by simp only [List.length_append, List.length_singleton]; omega, fun h => absurd h (by simp only; omega), fun h => ?_⟩, by simp only; omega, ?_⟩
        · rw [hR]
          subst hie
          rw [split_last hno]
        · simp only [List.map_append, List.map_cons, List.map_nil]
          rw [← eL, show ((i + 1 : Nat) : Int) = (i : Int) + 1 by omega]
          refine rR ?_ <;> first | exact hdT | apply zN
          exact Mv.app (k + 2) (k) ⟨by omega, by omega⟩ ⟨by omega, by omega⟩ (wk_low (by omega) (by simp -dsimp -implicitDefEqProofs only [go_sem, ← ec, ← ed, hrow, hsl, List.map_append, Flt.row, eq_self, ↓reduceIte]) (by simp -dsimp -implicitDefEqProofs only [go_sem, ← ec, ← ed, hrow, hsl, List.map_append, Flt.row, eq_self, ↓reduceIte]) (by simp -dsimp -implicitDefEqProofs only [go_sem, ← ec, ← ed, hrow, hsl, List.map_append, Flt.row, eq_self, ↓reduceIte]) (by simp -dsimp -implicitDefEqProofs only [go_sem, ← ec, ← ed, hrow, hsl, List.map_append, Flt.row, eq_self, ↓reduceIte]))
    · have hLb : L.length ≤ 200000 := by simp at hL; omega
      have uU := And.intro (Eq.symm (ec)) (And.intro (Eq.symm (ed)) (zA @hrow (zA @hsl @hLb)))
      refine rR ?_ <;> first | exact hdT | apply zN
      refine wl ?_ <;> and_intros <;> first | exact hdT | (apply zM; (repeat intro ht); apply zM; (repeat intro hg); apply zM)
      · have hd : c = 32 := UInt8.toNat_inj.1 (by rw [← ed]; show d = 32; omega)
        refine ⟨(A ++ [(s.drop f).take (i - f)], i + 1, i + 1), ⟨by simp only; omega, Nat.le_refl _, by simp only [List.length_append, List.length_singleton]; omega, fun h => ⟨by simp, ?_⟩, fun h => absurd h (by simp only; omega)⟩, by simp only; omega, ?_⟩
        · rw [hR, split_step hf (by omega) (by rw [← ec]; exact hd) hno, List.append_assoc]; rfl
        · simp only [List.map_append, List.map_cons, List.map_nil]
          rw [← eL, show ((i + 1 : Nat) : Int) = (i : Int) + 1 by omega]
          refine rR ?_ <;> first | exact hdT | apply zN
          exact Mv.app (k + 2) (k) ⟨by omega, by omega⟩ ⟨by omega, by omega⟩ (wk_low (by omega) (by simp -dsimp -implicitDefEqProofs only [go_sem, ← ec, ← ed, hrow, hsl, hLb, List.map_append, Flt.row, eq_self, ↓reduceIte]) (by simp -dsimp -implicitDefEqProofs only [go_sem, ← ec, ← ed, hrow, hsl, hLb, List.map_append, Flt.row, eq_self, ↓reduceIte]) (by simp -dsimp -implicitDefEqProofs only [go_sem, ← ec, ← ed, hrow, hsl, hLb, List.map_append, Flt.row, eq_self, ↓reduceIte]) (by simp -dsimp -implicitDefEqProofs only [go_sem, ← ec, ← ed, hrow, hsl, hLb, List.map_append, Flt.row, eq_self, ↓reduceIte]))
      · have hd : c ≠ 32 := fun h => by rw [h] at ed; exact absurd ed (by show ¬ d = 32; omega)
        refine ⟨(A, f, i + 1), ⟨by simp only; omega, by simp only; omega, by simp only; omega, fun h => ⟨no_step hf (by simp only at h; omega) (by rw [← ec]; exact hd) hno, hR⟩, fun h => absurd h (by simp only; omega)⟩, by simp only; omega, ?_⟩
        simp only
        rw [← eL, show ((i + 1 : Nat) : Int) = (i : Int) + 1 by omega]
        refine rR ?_ <;> first | exact hdT | apply zN
        exact Mv.wk (wk_low (by omega) (by simp -dsimp -implicitDefEqProofs only [go_sem, ← ec, ← ed, hrow, hsl, hLb, List.map_append, Flt.row, eq_self, ↓reduceIte]) (by simp -dsimp -implicitDefEqProofs only [go_sem, ← ec, ← ed, hrow, hsl, hLb, List.map_append, Flt.row, eq_self, ↓reduceIte]) (by simp -dsimp -implicitDefEqProofs only [go_sem, ← ec, ← ed, hrow, hsl, hLb, List.map_append, Flt.row, eq_self, ↓reduceIte]) (by simp -dsimp -implicitDefEqProofs only [go_sem, ← ec, ← ed, hrow, hsl, hLb, List.map_append, Flt.row, eq_self, ↓reduceIte]))
      · have hie : i = s.length := by omega
        refine ⟨(A ++ [(s.drop f).take (i - f)], i + 1, i + 1), ⟨by simp only; omega, Nat.le_refl _, by simp only [List.length_append, List.length_singleton]; omega, fun h => absurd h (by simp only; omega), fun h => ?_⟩, by simp only; omega, ?_⟩
        · rw [hR]
          subst hie
          rw [split_last hno]
        · simp only [List.map_append, List.map_cons, List.map_nil]
          rw [← eL, show ((i + 1 : Nat) : Int) = (i : Int) + 1 by omega]
          refine rR ?_ <;> first | exact hdT | apply zN
          exact Mv.app (k + 2) (k) ⟨by omega, by omega⟩ ⟨by omega, by omega⟩ (wk_low (by omega) (by simp -dsimp -implicitDefEqProofs only [go_sem, ← ec, ← ed, hrow, hsl, hLb, List.map_append, Flt.row, eq_self, ↓reduceIte]) (by simp -dsimp -implicitDefEqProofs only [go_sem, ← ec, ← ed, hrow, hsl, hLb, List.map_append, Flt.row, eq_self, ↓reduceIte]) (by simp -dsimp -implicitDefEqProofs only [go_sem, ← ec, ← ed, hrow, hsl, hLb, List.map_append, Flt.row, eq_self, ↓reduceIte]) (by simp -dsimp -implicitDefEqProofs only [go_sem, ← ec, ← ed, hrow, hsl, hLb, List.map_append, Flt.row, eq_self, ↓reduceIte]))
  · have hRA := h2 (by omega)
    have hfin : VLe (rows 1 L) (strs R) := by rw [hRA, eL]; exact rowS_strs A
    rcases L with _ | ⟨x0, L⟩
    ·
      refine rR ?_ <;> first | exact hdT | apply zN
      refine wl ?_ <;> and_intros <;> first | exact hdT | (apply zM; (repeat intro ht); apply zM; (repeat intro hg); apply zM)
      exact C_ret rfl ⟨_, rfl, fun w G ρ A cv hv => hfin w G ρ A cv (VLe.nil _ _ w G ρ A cv hv)⟩
    ·
      refine rR ?_ <;> first | exact hdT | apply zN
      refine wl ?_ <;> and_intros <;> first | exact hdT | (apply zM; (repeat intro ht); apply zM; (repeat intro hg); apply zM)
      refine W_mv (Mv.freeze (k) (by simp -dsimp -implicitDefEqProofs only [go_sem, eq_self, ↓reduceIte]; rfl) rfl) ?_; simp -dsimp -implicitDefEqProofs only [frzF, frz_app, go_sem, eq_self, ↓reduceIte]
      exact C_ret rfl ⟨_, rfl, fun w G ρ A cv hv => hfin w G ρ A cv hv⟩
end Go.Proofs.T
end
section
namespace Go.AM
open Go
end Go.AM
namespace Go.Proofs.T
open Go Go.AM Go.Proofs Go.Lib
set_option maxRecDepth 20000
variable {Γ : List (Nat × List AVal)}
attribute [local irreducible] putO del
attribute [local go_sem] strs
theorem list_eq {l m : List (List UInt8)} (h : l.length = m.length) (hc : ∀ i, i < l.length → l.getD i [] = m.getD i []) : l = m :=
  List.ext_getElem h fun i h1 h2 => by have := hc i h1; simpa [List.getD, h1, h2] using this
theorem sameT_c (l m : List (List UInt8)) (hl : l.length ≤ 100000) (hm : m.length ≤ 100000) : AM.Pure Tryz.prog Γ 39 [strs l, strs m] (.lit (.bool (decide (l = m)))) := by
  obtain ⟨E, eE⟩ : ∃ E, E = decide (l = m) := ⟨_, rfl⟩
  rw [← eE]
  refine Pure_at Tryz.func39 rfl 26 rfl (Nat.le_of_ble_eq_true rfl) rfl fun k => ?_
  have kp : Kp [0,1,4,5,10,14,25] (fun i => i - k) := kpI
  refine wl ?_ <;> and_intros <;> first | exact hdT | (apply zM; (repeat intro ht); apply zM; (repeat intro hg); apply zM)
  · refine wl ?_ <;> and_intros <;> first | exact hdT | (apply zM; (repeat intro ht); apply zM; (repeat intro hg); apply zM)
    refine C_ret rfl ⟨_, rfl, VLe.of_eq ?_⟩
    rw [eE, decide_eq_false]
    rintro rfl; omega
  refine M_forO (X := Nat) rfl [0,1,4,5,10,14,25] k (fun i => [(5, .lit (.int .i64 (i : Int)))]) (fun i => []) (fun i => i ≤ l.length ∧ ∀ j, j < i → l.getD j [] = m.getD j []) (fun i => l.length - i) 0 ?_ ⟨Nat.zero_le _, fun j hj => absurd hj (Nat.not_lt_zero _)⟩ ?_
  · refine rR ?_ <;> first | exact hdT | apply zN
    exact wkF
  rintro i ⟨hi, hall⟩
  obtain ⟨a, ea⟩ : ∃ a, a = l.getD i [] := ⟨_, rfl⟩
  obtain ⟨b, eb⟩ : ∃ b, b = m.getD i [] := ⟨_, rfl⟩
  have uU := And.intro (Eq.symm (ea)) (Eq.symm (eb))
  refine rR ?_ <;> first | exact hdT | apply zN
  refine wl ?_ <;> and_intros <;> first | exact hdT | (apply zM; (repeat intro ht); apply zM; (repeat intro hg); apply zM)
  · refine wl ?_ <;> and_intros <;> first | exact hdT | (apply zM; (repeat intro ht); apply zM; (repeat intro hg); apply zM)
    refine C_ret rfl ⟨_, rfl, VLe.of_eq ?_⟩
    rw [eE, decide_eq_false]
    rintro rfl
    rw [← ea] at eb
    exact absurd eb.symm (by assumption)
  · refine ⟨i + 1, ⟨by omega, fun j hj => ?_⟩, by omega, ?_⟩
    · by_cases he : j = i
      · subst he; rw [← ea, ← eb]; assumption
      · exact hall j (by omega)
    · exact Mv.wk (wk_low (by omega) (by simp -dsimp -implicitDefEqProofs only [go_sem, ← ea, ← eb, List.map_append, Flt.row, eq_self, ↓reduceIte]) (by simp -dsimp -implicitDefEqProofs only [go_sem, ← ea, ← eb, List.map_append, Flt.row, eq_self, ↓reduceIte]) (by simp -dsimp -implicitDefEqProofs only [go_sem, ← ea, ← eb, List.map_append, Flt.row, eq_self, ↓reduceIte]) (by simp -dsimp -implicitDefEqProofs only [go_sem, ← ea, ← eb, List.map_append, Flt.row, eq_self, ↓reduceIte]))
  · refine C_ret rfl ⟨_, rfl, VLe.of_eq ?_⟩
    rw [eE, decide_eq_true (list_eq (by omega) (fun j hj => hall j (by omega)))]
theorem equalT_c (l m : List (List UInt8)) (hl : l.length ≤ 100000) (hm : m.length ≤ 100000) : AM.Pure Tryz.prog Γ 155 [strs l, strs m] (.lit (.bool (decide (l = m)))) := by
  obtain ⟨E, eE⟩ : ∃ E, E = decide (l = m) := ⟨_, rfl⟩
  rw [← eE]
  refine Pure_at Tryz.func155 rfl 26 rfl (Nat.le_of_ble_eq_true rfl) rfl fun k => ?_
  have kp : Kp [0,1,4,5,10,12,13,14,24] (fun i => i - k) := kpI
  refine wl ?_ <;> and_intros <;> first | exact hdT | (apply zM; (repeat intro ht); apply zM; (repeat intro hg); apply zM)
  · refine wl ?_ <;> and_intros <;> first | exact hdT | (apply zM; (repeat intro ht); apply zM; (repeat intro hg); apply zM)
    refine C_ret rfl ⟨_, rfl, VLe.of_eq ?_⟩
    rw [eE, decide_eq_false]
    rintro rfl; omega
  refine M_forO (X := Nat) rfl [0,1,4,5,10,12,13,14,24] k (fun i => [(13, .lit (.int .i64 (i : Int)))]) (fun i => []) (fun i => i ≤ l.length ∧ ∀ j, j < i → l.getD j [] = m.getD j []) (fun i => l.length - i) 0 ?_ ⟨Nat.zero_le _, fun j hj => absurd hj (Nat.not_lt_zero _)⟩ ?_
  · refine rR ?_ <;> first | exact hdT | apply zN
    exact wkF
  rintro i ⟨hi, hall⟩
  obtain ⟨a, ea⟩ : ∃ a, a = l.getD i [] := ⟨_, rfl⟩
  obtain ⟨b, eb⟩ : ∃ b, b = m.getD i [] := ⟨_, rfl⟩
  have uU := And.intro (Eq.symm (ea)) (Eq.symm (eb))
  refine rR ?_ <;> first | exact hdT | apply zN
  refine wl ?_ <;> and_intros <;> first | exact hdT | (apply zM; (repeat intro ht); apply zM; (repeat intro hg); apply zM)
  · refine wl ?_ <;> and_intros <;> first | exact hdT | (apply zM; (repeat intro ht); apply zM; (repeat intro hg); apply zM)
    refine C_ret rfl ⟨_, rfl, VLe.of_eq ?_⟩
    rw [eE, decide_eq_false]
    rintro rfl
    rw [← ea] at eb
    exact absurd eb.symm (by assumption)
  · refine ⟨i + 1, ⟨by omega, fun j hj => ?_⟩, by omega, ?_⟩
    · by_cases he : j = i
      · subst he; rw [← ea, ← eb]; assumption
      · exact hall j (by omega)
    · exact Mv.wk (wk_low (by omega) (by simp -dsimp -implicitDefEqProofs only [go_sem, ← ea, ← eb, List.map_append, Flt.row, eq_self, ↓reduceIte]) (by simp -dsimp -implicitDefEqProofs only [go_sem, ← ea, ← eb, List.map_append, Flt.row, eq_self, ↓reduceIte]) (by simp -dsimp -implicitDefEqProofs only [go_sem, ← ea, ← eb, List.map_append, Flt.row, eq_self, ↓reduceIte]) (by simp -dsimp -implicitDefEqProofs only [go_sem, ← ea, ← eb, List.map_append, Flt.row, eq_self, ↓reduceIte]))
  · refine C_ret rfl ⟨_, rfl, VLe.of_eq ?_⟩
    rw [eE, decide_eq_true (list_eq (by omega) (fun j hj => hall j (by omega)))]
def kinds6 : List (List UInt8) := [wClock, wCurrent, wWeight, wGone, wTask, wSpot]
def kI (s : List UInt8) : Int := if s = wClock then 0 else if s = wCurrent then 1 else if s = wWeight then 2 else if s = wGone then 3 else if s = wTask then 4 else if s = wSpot then 5 else -1
theorem kI_at {s : List UInt8} {i : Nat} (hi : i < 6) (h : kinds6.getD i [] = s) : kI s = i := by
  subst h
  have : i = 0 ∨ i = 1 ∨ i = 2 ∨ i = 3 ∨ i = 4 ∨ i = 5 := by omega
  rcases this with rfl | rfl | rfl | rfl | rfl | rfl <;> decide
theorem kI_no {s : List UInt8} (h : ∀ i, i < 6 → kinds6.getD i [] ≠ s) : kI s = -1 := by
  unfold kI
  rw [if_neg (fun e => h 0 (by omega) e.symm), if_neg (fun e => h 1 (by omega) e.symm), if_neg (fun e => h 2 (by omega) e.symm), if_neg (fun e => h 3 (by omega) e.symm), if_neg (fun e => h 4 (by omega) e.symm), if_neg (fun e => h 5 (by omega) e.symm)]
theorem index_c (s : List UInt8) (hs : s.length ≤ 100000) : AM.Pure Tryz.prog Γ 153 [strs kinds6, .lit (.string (ByteArray.mk s.toArray))] (.lit (.int .i64 (kI s))) := by
  obtain ⟨K, eK⟩ : ∃ K, K = kI s := ⟨_, rfl⟩
  obtain ⟨l, el, hl⟩ : ∃ l, l = kinds6 ∧ l.length = 6 := ⟨_, rfl, rfl⟩
  rw [← eK, ← el]
  refine Pure_at Tryz.func153 rfl 19 rfl (Nat.le_of_ble_eq_true rfl) rfl fun k => ?_
  have kp : Kp [0,1,4,5,7,8,9,16] (fun i => i - k) := kpI
  refine wl ?_ <;> and_intros <;> first | exact hdT | (apply zM; (repeat intro ht); apply zM; (repeat intro hg); apply zM)
  refine M_forO (X := Nat) rfl [0,1,4,5,7,8,9,16] k (fun i => [(8, .lit (.int .i64 (i : Int)))]) (fun i => []) (fun i => i ≤ 6 ∧ ∀ j, j < i → l.getD j [] ≠ s) (fun i => 6 - i) 0 ?_ ⟨Nat.zero_le _, fun j hj => absurd hj (Nat.not_lt_zero _)⟩ ?_
  · refine rR ?_ <;> first | exact hdT | apply zN
    exact wkF
  rintro i ⟨hi, hall⟩
  obtain ⟨a, ea⟩ : ∃ a, a = l.getD i [] := ⟨_, rfl⟩
  have uU := Eq.symm (ea)
  refine rR ?_ <;> first | exact hdT | apply zN
  refine wl ?_ <;> and_intros <;> first | exact hdT | (apply zM; (repeat intro ht); apply zM; (repeat intro hg); apply zM)
  · refine wl ?_ <;> and_intros <;> first | exact hdT | (apply zM; (repeat intro ht); apply zM; (repeat intro hg); apply zM)
    refine C_ret rfl ⟨_, rfl, VLe.of_eq ?_⟩
    rw [eK, kI_at (i := i) (by omega) (by rw [← el, ← ea]; first | assumption | exact Eq.symm ‹_›)]
  · refine ⟨i + 1, ⟨by omega, fun j hj => ?_⟩, by omega, ?_⟩
    · by_cases he : j = i
      · subst he; rw [← ea]; intro e; exact absurd e.symm (by assumption)
      · exact hall j (by omega)
    · exact Mv.wk (wk_low (by omega) (by simp -dsimp -implicitDefEqProofs only [go_sem, ← ea, List.map_append, Flt.row, eq_self, ↓reduceIte]) (by simp -dsimp -implicitDefEqProofs only [go_sem, ← ea, List.map_append, Flt.row, eq_self, ↓reduceIte]) (by simp -dsimp -implicitDefEqProofs only [go_sem, ← ea, List.map_append, Flt.row, eq_self, ↓reduceIte]) (by simp -dsimp -implicitDefEqProofs only [go_sem, ← ea, List.map_append, Flt.row, eq_self, ↓reduceIte]))
  · refine C_ret rfl ⟨_, rfl, VLe.of_eq ?_⟩
    rw [eK, kI_no (fun j hj => by rw [← el]; exact hall j (by omega))]
theorem n_c (hG : GT Γ) (ws : List (List UInt8)) (hws : ws.length ≤ 100000) (hl : ∀ w ∈ ws, w.length ≤ 100000) (i : Nat) (hi : i ≤ 10) : AM.Pure Tryz.prog Γ 149 [.lit (.int .i64 (i : Int)), .rp [strs ws]] (.lit (.int .i64 (nW ws i))) := by
  obtain ⟨X, eX⟩ : ∃ X, X = nW ws i := ⟨_, rfl⟩
  rw [← eX]
  refine Pure_at Tryz.func149 rfl 18 rfl (Nat.le_of_ble_eq_true rfl) rfl fun k => ?_
  have kp : Kp [0,1,3,4,8] (fun i => i - k) := kpI
  refine wl ?_ <;> and_intros <;> first | exact hdT | (apply zM; (repeat intro ht); apply zM; (repeat intro hg); apply zM)
  · obtain ⟨w, ew, hw⟩ : ∃ w, w = ws.getD i [] ∧ w ∈ ws := ⟨_, rfl, by rw [List.getD_eq_getElem?_getD, List.getElem?_eq_getElem (by omega)]; exact List.getElem_mem _⟩
    have hX : X = atoiV w := by
      have : ws[i]? = some w := by rw [ew, List.getD_eq_getElem?_getD, List.getElem?_eq_getElem (by omega)]; rfl
      rw [eX, nW, this]
    have hat := atoi_c hG w (by have := hl w hw; omega)
    rw [← hX] at hat
    have uU := Eq.symm (ew)
    refine cl [.ret (.tup [.lit (.int .i64 X), .junk])] ?_ <;> and_intros <;> first | exact hdT | (apply zM; (repeat intro ht); apply zM; (repeat intro hg); apply zM)
    refine wl ?_ <;> and_intros <;> first | exact hdT | (apply zM; (repeat intro ht); apply zM; (repeat intro hg); apply zM)
    exact C_ret rfl ⟨_, rfl, VLe.refl _⟩
  · have hX : X = 0 := by
      have : ws[i]? = none := List.getElem?_eq_none (by omega)
      rw [eX, nW, this]
    refine C_ret rfl ⟨_, rfl, VLe.of_eq ?_⟩
    rw [hX]
theorem uX_c (hG : GT Γ) (B : Nat) (hB : B = 64 ∨ B = 32) (ws : List (List UInt8)) (hws : ws.length ≤ 100000) (hl : ∀ w ∈ ws, w.length ≤ 100000) (i : Nat) (hi : i ≤ 10) : AM.Pure Tryz.prog Γ 151 [.lit (.int .i64 (i : Int)), .lit (.int .i64 (B : Int)), .rp [strs ws]] (.lit (.int .u64 (uW B ws i))) := by
  obtain ⟨X, eX⟩ : ∃ X, X = uW B ws i := ⟨_, rfl⟩
  rw [← eX]
  refine Pure_at Tryz.func151 rfl 21 rfl (Nat.le_of_ble_eq_true rfl) rfl fun k => ?_
  have kp : Kp [0,1,2,5,6,10] (fun i => i - k) := kpI
  refine wl ?_ <;> and_intros <;> first | exact hdT | (apply zM; (repeat intro ht); apply zM; (repeat intro hg); apply zM)
  · obtain ⟨w, ew, hw⟩ : ∃ w, w = ws.getD i [] ∧ w ∈ ws := ⟨_, rfl, by rw [List.getD_eq_getElem?_getD, List.getElem?_eq_getElem (by omega)]; exact List.getElem_mem _⟩
    have hX : X = puV B w := by
      have : ws[i]? = some w := by rw [ew, List.getD_eq_getElem?_getD, List.getElem?_eq_getElem (by omega)]; rfl
      rw [eX, uW, this]
    have hat : AM.Pure Tryz.prog Γ 152 [.lit (.string (ByteArray.mk w.toArray)), .lit (.int .i64 10), .lit (.int .i64 (B : Int))] (.tup [.lit (.int .u64 X), .junk]) := by
      rw [hX]
      rcases hB with rfl | rfl
      · exact pu64_c hG w (by have := hl w hw; omega)
      · exact pu32_c hG w (by have := hl w hw; omega)
    have uU := Eq.symm (ew)
    refine cl [.ret (.tup [.lit (.int .u64 X), .junk])] ?_ <;> and_intros <;> first | exact hdT | (apply zM; (repeat intro ht); apply zM; (repeat intro hg); apply zM)
    refine wl ?_ <;> and_intros <;> first | exact hdT | (apply zM; (repeat intro ht); apply zM; (repeat intro hg); apply zM)
    exact C_ret rfl ⟨_, rfl, VLe.refl _⟩
  · have hX : X = 0 := by
      have : ws[i]? = none := List.getElem?_eq_none (by omega)
      rw [eX, uW, this]
    refine C_ret rfl ⟨_, rfl, VLe.of_eq ?_⟩
    rw [hX]
end Go.Proofs.T
end
section
namespace Go.Proofs.T
open Go Go.AM Go.Proofs Go.Lib
set_option maxRecDepth 20000
variable {Γ : List (Nat × List AVal)}
attribute [local irreducible] putO del
attribute [local go_sem] strs
theorem wrap_u32' {n : Int} (h : U32 n) : IntKind.u32.wrap n = n := by
  have := h.1; have := h.2
  simp [IntKind.wrap, IntKind.bits, IntKind.signed]; omega
def gE (s : List UInt8) : Option El := gu mP (split s [32])
def kW (o : Option El) : Int := match o with | some e => e.kind | none => -1
def dE (l : List El) : DE := dOf (dlE l)
theorem bor_strs {Hc : Heap} {id : Nat} {l : List (List UInt8)} (hB : AM.look Hc id = some ⟨1, true, l.map fun w => [.lit (.string (ByteArray.mk w.toArray))]⟩) : Bor Γ Hc (.sl id 0 l.length) (strs l) :=
  Bor.sl hB (by simp) (fun i hi => rfl) (fun i row j v v' hi h1 h2 h3 => by
    rw [Nat.zero_add, List.getElem?_map, List.getElem?_eq_getElem hi] at h1
    simp only [Option.map_some, Option.some.injEq] at h1
    rw [← h1] at h2
    have e : l.getD i [] = l[i] := by simp [List.getD, hi]
    rw [e, h2] at h3
    cases h3
    match j with
    | 0 => cases h2; exact Bor.lit0
    | j + 1 => simp at h2)
theorem index_g (k id : Nat) (s : List UInt8) (hs : s.length ≤ 100000) : AM.Tr Tryz.prog Γ 153 k [.sl id 0 6, .lit (.string (ByteArray.mk s.toArray))] [(id, ⟨1, true, kinds6.map fun w => [.lit (.string (ByteArray.mk w.toArray))]⟩)] (fun k1 r1 H1 => k1 = k ∧ r1 = .lit (.int .i64 (kI s)) ∧ H1 = []) :=
  Tr_lend (.cons (bor_strs (l := kinds6) (by simp [AM.look])) (.cons Bor.lit0 .nil)) (index_c s hs)
theorem equal_g (k id : Nat) (l : List (List UInt8)) (hl : l.length ≤ 100000) (s : List UInt8) : AM.Tr Tryz.prog Γ 155 k [strs l, .sl id 0 1] [(id, ⟨1, true, [[.lit (.string (ByteArray.mk s.toArray))]]⟩)] (fun k1 r1 H1 => k1 = k ∧ r1 = .lit (.bool (decide (l = [s]))) ∧ H1 = []) :=
  Tr_lend (.cons (Bor.clean rfl) (.cons (bor_strs (l := [s]) (by simp [AM.look])) .nil)) (equalT_c l [s] hl (by simp))
theorem getD_mem0 {α : Type} {P : α → Prop} {l : List α} {z : α} (h : ∀ x ∈ l, P x) (hz : P z) (i : Nat) : P (l.getD i z) := by
  rw [List.getD_eq_getElem?_getD]
  cases e : l[i]? with
  | none => exact hz
  | some x => exact h x (List.mem_of_getElem? e)
theorem dE_rng {l : List El} (h : ∀ e ∈ l, e.rng) : DRng (dE l) where
  ck := fun i => getD_mem0 (P := fun x : Int × Int => (El.ck x.1 x.2).rng) (fun x hx => by
    obtain ⟨e, he, h1⟩ := List.mem_filterMap.1 hx
    have := h e he
    cases e <;> simp [El.ck?] at h1
    subst h1; exact this) ⟨rng0.1, rng0.1⟩ i
  cu := fun i => getD_mem0 (P := fun x : Int × Int => (El.cu x.1 x.2).rng) (fun x hx => by
    obtain ⟨e, he, h1⟩ := List.mem_filterMap.1 hx
    have := h e he
    cases e <;> simp [El.cu?] at h1
    subst h1; exact this) ⟨rng0.1, rng0.1⟩ i
  wg := fun i => getD_mem0 (P := fun x : Int × Int => (El.wg x.1 x.2).rng) (fun x hx => by
    obtain ⟨e, he, h1⟩ := List.mem_filterMap.1 hx
    have := h e he
    cases e <;> simp [El.wg?] at h1
    subst h1; exact this) ⟨rng0.1, rng0.1⟩ i
  gn := fun i => getD_mem0 (P := fun x : Int => (El.gn x).rng) (fun x hx => by
    obtain ⟨e, he, h1⟩ := List.mem_filterMap.1 hx
    have := h e he
    cases e <;> simp [El.gn?] at h1
    subst h1; exact this) rng0.1 i
  tk := fun i => getD_mem0 (P := fun x : Tk => (El.tk x).rng) (fun x hx => by
    obtain ⟨e, he, h1⟩ := List.mem_filterMap.1 hx
    have := h e he
    cases e <;> simp [El.tk?] at h1
    subst h1; exact this) ⟨rng0.1, rng0.1, rng0.1, rng0.1, rng0.2.1, rng0.2.1, rng0.2.2⟩ i
  sp := fun i => getD_mem0 (P := fun x : Int × Int × Sp => (El.sp x.1 x.2.1 x.2.2).rng) (fun x hx => by
    obtain ⟨e, he, h1⟩ := List.mem_filterMap.1 hx
    have := h e he
    cases e <;> simp [El.sp?] at h1
    subst h1; exact this) ⟨rng0.1, rng0.1, rng0.2.1, rng0.2.2, rng0.2.1⟩ i
theorem dE_els (o : Option El) : elsD (dE o.toList) = o.toList := by
  cases o with
  | none => rfl
  | some e => cases e <;> rfl
theorem dE_size (l : List El) : (dE l).size ≤ 6 * l.length := by
  have h : ∀ {β : Type} (f : El → Option β), (l.filterMap f).length ≤ l.length := fun f => List.length_filterMap_le _ _
  have e : (dE l).size = (l.filterMap El.ck?).length + (l.filterMap El.cu?).length + (l.filterMap El.wg?).length + (l.filterMap El.gn?).length + (l.filterMap El.tk?).length + (l.filterMap El.sp?).length := rfl
  have := h El.ck?; have := h El.cu?; have := h El.wg?; have := h El.gn?; have := h El.tk?; have := h El.sp?
  omega
theorem jn_words : ∀ ws : List (List UInt8), ws.length ≤ (jn ws).length + 1
  | [] => by simp
  | [x] => by simp
  | x :: y :: r => by
    have := jn_words (y :: r)
    simp only [jn, List.length_append, List.length_cons] at this ⊢; omega
def nil6 : List AVal := [.lit (.slice none 0 0), .lit (.slice none 0 0), .lit (.slice none 0 0), .lit (.slice none 0 0), .lit (.slice none 0 0), .lit (.slice none 0 0)]
def okO (o : Option El) (s : List UInt8) : Bool := wrOk o.toList && decide (o.toList.map lnT = [s])
theorem okO_rd (s : List UInt8) : okO (gE s) s = (rdL s).isSome := by
  rw [rdL_guess, okO]
  unfold gE
  cases gu mP (split s [32]) with
  | none => rfl
  | some e =>
    have h1 : wrOk (some e).toList = decide e.plain := by simp [wrOk]
    have h2 : decide ((some e).toList.map lnT = [s]) = decide (lnT e = s) := by simp
    rw [h1, h2]
    simp only
    by_cases h3 : e.plain <;> by_cases h4 : lnT e = s <;> simp [h3, h4]
attribute [local go_sem] nil6
set_option maxHeartbeats 4000000 in
theorem one_fin (hG : GT Γ) (o : Option El) (ho : ∀ e ∈ o.toList, e.rng) (s : List UInt8) (K : Int) (k : Nat) (RES : AVal) (hRES : RES = .tup [.agg (dE o.toList).cells, .lit (.int .i64 K), .lit (.bool (okO o s))]) :
    W Tryz.prog Γ 117 k (cat (bodyOf Tryz.f85) [0, 1, 1, 1, 1, 1, 1, 1]) (thenQ (W Tryz.prog Γ 117 k (cat (bodyOf Tryz.f85) [1, 1, 1, 1, 1, 1, 1, 1]) (retQ Tryz.prog Tryz.f85 fun _ r1 _ => VLe r1 RES)) (retQ Tryz.prog Tryz.f85 fun _ r1 _ => VLe r1 RES)) (k + 3)
      [(9, .lit (.int .i64 K)), (8, .ptr (k + 2) 0 0), (2, .ptr k 0 0), (0, .lit (.string (ByteArray.mk s.toArray)))] [(k + 2, ⟨6, true, [(dE o.toList).cells]⟩), (k, ⟨6, true, [nil6]⟩)] := by
  have hr := dE_rng ho
  have hsz : (dE o.toList).size ≤ 20000 := by have := dE_size o.toList; have : o.toList.length ≤ 1 := (by cases o <;> simp); omega
  have hp := plain_c hG (dE o.toList) hr hsz
  have hl := lines_s hG (dE o.toList) hr hsz
  rw [dE_els] at hp hl
  have hB : okO o s = (wrOk o.toList && decide (o.toList.map lnT = [s])) := rfl
  have hll : (o.toList.map lnT).length ≤ 100000 := by cases o <;> simp
  obtain ⟨d, ed⟩ : ∃ d, d = dE o.toList := ⟨_, rfl⟩
  obtain ⟨Ls, eLs⟩ : ∃ Ls, Ls = o.toList.map lnT := ⟨_, rfl⟩
  obtain ⟨Q, eQ⟩ : ∃ Q, Q = decide (Ls = [s]) := ⟨_, rfl⟩
  obtain ⟨P, eP⟩ : ∃ P, P = wrOk o.toList := ⟨_, rfl⟩
  obtain ⟨B, eB⟩ : ∃ B, B = okO o s := ⟨_, rfl⟩
  rw [← eB] at hRES hB
  rw [← eP, ← eLs, ← eQ] at hB
  rw [← eP] at hp
  rw [← eLs] at hl hll
  rw [← ed] at hp hl hRES ⊢
  have heq := equal_g (Γ := Γ) (k + 4) (k + 3) Ls hll s
  rw [← eQ] at heq
  cases P
  · have kp : Kp [0,2,3,4,5,6,7,8,9,10,20,21,30,39,48,54,72,89] (fun i => i - k) := kpI
    refine dl [.ret (.lit (.bool false))] ?_ <;> and_intros <;> first | exact hdT | (apply zM; (repeat intro ht); apply zM; (repeat intro hg); apply zM)
    · exact hp
    have uU := Go.AM.uU; refine cR ?_; apply zN
    rw [hRES, hB]
    exact VLe.refl _
  · have kp : Kp [0,2,3,4,5,6,7,8,9,10,20,21,30,39,48,54,72,89] (fun i => i - k) := kpI
    refine dl [.ret (.lit (.bool true)), .ret (strs Ls), .gen (.lit (.bool Q)) (k + 4) [(k + 3, ⟨1, true, [[.lit (.string (ByteArray.mk s.toArray))]]⟩)] []] ?_ <;> and_intros <;> first | exact hdT | (apply zM; (repeat intro ht); apply zM; (repeat intro hg); apply zM)
    · exact hp
    · exact hl
    · exact heq
    have uU := Go.AM.uU; refine cR ?_; apply zN
    rw [hRES, hB]
    exact VLe.refl _
set_option maxHeartbeats 8000000 in
theorem one_c (hG : GT Γ) (s : List UInt8) (hs : s.length ≤ 300) : AM.Pure Tryz.prog Γ 85 [.lit (.string (ByteArray.mk s.toArray))] (.tup [.agg (dE (gE s).toList).cells, .lit (.int .i64 (kW (gE s))), .lit (.bool (rdL s).isSome)]) := by
  obtain ⟨ws, ews⟩ : ∃ ws, ws = split s [32] := ⟨_, rfl⟩
  have hsp := split_c hG s (by omega)
  rw [← ews] at hsp
  have hjn : jn ws = s := by rw [ews]; exact jn_split s
  have hwl : ∀ w ∈ ws, w.length ≤ 300 := fun w hw => by have := jn_mem hw; rw [hjn] at this; omega
  have hne : ws ≠ [] := by rw [ews]; exact split_ne s
  have hwn : ws.length ≤ 301 := by
    have := jn_words ws
    rw [hjn] at this; omega
  obtain ⟨w0, wr, ew⟩ : ∃ w0 wr, ws = w0 :: wr := List.exists_cons_of_ne_nil hne
  have hg0 : ws.getD 0 [] = w0 := by rw [ew]; rfl
  have hpos : 1 ≤ ws.length := by rw [ew]; simp
  have hix := index_c (Γ := Γ) w0 (by have := hwl w0 (by rw [ew]; simp); omega)
  obtain ⟨K, eK⟩ : ∃ K, K = kI w0 := ⟨_, rfl⟩
  rw [← eK] at hix
  have hn := fun i hi => n_c hG ws (by omega) (fun w hw => by have := hwl w hw; omega) i hi
  have hu64 := fun i hi => uX_c hG 64 (.inl rfl) ws (by omega) (fun w hw => by have := hwl w hw; omega) i hi
  have hu32 := fun i hi => uX_c hG 32 (.inr rfl) ws (by omega) (fun w hw => by have := hwl w hw; omega) i hi
  refine Pure_at Tryz.func85 rfl 117 rfl (Nat.le_of_ble_eq_true rfl) rfl fun k => ?_
  have kp : Kp [0,2,3,4,5,6,7,8,9,10,20,21,30,39,48,54,72,89] (fun i => i - k) := kpI
  refine wl ?_ <;> and_intros <;> first | exact hdT | (apply zM; (repeat intro ht); apply zM; (repeat intro hg); apply zM)
  refine cl [.ret (strs ws)] ?_ <;> and_intros <;> first | exact hdT | (apply zM; (repeat intro ht); apply zM; (repeat intro hg); apply zM)
  · exact hsp
  refine wl ?_ <;> and_intros <;> first | exact hdT | (apply zM; (repeat intro ht); apply zM; (repeat intro hg); apply zM)
  refine W_mv (Mv.freeze (k + 1) (by simp -dsimp -implicitDefEqProofs only [go_sem, eq_self, ↓reduceIte]; rfl) rfl) ?_
  simp -dsimp -implicitDefEqProofs only [frzF, frz_app, go_sem, eq_self, ↓reduceIte]
  have uU := @hg0
  refine wl ?_ <;> and_intros <;> first | exact hdT | (apply zM; (repeat intro ht); apply zM; (repeat intro hg); apply zM)
  refine cl [.gen (.lit (.int .i64 K)) (k + 4) [(k + 3, ⟨1, true, kinds6.map fun w => [.lit (.string (ByteArray.mk w.toArray))]⟩)] []] ?_ <;> and_intros <;> first | exact hdT | (apply zM; (repeat intro ht); apply zM; (repeat intro hg); apply zM)
  · rfl
  · rw [eK]; exact index_g (k + 4) (k + 3) w0 (by have := hwl w0 (by rw [ew]; simp); omega)
  obtain ⟨RES, hRES⟩ : ∃ RES, RES = AVal.tup [.agg (dE (gE s).toList).cells, .lit (.int .i64 (kW (gE s))), .lit (.bool (okO (gE s) s))] := ⟨_, rfl⟩
  rw [← okO_rd]
  change W _ _ _ _ _ (retQ _ _ fun _ r1 _ => VLe r1 (AVal.tup [.agg (dE (gE s).toList).cells, .lit (.int .i64 (kW (gE s))), .lit (.bool (okO (gE s) s))])) _ _ _
  rw [← hRES]
  have hrng : ∀ e, gE s = some e → e.rng := fun e he => gu_rng maskOk he
  have hgs : gE s = gu mP ws := by rw [ews]; rfl
  have hhd : ws.headD [] = w0 := by rw [ew]; rfl
  by_cases h0 : w0 = wClock
  · have hK : K = 0 := by rw [eK, kI, if_pos h0]
    rw [hK]
    have hgE : gE s = some (.ck (nW ws 1) (nW ws 2)) := by rw [hgs, gu, hhd, if_pos h0]
    have kp : Kp [0,2,3,4,5,6,7,8,9,10,20,21,30,39,48,54,72,89] (fun i => i) := kpI
    refine wl ?_ <;> and_intros <;> first | exact hdT | (apply zM; (repeat intro ht); apply zM; (repeat intro hg); apply zM)
    refine cl [.ret (.lit (.int .i64 (nW ws 1))), .ret (.lit (.int .i64 (nW ws 2)))] ?_ <;> and_intros <;> first | exact hdT | (apply zM; (repeat intro ht); apply zM; (repeat intro hg); apply zM)
    · exact hn 1 (by omega)
    · exact hn 2 (by omega)
    refine wl ?_ <;> and_intros <;> first | exact hdT | (apply zM; (repeat intro ht); apply zM; (repeat intro hg); apply zM)
    refine W_mv (Mv.frz_row (id := (k + 4)) (s := 2) (D := k + 2) (sz := 6) (l := [[.lit (.int .i64 (nW ws 1)), .lit (.int .i64 (nW ws 2))]]) (row := [.sl (k + 4) 0 1, .lit (.slice none 0 0), .lit (.slice none 0 0), .lit (.slice none 0 0), .lit (.slice none 0 0), .lit (.slice none 0 0)]) 0 (rows 2 [[.lit (.int .i64 (nW ws 1)), .lit (.int .i64 (nW ws 2))]]) [(9, .lit (.int .i64 (0))), (8, .ptr (k + 2) 0 0), (2, .ptr k 0 0), (0, .lit (.string (ByteArray.mk s.toArray)))] [(k, ⟨6, true, [nil6]⟩)] (by omega) (by simp -dsimp -implicitDefEqProofs only [go_sem, List.map_append, Flt.row, eq_self, ↓reduceIte]) rfl (by simp -dsimp -implicitDefEqProofs only [go_sem, List.map_append, Flt.row, eq_self, ↓reduceIte]) (VLe.refl _) (by simp -dsimp -implicitDefEqProofs only [go_sem, List.map_append, Flt.row, eq_self, ↓reduceIte]) (by simp -dsimp -implicitDefEqProofs only [go_sem, List.map_append, Flt.row, eq_self, ↓reduceIte]) (by simp -dsimp -implicitDefEqProofs only [go_sem, List.map_append, Flt.row, eq_self, ↓reduceIte])) ?_
    refine W_mv (Mv.row (l := []) (r := [rows 2 [[.lit (.int .i64 (nW ws 1)), .lit (.int .i64 (nW ws 2))]], .lit (.slice none 0 0), .lit (.slice none 0 0), .lit (.slice none 0 0), .lit (.slice none 0 0), .lit (.slice none 0 0)]) (k + 2) (dE [.ck (nW ws 1) (nW ws 2)]).cells (by rw [AM.look, if_pos rfl]; rfl) (.cons (VLe.rd (n := 1) (fun i hi => by match i, hi with | 0, _ => rfl)) (.cons (VLe.nil _ _) (.cons (VLe.nil _ _) (.cons (VLe.nil _ _) (.cons (VLe.nil _ _) (.cons (VLe.nil _ _) .nil)))))) rfl) ?_
    refine W_mv (Mv.wk (k1 := k + 3) (fr1 := [(9, .lit (.int .i64 (0))), (8, .ptr (k + 2) 0 0), (2, .ptr k 0 0), (0, .lit (.string (ByteArray.mk s.toArray)))]) (H1 := [(k + 2, ⟨6, true, [(dE [.ck (nW ws 1) (nW ws 2)]).cells]⟩), (k, ⟨6, true, [nil6]⟩)]) (wk_low (by omega) (by simp -dsimp -implicitDefEqProofs only [go_sem, List.map_append, Flt.row, eq_self, ↓reduceIte]) (by simp -dsimp -implicitDefEqProofs only [go_sem, List.map_append, Flt.row, eq_self, ↓reduceIte]) (by simp -dsimp -implicitDefEqProofs only [go_sem, List.map_append, Flt.row, eq_self, ↓reduceIte]) (by simp -dsimp -implicitDefEqProofs only [go_sem, List.map_append, Flt.row, eq_self, ↓reduceIte]))) ?_
    exact one_fin hG (some (.ck (nW ws 1) (nW ws 2))) (fun e' he' => hrng _ (hgE.trans (Option.mem_toList.1 he'))) s 0 k RES (by rw [hRES, hgE]; rfl)
  by_cases h1 : w0 = wCurrent
  · have hK : K = 1 := by rw [eK, kI, if_neg h0, if_pos h1]
    rw [hK]
    have hgE : gE s = some (.cu (nW ws 1) (nW ws 2)) := by rw [hgs, gu, hhd, if_neg h0, if_pos h1]
    have kp : Kp [0,2,3,4,5,6,7,8,9,10,20,21,30,39,48,54,72,89] (fun i => i - k) := kpI
    refine wl ?_ <;> and_intros <;> first | exact hdT | (apply zM; (repeat intro ht); apply zM; (repeat intro hg); apply zM)
    refine cl [.ret (.lit (.int .i64 (nW ws 1))), .ret (.lit (.int .i64 (nW ws 2)))] ?_ <;> and_intros <;> first | exact hdT | (apply zM; (repeat intro ht); apply zM; (repeat intro hg); apply zM)
    · exact hn 1 (by omega)
    · exact hn 2 (by omega)
    refine wl ?_ <;> and_intros <;> first | exact hdT | (apply zM; (repeat intro ht); apply zM; (repeat intro hg); apply zM)
    refine W_mv (Mv.frz_row (id := (k + 4)) (s := 2) (D := k + 2) (sz := 6) (l := [[.lit (.int .i64 (nW ws 1)), .lit (.int .i64 (nW ws 2))]]) (row := [.lit (.slice none 0 0), .sl (k + 4) 0 1, .lit (.slice none 0 0), .lit (.slice none 0 0), .lit (.slice none 0 0), .lit (.slice none 0 0)]) 1 (rows 2 [[.lit (.int .i64 (nW ws 1)), .lit (.int .i64 (nW ws 2))]]) [(9, .lit (.int .i64 (1))), (8, .ptr (k + 2) 0 0), (2, .ptr k 0 0), (0, .lit (.string (ByteArray.mk s.toArray)))] [(k, ⟨6, true, [nil6]⟩)] (by omega) (by simp -dsimp -implicitDefEqProofs only [go_sem, List.map_append, Flt.row, eq_self, ↓reduceIte]) rfl (by simp -dsimp -implicitDefEqProofs only [go_sem, List.map_append, Flt.row, eq_self, ↓reduceIte]) (VLe.refl _) (by simp -dsimp -implicitDefEqProofs only [go_sem, List.map_append, Flt.row, eq_self, ↓reduceIte]) (by simp -dsimp -implicitDefEqProofs only [go_sem, List.map_append, Flt.row, eq_self, ↓reduceIte]) (by simp -dsimp -implicitDefEqProofs only [go_sem, List.map_append, Flt.row, eq_self, ↓reduceIte])) ?_
    refine W_mv (Mv.row (l := []) (r := [.lit (.slice none 0 0), rows 2 [[.lit (.int .i64 (nW ws 1)), .lit (.int .i64 (nW ws 2))]], .lit (.slice none 0 0), .lit (.slice none 0 0), .lit (.slice none 0 0), .lit (.slice none 0 0)]) (k + 2) (dE [.cu (nW ws 1) (nW ws 2)]).cells (by rw [AM.look, if_pos rfl]; rfl) (.cons (VLe.nil _ _) (.cons (VLe.rd (n := 1) (fun i hi => by match i, hi with | 0, _ => rfl)) (.cons (VLe.nil _ _) (.cons (VLe.nil _ _) (.cons (VLe.nil _ _) (.cons (VLe.nil _ _) .nil)))))) rfl) ?_
    refine W_mv (Mv.wk (k1 := k + 3) (fr1 := [(9, .lit (.int .i64 (1))), (8, .ptr (k + 2) 0 0), (2, .ptr k 0 0), (0, .lit (.string (ByteArray.mk s.toArray)))]) (H1 := [(k + 2, ⟨6, true, [(dE [.cu (nW ws 1) (nW ws 2)]).cells]⟩), (k, ⟨6, true, [nil6]⟩)]) (wk_low (by omega) (by simp -dsimp -implicitDefEqProofs only [go_sem, List.map_append, Flt.row, eq_self, ↓reduceIte]) (by simp -dsimp -implicitDefEqProofs only [go_sem, List.map_append, Flt.row, eq_self, ↓reduceIte]) (by simp -dsimp -implicitDefEqProofs only [go_sem, List.map_append, Flt.row, eq_self, ↓reduceIte]) (by simp -dsimp -implicitDefEqProofs only [go_sem, List.map_append, Flt.row, eq_self, ↓reduceIte]))) ?_
    exact one_fin hG (some (.cu (nW ws 1) (nW ws 2))) (fun e' he' => hrng _ (hgE.trans (Option.mem_toList.1 he'))) s 1 k RES (by rw [hRES, hgE]; rfl)
  by_cases h2 : w0 = wWeight
  · have hK : K = 2 := by rw [eK, kI, if_neg h0, if_neg h1, if_pos h2]
    rw [hK]
    have hgE : gE s = some (.wg (nW ws 1) (nW ws 2)) := by rw [hgs, gu, hhd, if_neg h0, if_neg h1, if_pos h2]
    have kp : Kp [0,2,3,4,5,6,7,8,9,10,20,21,30,39,48,54,72,89] (fun i => i - k) := kpI
    refine wl ?_ <;> and_intros <;> first | exact hdT | (apply zM; (repeat intro ht); apply zM; (repeat intro hg); apply zM)
    refine cl [.ret (.lit (.int .i64 (nW ws 1))), .ret (.lit (.int .i64 (nW ws 2)))] ?_ <;> and_intros <;> first | exact hdT | (apply zM; (repeat intro ht); apply zM; (repeat intro hg); apply zM)
    · exact hn 1 (by omega)
    · exact hn 2 (by omega)
    refine wl ?_ <;> and_intros <;> first | exact hdT | (apply zM; (repeat intro ht); apply zM; (repeat intro hg); apply zM)
    refine W_mv (Mv.frz_row (id := (k + 4)) (s := 2) (D := k + 2) (sz := 6) (l := [[.lit (.int .i64 (nW ws 1)), .lit (.int .i64 (nW ws 2))]]) (row := [.lit (.slice none 0 0), .lit (.slice none 0 0), .sl (k + 4) 0 1, .lit (.slice none 0 0), .lit (.slice none 0 0), .lit (.slice none 0 0)]) 2 (rows 2 [[.lit (.int .i64 (nW ws 1)), .lit (.int .i64 (nW ws 2))]]) [(9, .lit (.int .i64 (2))), (8, .ptr (k + 2) 0 0), (2, .ptr k 0 0), (0, .lit (.string (ByteArray.mk s.toArray)))] [(k, ⟨6, true, [nil6]⟩)] (by omega) (by simp -dsimp -implicitDefEqProofs only [go_sem, List.map_append, Flt.row, eq_self, ↓reduceIte]) rfl (by simp -dsimp -implicitDefEqProofs only [go_sem, List.map_append, Flt.row, eq_self, ↓reduceIte]) (VLe.refl _) (by simp -dsimp -implicitDefEqProofs only [go_sem, List.map_append, Flt.row, eq_self, ↓reduceIte]) (by simp -dsimp -implicitDefEqProofs only [go_sem, List.map_append, Flt.row, eq_self, ↓reduceIte]) (by simp -dsimp -implicitDefEqProofs only [go_sem, List.map_append, Flt.row, eq_self, ↓reduceIte])) ?_
    refine W_mv (Mv.row (l := []) (r := [.lit (.slice none 0 0), .lit (.slice none 0 0), rows 2 [[.lit (.int .i64 (nW ws 1)), .lit (.int .i64 (nW ws 2))]], .lit (.slice none 0 0), .lit (.slice none 0 0), .lit (.slice none 0 0)]) (k + 2) (dE [.wg (nW ws 1) (nW ws 2)]).cells (by rw [AM.look, if_pos rfl]; rfl) (.cons (VLe.nil _ _) (.cons (VLe.nil _ _) (.cons (VLe.rd (n := 1) (fun i hi => by match i, hi with | 0, _ => rfl)) (.cons (VLe.nil _ _) (.cons (VLe.nil _ _) (.cons (VLe.nil _ _) .nil)))))) rfl) ?_
    refine W_mv (Mv.wk (k1 := k + 3) (fr1 := [(9, .lit (.int .i64 (2))), (8, .ptr (k + 2) 0 0), (2, .ptr k 0 0), (0, .lit (.string (ByteArray.mk s.toArray)))]) (H1 := [(k + 2, ⟨6, true, [(dE [.wg (nW ws 1) (nW ws 2)]).cells]⟩), (k, ⟨6, true, [nil6]⟩)]) (wk_low (by omega) (by simp -dsimp -implicitDefEqProofs only [go_sem, List.map_append, Flt.row, eq_self, ↓reduceIte]) (by simp -dsimp -implicitDefEqProofs only [go_sem, List.map_append, Flt.row, eq_self, ↓reduceIte]) (by simp -dsimp -implicitDefEqProofs only [go_sem, List.map_append, Flt.row, eq_self, ↓reduceIte]) (by simp -dsimp -implicitDefEqProofs only [go_sem, List.map_append, Flt.row, eq_self, ↓reduceIte]))) ?_
    exact one_fin hG (some (.wg (nW ws 1) (nW ws 2))) (fun e' he' => hrng _ (hgE.trans (Option.mem_toList.1 he'))) s 2 k RES (by rw [hRES, hgE]; rfl)
  by_cases h3 : w0 = wGone
  · have hK : K = 3 := by rw [eK, kI, if_neg h0, if_neg h1, if_neg h2, if_pos h3]
    rw [hK]
    have hgE : gE s = some (.gn (nW ws 1)) := by rw [hgs, gu, hhd, if_neg h0, if_neg h1, if_neg h2, if_pos h3]
    have kp : Kp [0,2,3,4,5,6,7,8,9,10,20,21,30,39,48,54,72,89] (fun i => i - k) := kpI
    refine wl ?_ <;> and_intros <;> first | exact hdT | (apply zM; (repeat intro ht); apply zM; (repeat intro hg); apply zM)
    refine cl [.ret (.lit (.int .i64 (nW ws 1)))] ?_ <;> and_intros <;> first | exact hdT | (apply zM; (repeat intro ht); apply zM; (repeat intro hg); apply zM)
    · exact hn 1 (by omega)
    refine wl ?_ <;> and_intros <;> first | exact hdT | (apply zM; (repeat intro ht); apply zM; (repeat intro hg); apply zM)
    refine W_mv (Mv.frz_row (id := (k + 4)) (s := 1) (D := k + 2) (sz := 6) (l := [[.lit (.int .i64 (nW ws 1))]]) (row := [.lit (.slice none 0 0), .lit (.slice none 0 0), .lit (.slice none 0 0), .sl (k + 4) 0 1, .lit (.slice none 0 0), .lit (.slice none 0 0)]) 3 (rows 1 [[.lit (.int .i64 (nW ws 1))]]) [(9, .lit (.int .i64 (3))), (8, .ptr (k + 2) 0 0), (2, .ptr k 0 0), (0, .lit (.string (ByteArray.mk s.toArray)))] [(k, ⟨6, true, [nil6]⟩)] (by omega) (by simp -dsimp -implicitDefEqProofs only [go_sem, List.map_append, Flt.row, eq_self, ↓reduceIte]) rfl (by simp -dsimp -implicitDefEqProofs only [go_sem, List.map_append, Flt.row, eq_self, ↓reduceIte]) (VLe.refl _) (by simp -dsimp -implicitDefEqProofs only [go_sem, List.map_append, Flt.row, eq_self, ↓reduceIte]) (by simp -dsimp -implicitDefEqProofs only [go_sem, List.map_append, Flt.row, eq_self, ↓reduceIte]) (by simp -dsimp -implicitDefEqProofs only [go_sem, List.map_append, Flt.row, eq_self, ↓reduceIte])) ?_
    refine W_mv (Mv.row (l := []) (r := [.lit (.slice none 0 0), .lit (.slice none 0 0), .lit (.slice none 0 0), rows 1 [[.lit (.int .i64 (nW ws 1))]], .lit (.slice none 0 0), .lit (.slice none 0 0)]) (k + 2) (dE [.gn (nW ws 1)]).cells (by rw [AM.look, if_pos rfl]; rfl) (.cons (VLe.nil _ _) (.cons (VLe.nil _ _) (.cons (VLe.nil _ _) (.cons (VLe.rd (n := 1) (fun i hi => by match i, hi with | 0, _ => rfl)) (.cons (VLe.nil _ _) (.cons (VLe.nil _ _) .nil)))))) rfl) ?_
    refine W_mv (Mv.wk (k1 := k + 3) (fr1 := [(9, .lit (.int .i64 (3))), (8, .ptr (k + 2) 0 0), (2, .ptr k 0 0), (0, .lit (.string (ByteArray.mk s.toArray)))]) (H1 := [(k + 2, ⟨6, true, [(dE [.gn (nW ws 1)]).cells]⟩), (k, ⟨6, true, [nil6]⟩)]) (wk_low (by omega) (by simp -dsimp -implicitDefEqProofs only [go_sem, List.map_append, Flt.row, eq_self, ↓reduceIte]) (by simp -dsimp -implicitDefEqProofs only [go_sem, List.map_append, Flt.row, eq_self, ↓reduceIte]) (by simp -dsimp -implicitDefEqProofs only [go_sem, List.map_append, Flt.row, eq_self, ↓reduceIte]) (by simp -dsimp -implicitDefEqProofs only [go_sem, List.map_append, Flt.row, eq_self, ↓reduceIte]))) ?_
    exact one_fin hG (some (.gn (nW ws 1))) (fun e' he' => hrng _ (hgE.trans (Option.mem_toList.1 he'))) s 3 k RES (by rw [hRES, hgE]; rfl)
  by_cases h4 : w0 = wTask
  · have hK : K = 4 := by rw [eK, kI, if_neg h0, if_neg h1, if_neg h2, if_neg h3, if_pos h4]
    rw [hK]
    by_cases h6 : 6 < ws.length
    · obtain ⟨M5, e5, m5⟩ : ∃ M5, M5 = ws.getD 5 [] ∧ M5 ∈ ws := ⟨_, rfl, by rw [List.getD_eq_getElem?_getD, List.getElem?_eq_getElem (by omega)]; exact List.getElem_mem _⟩
      obtain ⟨M6, e6, m6⟩ : ∃ M6, M6 = ws.getD 6 [] ∧ M6 ∈ ws := ⟨_, rfl, by rw [List.getD_eq_getElem?_getD, List.getElem?_eq_getElem (by omega)]; exact List.getElem_mem _⟩
      obtain ⟨R6, eR⟩ : ∃ R6, R6 = decide (M6 = wReady) := ⟨_, rfl⟩
      have hR : (M6 == [114, 101, 97, 100, 121]) = R6 := by rw [eR, Bool.eq_iff_iff, beq_iff_eq, decide_eq_true_eq]; rfl
      have hgE : gE s = some (.tk ⟨nW ws 1, nW ws 2, nW ws 3, nW ws 4, mP M5, R6, uW 64 ws 7, uW 32 ws 8⟩) := by rw [hgs, gu, hhd, if_neg h0, if_neg h1, if_neg h2, if_neg h3, if_pos h4]; rw [if_pos h6, if_pos h6, ← e5, ← e6, ← eR]
      have hmr := mRead_c hG M5 (hwl M5 m5)
      have hw32 : IntKind.u32.wrap (uW 32 ws 8) = uW 32 ws 8 := wrap_u32' (uW_rng32 ws 8)
      have kp : Kp [0,2,3,4,5,6,7,8,9,10,20,21,30,39,48,54,72,89] (fun i => i - k) := kpI
      have uU := zA @hw32 (And.intro (Eq.symm (e5)) (And.intro (Eq.symm (e6)) (@hR)))
      refine wl ?_ <;> and_intros <;> first | exact hdT | (apply zM; (repeat intro ht); apply zM; (repeat intro hg); apply zM)
      refine cl [.ret (.lit (.int .i64 (nW ws 1))), .ret (.lit (.int .i64 (nW ws 2))), .ret (.lit (.int .i64 (nW ws 3))), .ret (.lit (.int .i64 (nW ws 4))), .ret (.lit (.int .u64 (uW 64 ws 7))), .ret (.lit (.int .u64 (uW 32 ws 8)))] ?_ <;> and_intros <;> first | exact hdT | (apply zM; (repeat intro ht); apply zM; (repeat intro hg); apply zM)
      · exact hn 1 (by omega)
      · exact hn 2 (by omega)
      · exact hn 3 (by omega)
      · exact hn 4 (by omega)
      · exact hu64 7 (by omega)
      · exact hu32 8 (by omega)
      refine wl ?_ <;> and_intros <;> first | exact hdT | (apply zM; (repeat intro ht); apply zM; (repeat intro hg); apply zM)
      refine cl [.ret (.tup [.lit (.int .u64 (mP M5)), .lit (.int .i64 (if mT (mG M5) = M5 then 0 else 201))])] ?_ <;> and_intros <;> first | exact hdT | (apply zM; (repeat intro ht); apply zM; (repeat intro hg); apply zM)
      refine wl ?_ <;> and_intros <;> first | exact hdT | (apply zM; (repeat intro ht); apply zM; (repeat intro hg); apply zM)
      refine W_mv (Mv.frz_row (id := (k + 5)) (s := 8) (D := k + 2) (sz := 6) (l := [[.lit (.int .i64 (nW ws 1)), .lit (.int .i64 (nW ws 2)), .lit (.int .i64 (nW ws 3)), .lit (.int .i64 (nW ws 4)), .lit (.int .u64 (mP M5)), .lit (.bool (R6)), .lit (.int .u64 (uW 64 ws 7)), .lit (.int .u32 (uW 32 ws 8))]]) (row := [.lit (.slice none 0 0), .lit (.slice none 0 0), .lit (.slice none 0 0), .lit (.slice none 0 0), .sl (k + 5) 0 1, .lit (.slice none 0 0)]) 4 (rows 8 [[.lit (.int .i64 (nW ws 1)), .lit (.int .i64 (nW ws 2)), .lit (.int .i64 (nW ws 3)), .lit (.int .i64 (nW ws 4)), .lit (.int .u64 (mP M5)), .lit (.bool (R6)), .lit (.int .u64 (uW 64 ws 7)), .lit (.int .u32 (uW 32 ws 8))]]) [(9, .lit (.int .i64 (4))), (8, .ptr (k + 2) 0 0), (2, .ptr k 0 0), (0, .lit (.string (ByteArray.mk s.toArray)))] [(k, ⟨6, true, [nil6]⟩)] (by omega) (by simp -dsimp -implicitDefEqProofs only [go_sem, hw32, ← e5, ← e6, hR, List.map_append, Flt.row, eq_self, ↓reduceIte]) rfl (by simp -dsimp -implicitDefEqProofs only [go_sem, hw32, ← e5, ← e6, hR, List.map_append, Flt.row, eq_self, ↓reduceIte]) (VLe.refl _) (by simp -dsimp -implicitDefEqProofs only [go_sem, hw32, ← e5, ← e6, hR, List.map_append, Flt.row, eq_self, ↓reduceIte]) (by simp -dsimp -implicitDefEqProofs only [go_sem, hw32, ← e5, ← e6, hR, List.map_append, Flt.row, eq_self, ↓reduceIte]) (by simp -dsimp -implicitDefEqProofs only [go_sem, hw32, ← e5, ← e6, hR, List.map_append, Flt.row, eq_self, ↓reduceIte])) ?_
      refine W_mv (Mv.row (l := []) (r := [.lit (.slice none 0 0), .lit (.slice none 0 0), .lit (.slice none 0 0), .lit (.slice none 0 0), rows 8 [[.lit (.int .i64 (nW ws 1)), .lit (.int .i64 (nW ws 2)), .lit (.int .i64 (nW ws 3)), .lit (.int .i64 (nW ws 4)), .lit (.int .u64 (mP M5)), .lit (.bool (R6)), .lit (.int .u64 (uW 64 ws 7)), .lit (.int .u32 (uW 32 ws 8))]], .lit (.slice none 0 0)]) (k + 2) (dE [.tk ⟨nW ws 1, nW ws 2, nW ws 3, nW ws 4, mP M5, R6, uW 64 ws 7, uW 32 ws 8⟩]).cells (by rw [AM.look, if_pos rfl]; rfl) (.cons (VLe.nil _ _) (.cons (VLe.nil _ _) (.cons (VLe.nil _ _) (.cons (VLe.nil _ _) (.cons (VLe.rd (n := 1) (fun i hi => by match i, hi with | 0, _ => rfl)) (.cons (VLe.nil _ _) .nil)))))) rfl) ?_
      refine W_mv (Mv.wk (k1 := k + 3) (fr1 := [(9, .lit (.int .i64 (4))), (8, .ptr (k + 2) 0 0), (2, .ptr k 0 0), (0, .lit (.string (ByteArray.mk s.toArray)))]) (H1 := [(k + 2, ⟨6, true, [(dE [.tk ⟨nW ws 1, nW ws 2, nW ws 3, nW ws 4, mP M5, R6, uW 64 ws 7, uW 32 ws 8⟩]).cells]⟩), (k, ⟨6, true, [nil6]⟩)]) (wk_low (by omega) (by simp -dsimp -implicitDefEqProofs only [go_sem, hw32, ← e5, ← e6, hR, List.map_append, Flt.row, eq_self, ↓reduceIte]) (by simp -dsimp -implicitDefEqProofs only [go_sem, hw32, ← e5, ← e6, hR, List.map_append, Flt.row, eq_self, ↓reduceIte]) (by simp -dsimp -implicitDefEqProofs only [go_sem, hw32, ← e5, ← e6, hR, List.map_append, Flt.row, eq_self, ↓reduceIte]) (by simp -dsimp -implicitDefEqProofs only [go_sem, hw32, ← e5, ← e6, hR, List.map_append, Flt.row, eq_self, ↓reduceIte]))) ?_
      exact one_fin hG (some (.tk ⟨nW ws 1, nW ws 2, nW ws 3, nW ws 4, mP M5, R6, uW 64 ws 7, uW 32 ws 8⟩)) (fun e' he' => hrng _ (hgE.trans (Option.mem_toList.1 he'))) s 4 k RES (by rw [hRES, hgE]; rfl)
    · have hgE : gE s = some (.tk ⟨nW ws 1, nW ws 2, nW ws 3, nW ws 4, 0, false, uW 64 ws 7, uW 32 ws 8⟩) := by rw [hgs, gu, hhd, if_neg h0, if_neg h1, if_neg h2, if_neg h3, if_pos h4]; rw [if_neg h6, if_neg h6]
      have hw32 : IntKind.u32.wrap (uW 32 ws 8) = uW 32 ws 8 := wrap_u32' (uW_rng32 ws 8)
      have kp : Kp [0,2,3,4,5,6,7,8,9,10,20,21,30,39,48,54,72,89] (fun i => i - k) := kpI
      have uU := @hw32
      refine wl ?_ <;> and_intros <;> first | exact hdT | (apply zM; (repeat intro ht); apply zM; (repeat intro hg); apply zM)
      refine cl [.ret (.lit (.int .i64 (nW ws 1))), .ret (.lit (.int .i64 (nW ws 2))), .ret (.lit (.int .i64 (nW ws 3))), .ret (.lit (.int .i64 (nW ws 4))), .ret (.lit (.int .u64 (uW 64 ws 7))), .ret (.lit (.int .u64 (uW 32 ws 8)))] ?_ <;> and_intros <;> first | exact hdT | (apply zM; (repeat intro ht); apply zM; (repeat intro hg); apply zM)
      · exact hn 1 (by omega)
      · exact hn 2 (by omega)
      · exact hn 3 (by omega)
      · exact hn 4 (by omega)
      · exact hu64 7 (by omega)
      · exact hu32 8 (by omega)
      refine wl ?_ <;> and_intros <;> first | exact hdT | (apply zM; (repeat intro ht); apply zM; (repeat intro hg); apply zM)
      refine W_mv (Mv.frz_row (id := (k + 5)) (s := 8) (D := k + 2) (sz := 6) (l := [[.lit (.int .i64 (nW ws 1)), .lit (.int .i64 (nW ws 2)), .lit (.int .i64 (nW ws 3)), .lit (.int .i64 (nW ws 4)), .lit (.int .u64 (0)), .lit (.bool (false)), .lit (.int .u64 (uW 64 ws 7)), .lit (.int .u32 (uW 32 ws 8))]]) (row := [.lit (.slice none 0 0), .lit (.slice none 0 0), .lit (.slice none 0 0), .lit (.slice none 0 0), .sl (k + 5) 0 1, .lit (.slice none 0 0)]) 4 (rows 8 [[.lit (.int .i64 (nW ws 1)), .lit (.int .i64 (nW ws 2)), .lit (.int .i64 (nW ws 3)), .lit (.int .i64 (nW ws 4)), .lit (.int .u64 (0)), .lit (.bool (false)), .lit (.int .u64 (uW 64 ws 7)), .lit (.int .u32 (uW 32 ws 8))]]) [(9, .lit (.int .i64 (4))), (8, .ptr (k + 2) 0 0), (2, .ptr k 0 0), (0, .lit (.string (ByteArray.mk s.toArray)))] [(k, ⟨6, true, [nil6]⟩)] (by omega) (by simp -dsimp -implicitDefEqProofs only [go_sem, hw32, List.map_append, Flt.row, eq_self, ↓reduceIte]) rfl (by simp -dsimp -implicitDefEqProofs only [go_sem, hw32, List.map_append, Flt.row, eq_self, ↓reduceIte]) (VLe.refl _) (by simp -dsimp -implicitDefEqProofs only [go_sem, hw32, List.map_append, Flt.row, eq_self, ↓reduceIte]) (by simp -dsimp -implicitDefEqProofs only [go_sem, hw32, List.map_append, Flt.row, eq_self, ↓reduceIte]) (by simp -dsimp -implicitDefEqProofs only [go_sem, hw32, List.map_append, Flt.row, eq_self, ↓reduceIte])) ?_
      refine W_mv (Mv.row (l := []) (r := [.lit (.slice none 0 0), .lit (.slice none 0 0), .lit (.slice none 0 0), .lit (.slice none 0 0), rows 8 [[.lit (.int .i64 (nW ws 1)), .lit (.int .i64 (nW ws 2)), .lit (.int .i64 (nW ws 3)), .lit (.int .i64 (nW ws 4)), .lit (.int .u64 (0)), .lit (.bool (false)), .lit (.int .u64 (uW 64 ws 7)), .lit (.int .u32 (uW 32 ws 8))]], .lit (.slice none 0 0)]) (k + 2) (dE [.tk ⟨nW ws 1, nW ws 2, nW ws 3, nW ws 4, 0, false, uW 64 ws 7, uW 32 ws 8⟩]).cells (by rw [AM.look, if_pos rfl]; rfl) (.cons (VLe.nil _ _) (.cons (VLe.nil _ _) (.cons (VLe.nil _ _) (.cons (VLe.nil _ _) (.cons (VLe.rd (n := 1) (fun i hi => by match i, hi with | 0, _ => rfl)) (.cons (VLe.nil _ _) .nil)))))) rfl) ?_
      refine W_mv (Mv.wk (k1 := k + 3) (fr1 := [(9, .lit (.int .i64 (4))), (8, .ptr (k + 2) 0 0), (2, .ptr k 0 0), (0, .lit (.string (ByteArray.mk s.toArray)))]) (H1 := [(k + 2, ⟨6, true, [(dE [.tk ⟨nW ws 1, nW ws 2, nW ws 3, nW ws 4, 0, false, uW 64 ws 7, uW 32 ws 8⟩]).cells]⟩), (k, ⟨6, true, [nil6]⟩)]) (wk_low (by omega) (by simp -dsimp -implicitDefEqProofs only [go_sem, hw32, List.map_append, Flt.row, eq_self, ↓reduceIte]) (by simp -dsimp -implicitDefEqProofs only [go_sem, hw32, List.map_append, Flt.row, eq_self, ↓reduceIte]) (by simp -dsimp -implicitDefEqProofs only [go_sem, hw32, List.map_append, Flt.row, eq_self, ↓reduceIte]) (by simp -dsimp -implicitDefEqProofs only [go_sem, hw32, List.map_append, Flt.row, eq_self, ↓reduceIte]))) ?_
      exact one_fin hG (some (.tk ⟨nW ws 1, nW ws 2, nW ws 3, nW ws 4, 0, false, uW 64 ws 7, uW 32 ws 8⟩)) (fun e' he' => hrng _ (hgE.trans (Option.mem_toList.1 he'))) s 4 k RES (by rw [hRES, hgE]; rfl)
  by_cases h5 : w0 = wSpot
  · have hK : K = 5 := by rw [eK, kI, if_neg h0, if_neg h1, if_neg h2, if_neg h3, if_neg h4, if_pos h5]
    rw [hK]
    have hgE : gE s = some (.sp (nW ws 1) (nW ws 2) ⟨uW 64 ws 3, uW 32 ws 4, uW 64 ws 5⟩) := by rw [hgs, gu, hhd, if_neg h0, if_neg h1, if_neg h2, if_neg h3, if_neg h4, if_pos h5]
    have hw32 : IntKind.u32.wrap (uW 32 ws 4) = uW 32 ws 4 := wrap_u32' (uW_rng32 ws 4)
    have kp : Kp [0,2,3,4,5,6,7,8,9,10,20,21,30,39,48,54,72,89] (fun i => i - k) := kpI
    have uU := @hw32
    refine wl ?_ <;> and_intros <;> first | exact hdT | (apply zM; (repeat intro ht); apply zM; (repeat intro hg); apply zM)
    refine cl [.ret (.lit (.int .i64 (nW ws 1))), .ret (.lit (.int .i64 (nW ws 2))), .ret (.lit (.int .u64 (uW 64 ws 3))), .ret (.lit (.int .u64 (uW 32 ws 4))), .ret (.lit (.int .u64 (uW 64 ws 5)))] ?_ <;> and_intros <;> first | exact hdT | (apply zM; (repeat intro ht); apply zM; (repeat intro hg); apply zM)
    · exact hn 1 (by omega)
    · exact hn 2 (by omega)
    · exact hu64 3 (by omega)
    · exact hu32 4 (by omega)
    · exact hu64 5 (by omega)
    refine wl ?_ <;> and_intros <;> first | exact hdT | (apply zM; (repeat intro ht); apply zM; (repeat intro hg); apply zM)
    refine W_mv (Mv.frz_row (id := (k + 4)) (s := 5) (D := k + 2) (sz := 6) (l := [[.lit (.int .i64 (nW ws 1)), .lit (.int .i64 (nW ws 2)), .lit (.int .u64 (uW 64 ws 3)), .lit (.int .u32 (uW 32 ws 4)), .lit (.int .u64 (uW 64 ws 5))]]) (row := [.lit (.slice none 0 0), .lit (.slice none 0 0), .lit (.slice none 0 0), .lit (.slice none 0 0), .lit (.slice none 0 0), .sl (k + 4) 0 1]) 5 (rows 5 [[.lit (.int .i64 (nW ws 1)), .lit (.int .i64 (nW ws 2)), .lit (.int .u64 (uW 64 ws 3)), .lit (.int .u32 (uW 32 ws 4)), .lit (.int .u64 (uW 64 ws 5))]]) [(9, .lit (.int .i64 (5))), (8, .ptr (k + 2) 0 0), (2, .ptr k 0 0), (0, .lit (.string (ByteArray.mk s.toArray)))] [(k, ⟨6, true, [nil6]⟩)] (by omega) (by simp -dsimp -implicitDefEqProofs only [go_sem, hw32, List.map_append, Flt.row, eq_self, ↓reduceIte]) rfl (by simp -dsimp -implicitDefEqProofs only [go_sem, hw32, List.map_append, Flt.row, eq_self, ↓reduceIte]) (VLe.refl _) (by simp -dsimp -implicitDefEqProofs only [go_sem, hw32, List.map_append, Flt.row, eq_self, ↓reduceIte]) (by simp -dsimp -implicitDefEqProofs only [go_sem, hw32, List.map_append, Flt.row, eq_self, ↓reduceIte]) (by simp -dsimp -implicitDefEqProofs only [go_sem, hw32, List.map_append, Flt.row, eq_self, ↓reduceIte])) ?_
    refine W_mv (Mv.row (l := []) (r := [.lit (.slice none 0 0), .lit (.slice none 0 0), .lit (.slice none 0 0), .lit (.slice none 0 0), .lit (.slice none 0 0), rows 5 [[.lit (.int .i64 (nW ws 1)), .lit (.int .i64 (nW ws 2)), .lit (.int .u64 (uW 64 ws 3)), .lit (.int .u32 (uW 32 ws 4)), .lit (.int .u64 (uW 64 ws 5))]]]) (k + 2) (dE [.sp (nW ws 1) (nW ws 2) ⟨uW 64 ws 3, uW 32 ws 4, uW 64 ws 5⟩]).cells (by rw [AM.look, if_pos rfl]; rfl) (.cons (VLe.nil _ _) (.cons (VLe.nil _ _) (.cons (VLe.nil _ _) (.cons (VLe.nil _ _) (.cons (VLe.nil _ _) (.cons (VLe.rd (n := 1) (fun i hi => by match i, hi with | 0, _ => rfl)) .nil)))))) rfl) ?_
    refine W_mv (Mv.wk (k1 := k + 3) (fr1 := [(9, .lit (.int .i64 (5))), (8, .ptr (k + 2) 0 0), (2, .ptr k 0 0), (0, .lit (.string (ByteArray.mk s.toArray)))]) (H1 := [(k + 2, ⟨6, true, [(dE [.sp (nW ws 1) (nW ws 2) ⟨uW 64 ws 3, uW 32 ws 4, uW 64 ws 5⟩]).cells]⟩), (k, ⟨6, true, [nil6]⟩)]) (wk_low (by omega) (by simp -dsimp -implicitDefEqProofs only [go_sem, hw32, List.map_append, Flt.row, eq_self, ↓reduceIte]) (by simp -dsimp -implicitDefEqProofs only [go_sem, hw32, List.map_append, Flt.row, eq_self, ↓reduceIte]) (by simp -dsimp -implicitDefEqProofs only [go_sem, hw32, List.map_append, Flt.row, eq_self, ↓reduceIte]) (by simp -dsimp -implicitDefEqProofs only [go_sem, hw32, List.map_append, Flt.row, eq_self, ↓reduceIte]))) ?_
    exact one_fin hG (some (.sp (nW ws 1) (nW ws 2) ⟨uW 64 ws 3, uW 32 ws 4, uW 64 ws 5⟩)) (fun e' he' => hrng _ (hgE.trans (Option.mem_toList.1 he'))) s 5 k RES (by rw [hRES, hgE]; rfl)
  have hK : K = -1 := by rw [eK, kI, if_neg h0, if_neg h1, if_neg h2, if_neg h3, if_neg h4, if_neg h5]
  rw [hK]
  have hgE : gE s = none := by rw [hgs, gu, hhd, if_neg h0, if_neg h1, if_neg h2, if_neg h3, if_neg h4, if_neg h5]
  have kp : Kp [0,2,3,4,5,6,7,8,9,10,20,21,30,39,48,54,72,89] (fun i => i - k) := kpI
  refine wl ?_ <;> and_intros <;> first | exact hdT | (apply zM; (repeat intro ht); apply zM; (repeat intro hg); apply zM)
  refine W_mv (Mv.row (l := []) (r := nil6) (k + 2) (dE []).cells (by rw [AM.look, if_pos rfl]; rfl) (.cons (VLe.nil _ _) (.cons (VLe.nil _ _) (.cons (VLe.nil _ _) (.cons (VLe.nil _ _) (.cons (VLe.nil _ _) (.cons (VLe.nil _ _) .nil)))))) rfl) ?_
  refine W_mv (Mv.wk (k1 := k + 3) (fr1 := [(9, .lit (.int .i64 (-1))), (8, .ptr (k + 2) 0 0), (2, .ptr k 0 0), (0, .lit (.string (ByteArray.mk s.toArray)))]) (H1 := [(k + 2, ⟨6, true, [(dE []).cells]⟩), (k, ⟨6, true, [nil6]⟩)]) (wk_low (by omega) (by simp -dsimp -implicitDefEqProofs only [go_sem, List.map_append, Flt.row, eq_self, ↓reduceIte]) (by simp -dsimp -implicitDefEqProofs only [go_sem, List.map_append, Flt.row, eq_self, ↓reduceIte]) (by simp -dsimp -implicitDefEqProofs only [go_sem, List.map_append, Flt.row, eq_self, ↓reduceIte]) (by simp -dsimp -implicitDefEqProofs only [go_sem, List.map_append, Flt.row, eq_self, ↓reduceIte]))) ?_
  exact one_fin hG none (fun e' he' => by cases he') s (-1) k RES (by rw [hRES, hgE]; rfl)
end Go.Proofs.T
end
section
namespace Go.Proofs.T
open Go Go.AM Go.Proofs Go.Lib
set_option maxRecDepth 20000
variable {Γ : List (Nat × List AVal)}
attribute [local irreducible] putO del
attribute [local go_sem] strs nil6
theorem rdL_gE {s : List UInt8} {e : El} (h : rdL s = some e) : gE s = some e := by
  rw [rdL_guess] at h
  unfold gE
  cases hg : gu mP (split s [32]) with
  | none => rw [hg] at h; cases h
  | some e' =>
    rw [hg] at h
    simp only at h
    split at h
    · exact h
    · cases h
theorem acc_cells (id : Nat) (l : List (List AVal)) : acells (accV id l) = some [accV id l] := by cases l <;> rfl
def h6 (k : Nat) (l : List El) (R : Heap) : Heap := accH (k + 2) 2 ((dlE l).ck.map vlR) (accH (k + 3) 2 ((dlE l).cu.map vlR) (accH (k + 4) 2 ((dlE l).wg.map vlR) (accH (k + 5) 1 ((dlE l).gn.map nR) (accH (k + 6) 8 ((dlE l).tk.map tR) (accH (k + 7) 5 ((dlE l).sp.map pR) R)))))
def c6 (k : Nat) (l : List El) : List AVal := [accV (k + 2) ((dlE l).ck.map vlR), accV (k + 3) ((dlE l).cu.map vlR), accV (k + 4) ((dlE l).wg.map vlR), accV (k + 5) ((dlE l).gn.map nR), accV (k + 6) ((dlE l).tk.map tR), accV (k + 7) ((dlE l).sp.map pR)]
theorem fmN {α : Type} {f : El → Option α} {g : α → List AVal} {acc : List El} {e : El} {L : List (List AVal)} (he : L = (acc.filterMap f).map g) (h : f e = none) : ((acc ++ [e]).filterMap f).map g = L := by
  rw [List.filterMap_append, List.map_append, he, show List.filterMap f [e] = [] by simp [h]]
  exact List.append_nil _
theorem fmY {α : Type} {f : El → Option α} {g : α → List AVal} {acc : List El} {e : El} {L : List (List AVal)} {x : α} (he : L = (acc.filterMap f).map g) (h : f e = some x) : ((acc ++ [e]).filterMap f).map g = L ++ [g x] := by
  rw [List.filterMap_append, List.map_append, he, show List.filterMap f [e] = [x] by simp [h]]
  rfl
end Go.Proofs.T
end
