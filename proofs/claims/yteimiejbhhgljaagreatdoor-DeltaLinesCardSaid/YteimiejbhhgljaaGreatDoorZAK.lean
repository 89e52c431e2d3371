import Derived.Test.YteimiejbhhgljaaGreatDoorZAJ
import Derived.Test.YteimiejbhhgljaaGreatDoorRows
set_option linter.unusedVariables false
set_option linter.unusedSimpArgs false
section
namespace Go.Proofs.T
open Go Go.AM Go.Proofs Go.Lib
set_option maxRecDepth 20000
variable {Γ : List (Nat × List AVal)}
structure FinI (s : List UInt8) (i f n m : Nat) (l : List (Nat × Nat)) : Prop where
  le : i ≤ s.length
  fuel : s.length - i ≤ f
  res : parseR s.length 0 s = (finR (parseR f) n m (s.drop i)).map (l ++ ·)
  nm : n ≤ m ∧ m < 64
  lt : ∀ x ∈ l, x.1 ≤ x.2 ∧ x.2 < 64
  len : l.length < i
theorem parse_fuel {s : List UInt8} {at' least f k1 n : Nat} {l : List (Nat × Nat)} (h : RInv s at' least f l) (e : numR (s.drop at') = ((n : Int), k1)) : 1 ≤ k1 ∧ at' + k1 ≤ s.length ∧ ∃ f', f = f' + 1 := by
  have h1 := numR_pos (t := s.drop at') (by rw [e]; simp)
  have h2 := numR_le (s.drop at')
  have h3 := h.fuel
  have h4 := h.at_le
  rw [e] at h1 h2
  simp only [List.length_drop] at h1 h2
  exact ⟨h1, by omega, f - 1, by omega⟩
theorem fin_one {s : List UInt8} {at' least f k1 n : Nat} {l : List (Nat × Nat)} (h : RInv s at' least f l) (e : numR (s.drop at') = ((n : Int), k1)) (hn : least ≤ n) (hd : ∀ r, s.drop (at' + k1) ≠ 45 :: r) : ∃ f', FinI s (at' + k1) f' n n l := by
  obtain ⟨h1, h2, f', rfl⟩ := parse_fuel h e
  have h63 := numR_hi (s.drop at')
  rw [e] at h63
  simp only at h63
  refine ⟨f', h2, by have := h.fuel; omega, ?_, ⟨Nat.le_refl _, by omega⟩, h.lt, by have := h.len; omega⟩
  rw [h.res, parseR, e]
  simp only
  rw [if_neg (by omega), List.drop_drop]
  split
  · rename_i r hr; exact absurd hr (hd r)
  · rw [Int.toNat_natCast]
theorem fin_two {s : List UInt8} {at' least f k1 k2 n m : Nat} {l : List (Nat × Nat)} {r : List UInt8} (h : RInv s at' least f l) (e : numR (s.drop at') = ((n : Int), k1)) (hn : least ≤ n) (hd : s.drop (at' + k1) = 45 :: r) (e2 : numR (s.drop (at' + k1 + 1)) = ((m : Int), k2)) (hm : n < m) : ∃ f', FinI s (at' + k1 + 1 + k2) f' n m l := by
  obtain ⟨h1, h2, f', rfl⟩ := parse_fuel h e
  have h63 := numR_hi (s.drop (at' + k1 + 1))
  have hle := numR_le (s.drop (at' + k1 + 1))
  rw [e2] at h63 hle
  simp only [List.length_drop] at h63 hle
  have hr : s.drop (at' + k1 + 1) = r := by rw [← List.drop_drop, hd]; rfl
  have hlt : at' + k1 + 1 ≤ s.length := by
    have := congrArg List.length hd
    simp at this; omega
  refine ⟨f', by omega, by have := h.fuel; omega, ?_, ⟨by omega, by omega⟩, h.lt, by have := h.len; omega⟩
  rw [h.res, parseR, e]
  simp only
  rw [if_neg (by omega), List.drop_drop, hd]
  simp only
  rw [← hr, e2]
  simp only
  rw [if_neg (by omega), List.drop_drop, Int.toNat_natCast, Int.toNat_natCast]
theorem two_no {s : List UInt8} {at' least f k1 k2 n : Nat} {m : Int} {l : List (Nat × Nat)} {r : List UInt8} (h : RInv s at' least f l) (e : numR (s.drop at') = ((n : Int), k1)) (hn : least ≤ n) (hd : s.drop (at' + k1) = 45 :: r) (e2 : numR (s.drop (at' + k1 + 1)) = (m, k2)) (hm : m ≤ (n : Int)) : parseR s.length 0 s = none := by
  obtain ⟨h1, h2, f', rfl⟩ := parse_fuel h e
  have hr : s.drop (at' + k1 + 1) = r := by rw [← List.drop_drop, hd]; rfl
  rw [h.res, parseR, e]
  simp only
  rw [if_neg (by omega), List.drop_drop, hd]
  simp only
  rw [← hr, e2]
  simp only
  rw [if_pos hm]; rfl
theorem fin_end {s : List UInt8} {i f n m : Nat} {l : List (Nat × Nat)} (h : FinI s i f n m l) (he : i = s.length) : parseR s.length 0 s = some (l ++ [(n, m)]) := by
  rw [h.res, he, List.drop_length]; rfl
theorem fin_bad {s : List UInt8} {i f n m : Nat} {l : List (Nat × Nat)} (h : FinI s i f n m l) (hi : i < s.length) (hc : s.getD i 0 ≠ 44) : parseR s.length 0 s = none := by
  rw [h.res, drop_at hi, finR, if_neg hc]; rfl
theorem fin_next {s : List UInt8} {i f n m : Nat} {l : List (Nat × Nat)} (h : FinI s i f n m l) (hi : i < s.length) (hc : s.getD i 0 = 44) : RInv s (i + 1) (m + 2) f (l ++ [(n, m)]) where
  at_le := by omega
  fuel := by have := h.fuel; omega
  res := by
    rw [h.res, drop_at hi, finR, if_pos hc, Option.map_map]
    congr 1
    funext x
    simp
  lt := fun x hx => by
    rw [List.mem_append, List.mem_singleton] at hx
    rcases hx with hx | hx
    · exact h.lt x hx
    · rw [hx]; exact h.nm
  len := by have := h.len; simp; omega
theorem expR_lt {l : List (Nat × Nat)} (h : ∀ x ∈ l, x.1 ≤ x.2 ∧ x.2 < 64) : ∀ c ∈ expR l, c < 64 := fun c hc => by
  obtain ⟨x, hx, hc⟩ := List.mem_flatMap.1 hc
  have := h x hx
  rw [List.mem_range'_1] at hc; omega
theorem expR_len {l : List (Nat × Nat)} (h : ∀ x ∈ l, x.1 ≤ x.2 ∧ x.2 < 64) : (expR l).length ≤ 64 * l.length := by
  induction l with
  | nil => simp [expR]
  | cons x r ih =>
    have h1 := h x (by simp)
    have h2 := ih fun y hy => h y (List.mem_cons_of_mem _ hy)
    have : expR (x :: r) = List.range' x.1 (x.2 + 1 - x.1) ++ expR r := by simp [expR]
    rw [this, List.length_append, List.length_range', List.length_cons]; omega
theorem byte_eq {c d : UInt8} : c = d ↔ c.toNat = d.toNat := UInt8.toNat_inj.symm
theorem rows_leN (l : List Nat) : VLe (rows 1 (l.map rowN)) (.rd 1 l.length (fun i => [.lit (.int .i64 ((l.getD i 0 : Nat) : Int))])) := by
  rw [rows, List.length_map]
  exact VLe.rd fun i hi => by simp [rowN, List.getD_eq_getElem?_getD, hi]
set_option maxHeartbeats 8000000 in
theorem rRead_c (s : List UInt8) (hs : s.length ≤ 300) : AM.Pure Tryz.prog Γ 179 [.lit (.string (ByteArray.mk s.toArray))] (.tup [.lit (.int .u64 ((mR s).getD 0)), .lit (.bool (mR s).isSome)]) := by
  obtain ⟨V, eV⟩ : ∃ V, V = (mR s).getD 0 := ⟨_, rfl⟩
  obtain ⟨B, eB⟩ : ∃ B, B = (mR s).isSome := ⟨_, rfl⟩
  have hnone : s ≠ [45] → parseR s.length 0 s = none → V = 0 ∧ B = false := fun h1 h2 => by rw [eV, eB, mR, if_neg h1, h2]; exact ⟨rfl, rfl⟩
  have hsome : ∀ l, s ≠ [45] → parseR s.length 0 s = some l → V = mkB (covers l) ∧ B = true := fun l h1 h2 => by rw [eV, eB, mR, if_neg h1, h2]; exact ⟨rfl, rfl⟩
  have hdash : s = [45] → V = 0 ∧ B = true := fun h => by rw [eV, eB, mR, if_pos h]; exact ⟨rfl, rfl⟩
  rw [← eV, ← eB]
  clear eV eB
  refine Pure_at Tryz.func179 rfl 67 rfl (Nat.le_of_ble_eq_true rfl) rfl fun k => ?_
  have kp : Kp [0,2,3,4,5,6,7,8,9,10,12,21,32,42,46,56,62] (fun i => i - k) := kpI
  refine wl ?_ <;> and_intros <;> first | exact hdT | (apply zM; (repeat intro ht); apply zM; (repeat intro hg); apply zM)
  · refine wl ?_ <;> and_intros <;> first | exact hdT | (apply zM; (repeat intro ht); apply zM; (repeat intro hg); apply zM)
    have := hdash ‹_›
    refine C_ret rfl ⟨_, rfl, VLe.of_eq ?_⟩
    rw [this.1, this.2]
  have hne : s ≠ [45] := ‹_›
  refine M_forO (X := Nat × Nat × Nat × List (Nat × Nat)) rfl [0,2,3,4,5,6,7,8,9,10,12,21,32,42,46,56,62] (k + 1) (fun x => [(5, .lit (.int .i64 (x.1 : Int))), (6, .lit (.int .i64 (x.2.1 : Int))), (4, accV k ((expR x.2.2.2).map rowN))]) (fun x => accH k 1 ((expR x.2.2.2).map rowN) []) (fun x => RInv s x.1 x.2.1 x.2.2.1 x.2.2.2 ∧ x.2.1 ≤ 70) (fun x => s.length - x.1) (0, 0, s.length, []) ?_ ⟨rInv0 s, by simp⟩ ?_
  · rw [show expR [] = [] from rfl, List.map_nil]
    refine rR ?_ <;> first | exact hdT | apply zN
    exact wkF
  rintro ⟨p, least, f, l⟩ ⟨hI, hl70⟩
  simp only at hI hl70
  have hp := hI.at_le
  simp only
  obtain ⟨L, eL, hL⟩ : ∃ L, L = (expR l).map rowN ∧ L.length ≤ 64 * 300 := ⟨_, rfl, by rw [List.length_map]; have := expR_len hI.lt; have := hI.len; omega⟩
  obtain ⟨a, k1, e1⟩ : ∃ a k1, numR (s.drop p) = (a, k1) := ⟨_, _, rfl⟩
  have hn1 := number20_c (Γ := Γ) s hs p hp
  have hlo := numR_lo (s.drop p)
  have hhi := numR_hi (s.drop p)
  have hk1 := numR_le (s.drop p)
  rw [e1] at hn1 hlo hhi hk1
  simp only [List.length_drop] at hn1 hlo hhi hk1
  obtain ⟨q, eq⟩ : ∃ q, q = p + k1 := ⟨_, rfl⟩
  rw [← eq] at hn1
  rw [← eL]
  refine rR ?_ <;> first | exact hdT | apply zN
  refine wl ?_ <;> and_intros <;> first | exact hdT | (apply zM; (repeat intro ht); apply zM; (repeat intro hg); apply zM)
  refine cl [.ret (.tup [.lit (.int .i64 a), .lit (.int .i64 (q : Int))])] ?_ <;> and_intros <;> first | exact hdT | (apply zM; (repeat intro ht); apply zM; (repeat intro hg); apply zM)
  refine wl ?_ <;> and_intros <;> first | exact hdT | (apply zM; (repeat intro ht); apply zM; (repeat intro hg); apply zM)
  · refine wl ?_ <;> and_intros <;> first | exact hdT | (apply zM; (repeat intro ht); apply zM; (repeat intro hg); apply zM)
    have := hnone hne (rInv_no hI (by rw [e1]; assumption))
    refine C_ret rfl ⟨_, rfl, VLe.of_eq ?_⟩
    rw [this.1, this.2]
  · obtain ⟨n, rfl⟩ : ∃ n : Nat, a = (n : Int) := ⟨a.toNat, by omega⟩
    have hqn : q < s.length := by omega
    have hd : s.drop (p + k1) = 45 :: s.drop (q + 1) := by
      rw [← eq, drop_at hqn]
      congr 1
      rw [byte_eq]
      have : ((s.getD q 0).toNat : Int) = 45 := ‹_›
      show _ = 45
      omega
    obtain ⟨b, k2, e2⟩ : ∃ b k2, numR (s.drop (q + 1)) = (b, k2) := ⟨_, _, rfl⟩
    have hn2 := number20_c (Γ := Γ) s hs (q + 1) (by omega)
    have hlo2 := numR_lo (s.drop (q + 1))
    have hhi2 := numR_hi (s.drop (q + 1))
    have hk2 := numR_le (s.drop (q + 1))
    rw [e2] at hn2 hlo2 hhi2 hk2
    simp only [List.length_drop] at hn2 hlo2 hhi2 hk2
    obtain ⟨i2, ei⟩ : ∃ i2, i2 = q + 1 + k2 := ⟨_, rfl⟩
    rw [← ei, show ((q + 1 : Nat) : Int) = (q : Int) + 1 by omega] at hn2
    rw [eq] at e2
    refine wl ?_ <;> and_intros <;> first | exact hdT | (apply zM; (repeat intro ht); apply zM; (repeat intro hg); apply zM)
    refine cl [.ret (.tup [.lit (.int .i64 b), .lit (.int .i64 (i2 : Int))])] ?_ <;> and_intros <;> first | exact hdT | (apply zM; (repeat intro ht); apply zM; (repeat intro hg); apply zM)
    · rw [wrap_i64 (by omega) (by omega)]; exact hn2
    refine wl ?_ <;> and_intros <;> first | exact hdT | (apply zM; (repeat intro ht); apply zM; (repeat intro hg); apply zM)
    · refine wl ?_ <;> and_intros <;> first | exact hdT | (apply zM; (repeat intro ht); apply zM; (repeat intro hg); apply zM)
      have := hnone hne (two_no hI e1 (by omega) hd e2 (by omega))
      refine C_ret rfl ⟨_, rfl, VLe.of_eq ?_⟩
      rw [this.1, this.2]
    · obtain ⟨m, rfl⟩ : ∃ m : Nat, b = (m : Int) := ⟨b.toNat, by omega⟩
      obtain ⟨f', hF⟩ := fin_two hI e1 (by omega) hd e2 (by omega)
      rw [← eq, ← ei] at hF
      have hpi : p < i2 := by have := (parse_fuel hI e1).1; omega
      have hlen3 : (expR l).length ≤ 64 * 300 := by have := expR_len hI.lt; have := hI.len; omega
      refine M_forO (X := Nat) rfl [0,2,3,4,5,6,7,8,9,10,12,21,32,42,46,56,62] (k + 1) (fun c => [(10, .lit (.int .i64 (c : Int))), (4, accV k ((expR l ++ List.range' n (c - n)).map rowN))]) (fun c => accH k 1 ((expR l ++ List.range' n (c - n)).map rowN) []) (fun c => n ≤ c ∧ c ≤ m + 1) (fun c => m + 1 - c) n ?_ ⟨Nat.le_refl _, by omega⟩ ?_
      · rw [Nat.sub_self, show List.range' n 0 = [] from rfl, List.append_nil, ← eL]
        refine rR ?_ <;> first | exact hdT | apply zN
        exact wkF
      rintro c ⟨c1, c2⟩
      obtain ⟨L2, eL2, hL2⟩ : ∃ L2, L2 = (expR l ++ List.range' n (c - n)).map rowN ∧ L2.length ≤ 64 * 300 + 64 := ⟨_, rfl, by rw [List.length_map, List.length_append, List.length_range']; omega⟩
      rw [← eL2]
      refine rR ?_ <;> first | exact hdT | apply zN
      refine wl ?_ <;> and_intros <;> first | exact hdT | (apply zM; (repeat intro ht); apply zM; (repeat intro hg); apply zM)
      · refine ⟨c + 1, ⟨by omega, by omega⟩, by omega, ?_⟩
        have e5 : (expR l ++ List.range' n (c + 1 - n)).map rowN = L2 ++ [rowN c] := by
          rw [show c + 1 - n = (c - n) + 1 by omega, range'_snoc, ← List.append_assoc, List.map_append, ← eL2, show n + (c - n) = c by omega]; rfl
        rw [e5, rowN, show ((c + 1 : Nat) : Int) = (c : Int) + 1 by omega]
        refine rR ?_ <;> first | exact hdT | apply zN
        exact Mv.app (k + 2) (k) ⟨by omega, by omega⟩ ⟨by omega, by omega⟩ (wk_low (by omega) (by simp -dsimp -implicitDefEqProofs only [go_sem, List.map_append, Flt.row, eq_self, ↓reduceIte]) (by simp -dsimp -implicitDefEqProofs only [go_sem, List.map_append, Flt.row, eq_self, ↓reduceIte]) (by simp -dsimp -implicitDefEqProofs only [go_sem, List.map_append, Flt.row, eq_self, ↓reduceIte]) (by simp -dsimp -implicitDefEqProofs only [go_sem, List.map_append, Flt.row, eq_self, ↓reduceIte]))
      all_goals have hfull : L2 = (expR (l ++ [(n, m)])).map rowN := by rw [expR_snoc, eL2, show m + 1 - n = c - n by omega]
      · have hend := hsome _ hne (fin_end hF (by omega))
        have hle : VLe (rows 1 L2) (.rd 1 (expR (l ++ [(n, m)])).length (fun i => [.lit (.int .i64 (((expR (l ++ [(n, m)])).getD i 0 : Nat) : Int))])) := by rw [hfull]; exact rows_leN _
        have hof := of20_c (Γ := Γ) (expR (l ++ [(n, m)])) (by have : (expR (l ++ [(n, m)])).length = L2.length := (by rw [hfull, List.length_map]); omega) (expR_lt fun x hx => by
          rw [List.mem_append, List.mem_singleton] at hx
          rcases hx with hx | hx
          · exact hF.lt x hx
          · rw [hx]; exact hF.nm)
        rw [show (mkB fun i => decide (i ∈ expR (l ++ [(n, m)]))) = V by rw [hend.1]; exact mkB_congr fun i => expR_mem _ i] at hof
        refine W_mv (Mv.frz_acc (id := k) (s := 1) (l := L2) 4 rfl (by rw [accIn_self]; trivial)) ?_
        refine W_mv (Mv_tmp 4 rfl hle) ?_
        refine rR ?_ <;> first | exact hdT | apply zN
        refine wl ?_ <;> and_intros <;> first | exact hdT | (apply zM; (repeat intro ht); apply zM; (repeat intro hg); apply zM)
        refine cl [.ret (.lit (.int .u64 V))] ?_ <;> and_intros <;> first | exact hdT | (apply zM; (repeat intro ht); apply zM; (repeat intro hg); apply zM)
        refine wl ?_ <;> and_intros <;> first | exact hdT | (apply zM; (repeat intro ht); apply zM; (repeat intro hg); apply zM)
        refine C_ret rfl ⟨_, rfl, VLe.of_eq ?_⟩
        rw [hend.2]
      · refine wl ?_ <;> and_intros <;> first | exact hdT | (apply zM; (repeat intro ht); apply zM; (repeat intro hg); apply zM)
        have hbad := hnone hne (fin_bad hF (by omega) (fun e => by have e' := byte_eq.1 e; have e'' : (44 : UInt8).toNat = 44 := rfl; omega))
        refine C_ret rfl ⟨_, rfl, VLe.of_eq ?_⟩
        rw [hbad.1, hbad.2]
      · have h44 : s.getD i2 0 = 44 := by
          rw [byte_eq]
          have e'' : (44 : UInt8).toNat = 44 := rfl
          omega
        have hlt2 : i2 < s.length := by have := hF.le; omega
        refine ⟨(i2 + 1, m + 2, f', l ++ [(n, m)]), ⟨fin_next hF hlt2 h44, by simp only; have := hF.nm; omega⟩, by simp only; omega, ?_⟩
        simp only
        rw [← hfull, show ((i2 + 1 : Nat) : Int) = (i2 : Int) + 1 by omega, show ((m + 2 : Nat) : Int) = (m : Int) + 2 by omega]
        exact wkF
  · obtain ⟨n, rfl⟩ : ∃ n : Nat, a = (n : Int) := ⟨a.toNat, by omega⟩
    have hd : ∀ r, s.drop (p + k1) ≠ 45 :: r := fun r e => by
      by_cases hqn : q < s.length
      · rw [← eq, drop_at hqn] at e
        have h3 : (s.getD q 0).toNat = 45 := by rw [(List.cons.inj e).1]; rfl
        omega
      · have := congrArg List.length e
        simp at this; omega
    obtain ⟨f', hF⟩ := fin_one hI e1 (by omega) hd
    have hpi : p < q := by have := (parse_fuel hI e1).1; omega
    rw [← eq] at hF
    have hlen3 : (expR l).length ≤ 64 * 300 := by have := expR_len hI.lt; have := hI.len; omega
    refine M_forO (X := Nat) rfl [0,2,3,4,5,6,7,8,9,10,12,21,32,42,46,56,62] (k + 1) (fun c => [(10, .lit (.int .i64 (c : Int))), (4, accV k ((expR l ++ List.range' n (c - n)).map rowN))]) (fun c => accH k 1 ((expR l ++ List.range' n (c - n)).map rowN) []) (fun c => n ≤ c ∧ c ≤ n + 1) (fun c => n + 1 - c) n ?_ ⟨Nat.le_refl _, by omega⟩ ?_
    · rw [Nat.sub_self, show List.range' n 0 = [] from rfl, List.append_nil, ← eL]
      refine rR ?_ <;> first | exact hdT | apply zN
      exact wkF
    rintro c ⟨c1, c2⟩
    obtain ⟨L2, eL2, hL2⟩ : ∃ L2, L2 = (expR l ++ List.range' n (c - n)).map rowN ∧ L2.length ≤ 64 * 300 + 64 := ⟨_, rfl, by rw [List.length_map, List.length_append, List.length_range']; omega⟩
    rw [← eL2]
    refine rR ?_ <;> first | exact hdT | apply zN
    refine wl ?_ <;> and_intros <;> first | exact hdT | (apply zM; (repeat intro ht); apply zM; (repeat intro hg); apply zM)
    · refine ⟨c + 1, ⟨by omega, by omega⟩, by omega, ?_⟩
      have e5 : (expR l ++ List.range' n (c + 1 - n)).map rowN = L2 ++ [rowN c] := by
        rw [show c + 1 - n = (c - n) + 1 by omega, range'_snoc, ← List.append_assoc, List.map_append, ← eL2, show n + (c - n) = c by omega]; rfl
      rw [e5, rowN, show ((c + 1 : Nat) : Int) = (c : Int) + 1 by omega]
      refine rR ?_ <;> first | exact hdT | apply zN
      exact Mv.app (k + 2) (k) ⟨by omega, by omega⟩ ⟨by omega, by omega⟩ (wk_low (by omega) (by simp -dsimp -implicitDefEqProofs only [go_sem, List.map_append, Flt.row, eq_self, ↓reduceIte]) (by simp -dsimp -implicitDefEqProofs only [go_sem, List.map_append, Flt.row, eq_self, ↓reduceIte]) (by simp -dsimp -implicitDefEqProofs only [go_sem, List.map_append, Flt.row, eq_self, ↓reduceIte]) (by simp -dsimp -implicitDefEqProofs only [go_sem, List.map_append, Flt.row, eq_self, ↓reduceIte]))
    all_goals have hfull : L2 = (expR (l ++ [(n, n)])).map rowN := by rw [expR_snoc, eL2, show n + 1 - n = c - n by omega]
    · refine wl ?_ <;> and_intros <;> first | exact hdT | (apply zM; (repeat intro ht); apply zM; (repeat intro hg); apply zM)
      have hbad := hnone hne (fin_bad hF (by omega) (fun e => by have e' := byte_eq.1 e; have e'' : (44 : UInt8).toNat = 44 := rfl; omega))
      refine C_ret rfl ⟨_, rfl, VLe.of_eq ?_⟩
      rw [hbad.1, hbad.2]
    · have h44 : s.getD q 0 = 44 := by
        rw [byte_eq]
        have e'' : (44 : UInt8).toNat = 44 := rfl
        omega
      have hlt2 : q < s.length := by have := hF.le; omega
      refine ⟨(q + 1, n + 2, f', l ++ [(n, n)]), ⟨fin_next hF hlt2 h44, by simp only; have := hF.nm; omega⟩, by simp only; omega, ?_⟩
      simp only
      rw [← hfull, show ((q + 1 : Nat) : Int) = (q : Int) + 1 by omega, show ((n + 2 : Nat) : Int) = (n : Int) + 2 by omega]
      exact wkF
  · obtain ⟨n, rfl⟩ : ∃ n : Nat, a = (n : Int) := ⟨a.toNat, by omega⟩
    have hd : ∀ r, s.drop (p + k1) ≠ 45 :: r := fun r e => by
      by_cases hqn : q < s.length
      · rw [← eq, drop_at hqn] at e
        have h3 : (s.getD q 0).toNat = 45 := by rw [(List.cons.inj e).1]; rfl
        omega
      · have := congrArg List.length e
        simp at this; omega
    obtain ⟨f', hF⟩ := fin_one hI e1 (by omega) hd
    have hpi : p < q := by have := (parse_fuel hI e1).1; omega
    rw [← eq] at hF
    have hlen3 : (expR l).length ≤ 64 * 300 := by have := expR_len hI.lt; have := hI.len; omega
    refine M_forO (X := Nat) rfl [0,2,3,4,5,6,7,8,9,10,12,21,32,42,46,56,62] (k + 1) (fun c => [(10, .lit (.int .i64 (c : Int))), (4, accV k ((expR l ++ List.range' n (c - n)).map rowN))]) (fun c => accH k 1 ((expR l ++ List.range' n (c - n)).map rowN) []) (fun c => n ≤ c ∧ c ≤ n + 1) (fun c => n + 1 - c) n ?_ ⟨Nat.le_refl _, by omega⟩ ?_
    · rw [Nat.sub_self, show List.range' n 0 = [] from rfl, List.append_nil, ← eL]
      refine rR ?_ <;> first | exact hdT | apply zN
      exact wkF
    rintro c ⟨c1, c2⟩
    obtain ⟨L2, eL2, hL2⟩ : ∃ L2, L2 = (expR l ++ List.range' n (c - n)).map rowN ∧ L2.length ≤ 64 * 300 + 64 := ⟨_, rfl, by rw [List.length_map, List.length_append, List.length_range']; omega⟩
    rw [← eL2]
    refine rR ?_ <;> first | exact hdT | apply zN
    refine wl ?_ <;> and_intros <;> first | exact hdT | (apply zM; (repeat intro ht); apply zM; (repeat intro hg); apply zM)
    · refine ⟨c + 1, ⟨by omega, by omega⟩, by omega, ?_⟩
      have e5 : (expR l ++ List.range' n (c + 1 - n)).map rowN = L2 ++ [rowN c] := by
        rw [show c + 1 - n = (c - n) + 1 by omega, range'_snoc, ← List.append_assoc, List.map_append, ← eL2, show n + (c - n) = c by omega]; rfl
      rw [e5, rowN, show ((c + 1 : Nat) : Int) = (c : Int) + 1 by omega]
      refine rR ?_ <;> first | exact hdT | apply zN
      exact Mv.app (k + 2) (k) ⟨by omega, by omega⟩ ⟨by omega, by omega⟩ (wk_low (by omega) (by simp -dsimp -implicitDefEqProofs only [go_sem, List.map_append, Flt.row, eq_self, ↓reduceIte]) (by simp -dsimp -implicitDefEqProofs only [go_sem, List.map_append, Flt.row, eq_self, ↓reduceIte]) (by simp -dsimp -implicitDefEqProofs only [go_sem, List.map_append, Flt.row, eq_self, ↓reduceIte]) (by simp -dsimp -implicitDefEqProofs only [go_sem, List.map_append, Flt.row, eq_self, ↓reduceIte]))
    all_goals have hfull : L2 = (expR (l ++ [(n, n)])).map rowN := by rw [expR_snoc, eL2, show n + 1 - n = c - n by omega]
    · have hend := hsome _ hne (fin_end hF (by omega))
      have hle : VLe (rows 1 L2) (.rd 1 (expR (l ++ [(n, n)])).length (fun i => [.lit (.int .i64 (((expR (l ++ [(n, n)])).getD i 0 : Nat) : Int))])) := by rw [hfull]; exact rows_leN _
      have hof := of20_c (Γ := Γ) (expR (l ++ [(n, n)])) (by have : (expR (l ++ [(n, n)])).length = L2.length := (by rw [hfull, List.length_map]); omega) (expR_lt fun x hx => by
        rw [List.mem_append, List.mem_singleton] at hx
        rcases hx with hx | hx
        · exact hF.lt x hx
        · rw [hx]; exact hF.nm)
      rw [show (mkB fun i => decide (i ∈ expR (l ++ [(n, n)]))) = V by rw [hend.1]; exact mkB_congr fun i => expR_mem _ i] at hof
      refine W_mv (Mv.frz_acc (id := k) (s := 1) (l := L2) 4 rfl (by rw [accIn_self]; trivial)) ?_
      refine W_mv (Mv_tmp 4 rfl hle) ?_
      refine rR ?_ <;> first | exact hdT | apply zN
      refine wl ?_ <;> and_intros <;> first | exact hdT | (apply zM; (repeat intro ht); apply zM; (repeat intro hg); apply zM)
      refine cl [.ret (.lit (.int .u64 V))] ?_ <;> and_intros <;> first | exact hdT | (apply zM; (repeat intro ht); apply zM; (repeat intro hg); apply zM)
      refine wl ?_ <;> and_intros <;> first | exact hdT | (apply zM; (repeat intro ht); apply zM; (repeat intro hg); apply zM)
      refine C_ret rfl ⟨_, rfl, VLe.of_eq ?_⟩
      rw [hend.2]
end Go.Proofs.T
end
section
namespace Go.AM
open Go
section
variable {P : Program} {Γ : List (Nat × List AVal)}
theorem Tr_lend {f : FuncId} {k : Nat} {args args' : List AVal} {r : AVal} {Hc : Heap} (hb : BorL Γ Hc args args') (hp : Pure P Γ f args' r) : Tr P Γ f k args Hc (fun k1 r1 H1 => k1 = k ∧ r1 = r ∧ H1 = []) := by
  intro A hA w G ρ cargs hrel hvs
  have hH : Holds Hc (ofHeap Hc A) A := fun id B h => ⟨A, by simp [ofHeap, h], fun _ h => h⟩
  have hVs1 : Vs w (fun b => G b ∨ owned ρ b) noNames A args' cargs := ⟨by rw [← hb.len]; exact hvs.1, fun j v' hj => by
    obtain ⟨v, h1, h2⟩ := hb.get j v' hj
    exact (h2 w G ρ _ A _ hrel hH (hvs.2 j v h1)).mono (fun b h => h.imp id fun ⟨id, B, s, _, h4⟩ => ⟨id, s, h4⟩) (fun _ _ => rfl) (fun _ _ => rfl) (fun _ h => h.elim) (fun _ h => h.elim)⟩
  refine (hp k A hA w _ noNames cargs hrel.fz hVs1).mono ?_
  rintro e w' ⟨cv, G', ρ', k', r', H', rfl, ⟨rfl, rfl, rfl⟩, hk, hrel', hV, hst⟩
  exact ⟨cv, G', ρ', k', r', [], rfl, ⟨rfl, rfl, rfl⟩, hk, hrel', hV, ⟨hst.size, fun b hb _ => hst.keep b hb (fun ⟨_, _, h⟩ => by cases h), hst.shape, fun b h => hst.g b (.inl h),
    fun b h => (hst.g' b h).elim (fun h => h.elim .inl fun h => .inr (.inl h)) (fun h => h.elim (fun ⟨_, _, h⟩ => by cases h) fun h => .inr (.inr h)),
    fun b h => (hst.own b h).elim (fun ⟨_, _, h⟩ => by cases h) .inr, fun id h => (hst.ids id h).elim .inl .inl, hst.os, hst.tape, hst.output⟩⟩
theorem Bor.lit0 {Hc : Heap} {u : Value} : Bor Γ Hc (.lit u) (.lit u) := Bor.clean rfl
end
end Go.AM
namespace Go.Proofs.T
open Go Go.AM Go.Proofs Go.Lib
set_option maxRecDepth 20000
variable {Γ : List (Nat × List AVal)}
def lnW (w : List UInt8) (ws : List (List UInt8)) : List UInt8 := ws.foldl (fun a x => a ++ 32 :: x) w
theorem lnW_snoc (w : List UInt8) (ws : List (List UInt8)) (x : List UInt8) : lnW w (ws ++ [x]) = lnW w ws ++ 32 :: x := by unfold lnW; rw [List.foldl_append]; rfl
theorem lnW_jn : ∀ (ws : List (List UInt8)) (w : List UInt8), lnW w ws = jn (w :: ws)
  | [], w => rfl
  | x :: ws, w => by
    have h1 : lnW w (x :: ws) = lnW (w ++ 32 :: x) ws := rfl
    rw [h1, lnW_jn ws, jn]
    cases ws with
    | nil => simp [jn]
    | cons y r => simp [jn, List.append_assoc]
theorem lnW_len : ∀ (ws : List (List UInt8)) (w : List UInt8) (m : Nat), (∀ x ∈ ws, x.length ≤ m) → (lnW w ws).length ≤ w.length + ws.length * (m + 1)
  | [], w, m, _ => by simp [lnW]
  | x :: ws, w, m, h => by
    have h1 : lnW w (x :: ws) = lnW (w ++ 32 :: x) ws := rfl
    have h2 := lnW_len ws (w ++ 32 :: x) m (fun y hy => h y (List.mem_cons_of_mem _ hy))
    have h3 := h x (by simp)
    rw [h1]; simp only [List.length_append, List.length_cons, Nat.add_mul, Nat.one_mul] at h2 ⊢; omega
theorem take_succ_map {α β : Type} (f : α → β) (z : α) (l : List α) {j : Nat} (h : j < l.length) : (l.take (j + 1)).map f = (l.take j).map f ++ [f (l.getD j z)] := by
  rw [← List.take_append_getElem h, List.map_append]; simp [List.getD, h]
theorem line_c (hG : GT Γ) (w : List UInt8) (hw : w.length ≤ 10000) (vs : List Int) (hv : vs.length ≤ 100) (hr : ∀ x ∈ vs, I64 x) : AM.Pure Tryz.prog Γ 146 [.lit (.string (ByteArray.mk w.toArray)), .rd 1 vs.length (fun i => [.lit (.int .i64 (vs.getD i 0))])] (.lit (.string (ByteArray.mk (lnW w (vs.map itoa)).toArray))) := by
  obtain ⟨X, eX⟩ : ∃ X, X = lnW w (vs.map itoa) := ⟨_, rfl⟩
  rw [← eX]
  refine Pure_at Tryz.func146 rfl 20 rfl (Nat.le_of_ble_eq_true rfl) rfl fun k => ?_
  have kp : Kp [0,1,4,6,7,8,9,10] (fun i => i - k) := kpI
  refine wl ?_ <;> and_intros <;> first | exact hdT | (apply zM; (repeat intro ht); apply zM; (repeat intro hg); apply zM)
  refine M_forO (X := Nat) rfl [0,1,4,6,7,8,9,10] k (fun j => [(9, .lit (.int .i64 (j : Int))), (0, .lit (.string (ByteArray.mk (lnW w ((vs.take j).map itoa)).toArray)))]) (fun j => []) (fun j => j ≤ vs.length) (fun j => vs.length - j) 0 ?_ (Nat.zero_le _) ?_
  · rw [show lnW w ((vs.take 0).map itoa) = w from rfl]
    refine rR ?_ <;> first | exact hdT | apply zN
    exact wkF
  intro j hj
  obtain ⟨A, eA, hA⟩ : ∃ A, A = lnW w ((vs.take j).map itoa) ∧ A.length ≤ 20000 := ⟨_, rfl, by
    have := lnW_len ((vs.take j).map itoa) w 20 (fun x hx => by
      obtain ⟨y, hy, rfl⟩ := List.mem_map.1 hx
      exact itoa_len' (hr y (List.mem_of_mem_take hy)))
    rw [List.length_map, List.length_take] at this
    have h2 : min j vs.length * (20 + 1) ≤ 100 * 21 := Nat.mul_le_mul (by omega) (by omega)
    omega⟩
  rw [← eA]
  refine rR ?_ <;> first | exact hdT | apply zN
  by_cases hlt : j < vs.length
  · obtain ⟨x, ex, hx⟩ : ∃ x, x = vs.getD j 0 ∧ I64 x := ⟨_, rfl, hr _ (by rw [List.getD_eq_getElem?_getD, List.getElem?_eq_getElem hlt]; exact List.getElem_mem hlt)⟩
    have hi := itoa_c hG x hx.1 hx.2
    have hil := itoa_len' hx
    obtain ⟨I, eI⟩ : ∃ I, I = itoa x := ⟨_, rfl⟩
    rw [← eI] at hi hil
    have uU := Eq.symm (ex)
    refine wl ?_ <;> and_intros <;> first | exact hdT | (apply zM; (repeat intro ht); apply zM; (repeat intro hg); apply zM)
    refine cl [.ret (.lit (.string (ByteArray.mk I.toArray)))] ?_ <;> and_intros <;> first | exact hdT | (apply zM; (repeat intro ht); apply zM; (repeat intro hg); apply zM)
    refine wl ?_ <;> and_intros <;> first | exact hdT | (apply zM; (repeat intro ht); apply zM; (repeat intro hg); apply zM)
    refine ⟨j + 1, by omega, by omega, ?_⟩
    rw [take_succ_map itoa 0 vs hlt, lnW_snoc, ← eA, ← ex, ← eI, show ((j + 1 : Nat) : Int) = (j : Int) + 1 by omega]
    exact Mv.wk (wk_low (by omega) (by simp -dsimp -implicitDefEqProofs only [go_sem, ← ex, List.map_append, Flt.row, eq_self, ↓reduceIte]) (by simp -dsimp -implicitDefEqProofs only [go_sem, ← ex, List.map_append, Flt.row, eq_self, ↓reduceIte]) (by simp -dsimp -implicitDefEqProofs only [go_sem, ← ex, List.map_append, Flt.row, eq_self, ↓reduceIte]) (by simp -dsimp -implicitDefEqProofs only [go_sem, ← ex, List.map_append, Flt.row, eq_self, ↓reduceIte]))
  ·
    refine wl ?_ <;> and_intros <;> first | exact hdT | (apply zM; (repeat intro ht); apply zM; (repeat intro hg); apply zM)
    refine C_ret rfl ⟨_, rfl, VLe.of_eq ?_⟩
    rw [eA, eX, List.take_of_length_le (by omega)]
theorem line_g (hG : GT Γ) (k id : Nat) (w : List UInt8) (hw : w.length ≤ 10000) (vs : List Int) (hv : vs.length ≤ 100) (hr : ∀ x ∈ vs, I64 x) : AM.Tr Tryz.prog Γ 146 k [.lit (.string (ByteArray.mk w.toArray)), .sl id 0 vs.length] [(id, ⟨1, true, vs.map fun x => [.lit (.int .i64 x)]⟩)]
    (fun k1 r1 H1 => k1 = k ∧ r1 = .lit (.string (ByteArray.mk (lnW w (vs.map itoa)).toArray)) ∧ H1 = []) := by
  refine Tr_lend (.cons Bor.lit0 (.cons ?_ .nil)) (line_c hG w hw vs hv hr)
  refine Bor.sl (B := ⟨1, true, vs.map fun x => [.lit (.int .i64 x)]⟩) (by simp [AM.look]) (by simp) (fun i hi => rfl) (fun i row j v v' hi h1 h2 h3 => ?_)
  rw [Nat.zero_add, List.getElem?_map, List.getElem?_eq_getElem hi] at h1
  simp only [Option.map_some, Option.some.injEq] at h1
  rw [← h1] at h2
  have e : vs.getD i 0 = vs[i] := by simp [List.getD, hi]
  rw [e, h2] at h3
  cases h3
  match j with
  | 0 => cases h2; exact Bor.lit0
  | j + 1 => simp at h2
theorem long_c (hG : GT Γ) (x : Int) (hx : U64 x) : AM.Pure Tryz.prog Γ 148 [.lit (.int .u64 x)] (.lit (.string (ByteArray.mk (32 :: fmt x).toArray))) := by
  have hl := fmt_len hx
  have hf := fmt_c hG x.toNat (by have := hx.1; have := hx.2; omega)
  rw [show ((x.toNat : Nat) : Int) = x by have := hx.1; omega] at hf
  obtain ⟨F, eF⟩ : ∃ F, F = fmt x := ⟨_, rfl⟩
  have hf : AM.Pure Tryz.prog Γ 219 [.lit (.int .u64 x), .lit (.int .i64 10)] (.lit (.string (ByteArray.mk F.toArray))) := by rw [eF]; exact hf
  rw [← eF] at hl ⊢
  refine Pure_at Tryz.func148 rfl 6 rfl (Nat.le_of_ble_eq_true rfl) rfl fun k => ?_
  have kp : Kp [0,2] (fun i => i - k) := kpI
  refine wl ?_ <;> and_intros <;> first | exact hdT | (apply zM; (repeat intro ht); apply zM; (repeat intro hg); apply zM)
  refine cl [.ret (.lit (.string (ByteArray.mk F.toArray)))] ?_ <;> and_intros <;> first | exact hdT | (apply zM; (repeat intro ht); apply zM; (repeat intro hg); apply zM)
  refine wl ?_ <;> and_intros <;> first | exact hdT | (apply zM; (repeat intro ht); apply zM; (repeat intro hg); apply zM)
  refine C_ret rfl ⟨_, rfl, VLe.of_eq ?_⟩
  rfl
theorem add_c (k O id : Nat) (hO : O < k) (hid : id < k) (hne : O ≠ id) (l : List (List AVal)) (hl : l.length ≤ 100000) (s : List UInt8) :
    AM.Tr Tryz.prog Γ 145 k [.lit (.string (ByteArray.mk s.toArray)), .ptr O 0 0] (accH id 1 l [(O, ⟨1, false, [[accV id l]]⟩)]) (fun k1 r1 H1 => k1 = k + 2 ∧ r1 = .tup [] ∧ H1 = [(k + 1, ⟨1, true, l ++ [[.lit (.string (ByteArray.mk s.toArray))]]⟩), (O, ⟨1, false, [[.sl (k + 1) 0 (l.length + 1)]]⟩)]) := by
  obtain ⟨a1, a2, a3, a4, a5, a6⟩ := old_name hO
  obtain ⟨b1, b2, b3, b4, b5, b6⟩ := old_name hid
  obtain ⟨d1, d2⟩ := two_names hne
  refine Tr_at Tryz.func145 rfl 7 rfl (Nat.le_of_ble_eq_true rfl) (W_upM ?_)
  have kp : Kp [0,1] (fun i => if i = O then 0 else if i = id then 1 else i - k + 2) := kpI
  have uU := zA @a1 (zA @a2 (zA @a3 (zA @a4 (zA @a5 (zA @a6 (zA @b1 (zA @b2 (zA @b3 (zA @b4 (zA @b5 (zA @b6 (zA @d1 @d2))))))))))))
  refine wl ?_ <;> and_intros <;> first | exact hdT | (apply zM; (repeat intro ht); apply zM; (repeat intro hg); apply zM)
  refine ⟨k + 2, [], _, ?_, _, rfl, rfl, rfl, rfl⟩
  (have uU := zA @a1 (zA @a2 (zA @a3 (zA @a4 (zA @a5 (zA @a6 (zA @b1 (zA @b2 (zA @b3 (zA @b4 (zA @b5 (zA @b6 (zA @d1 @d2)))))))))))); exact wkU)
end Go.Proofs.T
end
section
namespace Go.Proofs.T
open Go Go.AM Go.Proofs
set_option maxRecDepth 20000
variable {Γ : List (Nat × List AVal)}
attribute [local irreducible] putO del
def eqL (n m : Nat) (c : Nat → Bool) : Bool := decide (n = m) && !(anyB (fun i => !(c i)) n)
theorem eqL_no {n m : Nat} {c : Nat → Bool} (h : ¬ n = m) : eqL n m c = false := by unfold eqL; rw [decide_eq_false h]; rfl
theorem eqL_at {n m : Nat} {c : Nat → Bool} {i : Nat} (hi : i < n) (h : c i = false) : eqL n m c = false := by
  unfold eqL; rw [anyB_true (i := i) (by rw [h]; rfl) hi, Bool.not_true, Bool.and_false]
theorem eqL_yes {n m : Nat} {c : Nat → Bool} (h : n = m) (hc : ∀ i, i < n → c i = true) : eqL n m c = true := by
  unfold eqL; rw [decide_eq_true h, anyB_false (fun i hi => by rw [hc i hi]; rfl)]; rfl
def cV (x y : Int × Int) : Bool := x.1 == y.1 && x.2 == y.2
def cT (x y : Tk) : Bool := x.id == y.id && (x.group == y.group && (x.weight == y.weight && (x.cpu == y.cpu && (x.mask == y.mask && (x.ready == y.ready && (x.v == y.v && x.r == y.r))))))
def cP (x y : Int × Int × Sp) : Bool := x.1 == y.1 && (x.2.1 == y.2.1 && (x.2.2.v == y.2.2.v && (x.2.2.r == y.2.2.r && x.2.2.floor == y.2.2.floor)))
theorem cV_iff {x y : Int × Int} : cV x y = true ↔ x = y := by
  obtain ⟨a, b⟩ := x; obtain ⟨c, d⟩ := y; simp [cV]
theorem cT_iff {x y : Tk} : cT x y = true ↔ x = y := by
  cases x; cases y; simp [cT]
theorem cP_iff {x y : Int × Int × Sp} : cP x y = true ↔ x = y := by
  obtain ⟨a, b, ⟨v, r, f⟩⟩ := x; obtain ⟨a', b', ⟨v', r', f'⟩⟩ := y; simp [cP]
theorem list_i (n m : Nat) (hn : n ≤ 100000) (hm : m ≤ 100000) (f g : Nat → Int) : AM.Pure Tryz.prog Γ 72 [.rd 1 n (fun i => [.lit (.int .i64 (f i))]), .rd 1 m (fun i => [.lit (.int .i64 (g i))])] (.lit (.bool (eqL n m (fun i => f i == g i)))) := by
  refine Pure_at Tryz.func72 rfl 26 rfl (Nat.le_of_ble_eq_true rfl) rfl fun k => ?_
  obtain ⟨E, eE⟩ : ∃ E, E = eqL n m (fun i => f i == g i) := ⟨_, rfl⟩
  rw [← eE]
  have kp : Kp [0,1,4,5,10,12,13,14,24] (fun i => i - k) := kpI
  refine wl ?_ <;> and_intros <;> first | exact hdT | (apply zM; (repeat intro ht); apply zM; (repeat intro hg); apply zM)
  · refine C_ret rfl ⟨_, rfl, VLe.of_eq ?_⟩
    rw [eE, eqL_no (by omega)]
  refine M_forO (X := Nat) rfl [0,1,4,5,10,12,13,14,24] k (fun i => [(13, .lit (.int .i64 (i : Int)))]) (fun i => []) (fun i => i ≤ n ∧ ∀ j, j < i → (f j == g j) = true) (fun i => n - i) 0 ?_ ⟨Nat.zero_le _, fun j hj => absurd hj (Nat.not_lt_zero _)⟩ ?_
  · refine rR ?_ <;> first | exact hdT | apply zN
    exact wkF
  rintro i ⟨hi, hall⟩
  refine rR ?_ <;> first | exact hdT | apply zN
  refine wl ?_ <;> and_intros <;> first | exact hdT | (apply zM; (repeat intro ht); apply zM; (repeat intro hg); apply zM)
  · refine C_ret rfl ⟨_, rfl, VLe.of_eq ?_⟩
    rw [eE, eqL_at (i := i) (by omega) (by first | (rw [Bool.eq_false_iff]; simp at ht ⊢; omega) | (simpa using ht))]
  · refine ⟨i + 1, ⟨by omega, fun j hj => ?_⟩, by omega, ?_⟩
    · by_cases he : j = i
      · subst he; first | (simp; omega) | (simpa using ht)
      · exact hall j (by omega)
    · exact wkF
  · refine C_ret rfl ⟨_, rfl, VLe.of_eq ?_⟩
    rw [eE, eqL_yes (by omega) (fun j hj => hall j (by omega))]
attribute [local go_sem] vlR tR pR
theorem list_v (n m : Nat) (hn : n ≤ 100000) (hm : m ≤ 100000) (f g : Nat → Int × Int) : AM.Pure Tryz.prog Γ 71 [.rd 2 n (fun i => vlR (f i)), .rd 2 m (fun i => vlR (g i))] (.lit (.bool (eqL n m (fun i => cV (f i) (g i))))) := by
  refine Pure_at Tryz.func71 rfl 26 rfl (Nat.le_of_ble_eq_true rfl) rfl fun k => ?_
  obtain ⟨E, eE⟩ : ∃ E, E = eqL n m (fun i => cV (f i) (g i)) := ⟨_, rfl⟩
  rw [← eE]
  have kp : Kp [0,1,4,5,10,12,13,14,24] (fun i => i - k) := kpI
  refine wl ?_ <;> and_intros <;> first | exact hdT | (apply zM; (repeat intro ht); apply zM; (repeat intro hg); apply zM)
  · refine C_ret rfl ⟨_, rfl, VLe.of_eq ?_⟩
    rw [eE, eqL_no (by omega)]
  refine M_forO (X := Nat) rfl [0,1,4,5,10,12,13,14,24] k (fun i => [(13, .lit (.int .i64 (i : Int)))]) (fun i => []) (fun i => i ≤ n ∧ ∀ j, j < i → (cV (f j) (g j)) = true) (fun i => n - i) 0 ?_ ⟨Nat.zero_le _, fun j hj => absurd hj (Nat.not_lt_zero _)⟩ ?_
  · refine rR ?_ <;> first | exact hdT | apply zN
    exact wkF
  rintro i ⟨hi, hall⟩
  refine rR ?_ <;> first | exact hdT | apply zN
  refine wl ?_ <;> and_intros <;> first | exact hdT | (apply zM; (repeat intro ht); apply zM; (repeat intro hg); apply zM)
  · refine C_ret rfl ⟨_, rfl, VLe.of_eq ?_⟩
    rw [eE, eqL_at (i := i) (by omega) (by first | (rw [Bool.eq_false_iff]; simp [cV] at ht ⊢; omega) | (simpa [cV] using ht))]
  · refine ⟨i + 1, ⟨by omega, fun j hj => ?_⟩, by omega, ?_⟩
    · by_cases he : j = i
      · subst he; first | (simp [cV]; omega) | (simpa [cV] using ht)
      · exact hall j (by omega)
    · exact wkF
  · refine C_ret rfl ⟨_, rfl, VLe.of_eq ?_⟩
    rw [eE, eqL_yes (by omega) (fun j hj => hall j (by omega))]
set_option maxHeartbeats 1000000 in
theorem list_t (n m : Nat) (hn : n ≤ 100000) (hm : m ≤ 100000) (f g : Nat → Tk) : AM.Pure Tryz.prog Γ 73 [.rd 8 n (fun i => tR (f i)), .rd 8 m (fun i => tR (g i))] (.lit (.bool (eqL n m (fun i => cT (f i) (g i))))) := by
  refine Pure_at Tryz.func73 rfl 26 rfl (Nat.le_of_ble_eq_true rfl) rfl fun k => ?_
  obtain ⟨E, eE⟩ : ∃ E, E = eqL n m (fun i => cT (f i) (g i)) := ⟨_, rfl⟩
  rw [← eE]
  have kp : Kp [0,1,4,5,10,12,13,14,24] (fun i => i - k) := kpI
  refine wl ?_ <;> and_intros <;> first | exact hdT | (apply zM; (repeat intro ht); apply zM; (repeat intro hg); apply zM)
  · refine C_ret rfl ⟨_, rfl, VLe.of_eq ?_⟩
    rw [eE, eqL_no (by omega)]
  refine M_forO (X := Nat) rfl [0,1,4,5,10,12,13,14,24] k (fun i => [(13, .lit (.int .i64 (i : Int)))]) (fun i => []) (fun i => i ≤ n ∧ ∀ j, j < i → (cT (f j) (g j)) = true) (fun i => n - i) 0 ?_ ⟨Nat.zero_le _, fun j hj => absurd hj (Nat.not_lt_zero _)⟩ ?_
  · refine rR ?_ <;> first | exact hdT | apply zN
    exact wkF
  rintro i ⟨hi, hall⟩
  refine rR ?_ <;> first | exact hdT | apply zN
  refine wl ?_ <;> and_intros <;> first | exact hdT | (apply zM; (repeat intro ht); apply zM; (repeat intro hg); apply zM)
  · refine C_ret rfl ⟨_, rfl, VLe.of_eq ?_⟩
    rw [eE, eqL_at (i := i) (by omega) (by first | (rw [Bool.eq_false_iff]; simp [cT] at ht ⊢; omega) | (simpa [cT] using ht))]
  · refine ⟨i + 1, ⟨by omega, fun j hj => ?_⟩, by omega, ?_⟩
    · by_cases he : j = i
      · subst he; first | (simp [cT]; omega) | (simpa [cT] using ht)
      · exact hall j (by omega)
    · exact wkF
  · refine C_ret rfl ⟨_, rfl, VLe.of_eq ?_⟩
    rw [eE, eqL_yes (by omega) (fun j hj => hall j (by omega))]
def eP (x y : Int × Int × Sp) : Bool := x.1 == y.1 && (x.2.1 == y.2.1 && ((x.2.2.v == y.2.2.v && (x.2.2.r == y.2.2.r && (x.2.2.floor == y.2.2.floor && true))) && true))
theorem eP_cP (x y : Int × Int × Sp) : eP x y = cP x y := by simp [eP, cP]
theorem place_ne {o : Oper} {ev : Operand → Option AVal} {get : Nat → Option Blk} {k ty : Nat} {x y : Operand} {u v : Int × Int × Sp} (ho : o.op = .binOp .neq 93 x y ty) (hx : ev x = some (.agg (pR u))) (hy : ev y = some (.agg (pR v))) :
    AM.Good Tryz.prog Γ o ev get k ⟨.lit (.bool (!(cP u v))), k, [], []⟩ := by
  rw [← eP_cP]
  exact eqS_good (neg := true) (offs := [.one 0 0, .one 1 0, .sub 2 3 [(0, 0), (1, 0), (2, 0)]]) ho Tryz.underlying93 (by kernel_rfl) (by kernel_rfl) (by kernel_rfl) (by kernel_rfl) hx hy rfl rfl rfl
theorem list_p (n m : Nat) (hn : n ≤ 100000) (hm : m ≤ 100000) (f g : Nat → Int × Int × Sp) : AM.Pure Tryz.prog Γ 74 [.rd 5 n (fun i => pR (f i)), .rd 5 m (fun i => pR (g i))] (.lit (.bool (eqL n m (fun i => cP (f i) (g i))))) := by
  refine Pure_at Tryz.func74 rfl 26 rfl (Nat.le_of_ble_eq_true rfl) rfl fun k => ?_
  obtain ⟨E, eE⟩ : ∃ E, E = eqL n m (fun i => cP (f i) (g i)) := ⟨_, rfl⟩
  rw [← eE]
  have kp : Kp [0,1,4,5,10,12,13,14,24] (fun i => i - k) := kpI
  refine wl ?_ <;> and_intros <;> first | exact hdT | (apply zM; (repeat intro ht); apply zM; (repeat intro hg); apply zM)
  · refine C_ret rfl ⟨_, rfl, VLe.of_eq ?_⟩
    rw [eE, eqL_no (by omega)]
  refine M_forO (X := Nat) rfl [0,1,4,5,10,12,13,14,24] k (fun i => [(13, .lit (.int .i64 (i : Int)))]) (fun i => []) (fun i => i ≤ n ∧ ∀ j, j < i → (cP (f j) (g j)) = true) (fun i => n - i) 0 ?_ ⟨Nat.zero_le _, fun j hj => absurd hj (Nat.not_lt_zero _)⟩ ?_
  · refine rR ?_ <;> first | exact hdT | apply zN
    exact wkF
  rintro i ⟨hi, hall⟩
  refine rR ?_ <;> first | exact hdT | apply zN
  obtain ⟨z, ez⟩ : ∃ z, z = cP (f i) (g i) := ⟨_, rfl⟩
  refine C_seq rfl ?_; (refine S_reg0 rfl [0,1,4,5,10,12,13,14,24] rfl rfl (fun K hK => ?_)); simp -dsimp -implicitDefEqProofs only [go_sem, eq_self, ↓reduceIte]; (refine hK _ _ _ _ (fun hx => ?_)); clear hx hK; simp -dsimp -implicitDefEqProofs only [go_sem, eq_self, ↓reduceIte]; clear K
  refine C_seq rfl ?_
  refine C_cond rfl _ rfl (fun ht => ?_) (fun ht => ?_)
  · simp only [nf] at ht
    refine C_skip rfl ?_
    refine rR ?_ <;> first | exact hdT | apply zN
    refine C_seq rfl ?_
    refine C_block rfl ?_
    refine C_seq rfl ?_; (refine S_reg0 rfl [0,1,4,5,10,12,13,14,24] rfl rfl (fun K hK => ?_)); simp -dsimp -implicitDefEqProofs only [go_sem, eq_self, ↓reduceIte]; (refine hK _ _ _ _ (fun hx => ?_)); clear hx hK; simp -dsimp -implicitDefEqProofs only [go_sem, eq_self, ↓reduceIte]; clear K
    refine C_seq rfl ?_
    refine dl [.raw (some 24) ⟨.lit (.bool (!z)), k, [], []⟩] ?_ <;> and_intros <;> first | exact hdT | (apply zM; (repeat intro ht); apply zM; (repeat intro hg); apply zM)
    · rw [ez]; exact place_ne rfl rfl rfl
    refine wl ?_ <;> and_intros <;> first | exact hdT | (apply zM; (repeat intro ht); apply zM; (repeat intro hg); apply zM)
    · refine C_ret rfl ⟨_, rfl, VLe.of_eq ?_⟩
      rw [eE, eqL_at (i := i) (by omega) (by rw [← ez]; simp_all)]
    · refine ⟨i + 1, ⟨by omega, fun j hj => ?_⟩, by omega, ?_⟩
      · by_cases he : j = i
        · subst he; rw [← ez]; simp_all
        · exact hall j (by omega)
      · exact wkF
  · simp only [nf] at ht
    refine C_exit rfl ?_
    refine rR ?_ <;> first | exact hdT | apply zN
    refine wl ?_ <;> and_intros <;> first | exact hdT | (apply zM; (repeat intro ht); apply zM; (repeat intro hg); apply zM)
    refine C_ret rfl ⟨_, rfl, VLe.of_eq ?_⟩
    rw [eE, eqL_yes (by omega) (fun j hj => hall j (by omega))]
attribute [-go_sem] vlR tR pR
structure DE where
  (n0 n1 n2 n3 n4 n5 : Nat)
  (ck cu wg : Nat → Int × Int)
  (gn : Nat → Int)
  (tk : Nat → Tk)
  (sp : Nat → Int × Int × Sp)
def DE.f0 (d : DE) (i : Nat) : List AVal := [.lit (.int .i64 (d.ck i).1), .lit (.int .i64 (d.ck i).2)]
def DE.f1 (d : DE) (i : Nat) : List AVal := [.lit (.int .i64 (d.cu i).1), .lit (.int .i64 (d.cu i).2)]
def DE.f2 (d : DE) (i : Nat) : List AVal := [.lit (.int .i64 (d.wg i).1), .lit (.int .i64 (d.wg i).2)]
def DE.f3 (d : DE) (i : Nat) : List AVal := [.lit (.int .i64 (d.gn i))]
def DE.f4 (d : DE) (i : Nat) : List AVal := [.lit (.int .i64 (d.tk i).id), .lit (.int .i64 (d.tk i).group), .lit (.int .i64 (d.tk i).weight), .lit (.int .i64 (d.tk i).cpu), .lit (.int .u64 (d.tk i).mask), .lit (.bool (d.tk i).ready), .lit (.int .u64 (d.tk i).v), .lit (.int .u32 (d.tk i).r)]
def DE.f5 (d : DE) (i : Nat) : List AVal := [.lit (.int .i64 (d.sp i).1), .lit (.int .i64 (d.sp i).2.1), .lit (.int .u64 (d.sp i).2.2.v), .lit (.int .u32 (d.sp i).2.2.r), .lit (.int .u64 (d.sp i).2.2.floor)]
attribute [go_sem] DE.f0 DE.f1 DE.f2 DE.f3 DE.f4 DE.f5
def DE.cells (d : DE) : List AVal := [.rd 2 d.n0 d.f0, .rd 2 d.n1 d.f1, .rd 2 d.n2 d.f2, .rd 1 d.n3 d.f3, .rd 8 d.n4 d.f4, .rd 5 d.n5 d.f5]
def DE.size (d : DE) : Nat := d.n0 + d.n1 + d.n2 + d.n3 + d.n4 + d.n5
attribute [go_sem] DE.cells
def eqD (d e : DE) : Bool := eqL d.n0 e.n0 (fun i => cV (d.ck i) (e.ck i)) && (eqL d.n1 e.n1 (fun i => cV (d.cu i) (e.cu i)) && (eqL d.n2 e.n2 (fun i => cV (d.wg i) (e.wg i)) && (eqL d.n3 e.n3 (fun i => d.gn i == e.gn i) && (eqL d.n4 e.n4 (fun i => cT (d.tk i) (e.tk i)) && eqL d.n5 e.n5 (fun i => cP (d.sp i) (e.sp i))))))
theorem equal_d (d e : DE) (hd : d.size ≤ 100000) (he : e.size ≤ 100000) : AM.Pure Tryz.prog Γ 23 [.agg d.cells, .agg e.cells] (.lit (.bool (eqD d e))) := by
  unfold DE.size at hd he
  refine Pure_at Tryz.func23 rfl 45 rfl (Nat.le_of_ble_eq_true rfl) rfl fun k => ?_
  obtain ⟨E, eE⟩ : ∃ E, E = eqD d e := ⟨_, rfl⟩
  rw [← eE]
  obtain ⟨z0, h0⟩ : ∃ z, z = eqL d.n0 e.n0 (fun i => cV (d.ck i) (e.ck i)) := ⟨_, rfl⟩
  obtain ⟨z1, h1⟩ : ∃ z, z = eqL d.n1 e.n1 (fun i => cV (d.cu i) (e.cu i)) := ⟨_, rfl⟩
  obtain ⟨z2, h2⟩ : ∃ z, z = eqL d.n2 e.n2 (fun i => cV (d.wg i) (e.wg i)) := ⟨_, rfl⟩
  obtain ⟨z3, h3⟩ : ∃ z, z = eqL d.n3 e.n3 (fun i => d.gn i == e.gn i) := ⟨_, rfl⟩
  obtain ⟨z4, h4⟩ : ∃ z, z = eqL d.n4 e.n4 (fun i => cT (d.tk i) (e.tk i)) := ⟨_, rfl⟩
  obtain ⟨z5, h5⟩ : ∃ z, z = eqL d.n5 e.n5 (fun i => cP (d.sp i) (e.sp i)) := ⟨_, rfl⟩
  rw [eqD, ← h0, ← h1, ← h2, ← h3, ← h4, ← h5] at eE
  have kp : Kp [0,1,2,3,4] (fun i => i - k) := kpI
  refine wl ?_ <;> and_intros <;> first | exact hdT | (apply zM; (repeat intro ht); apply zM; (repeat intro hg); apply zM)
  refine cl [.ret (.lit (.bool z0)), .ret (.lit (.bool z1)), .ret (.lit (.bool z2)), .ret (.lit (.bool z3)), .ret (.lit (.bool z4)), .ret (.lit (.bool z5))] ?_ <;> and_intros <;> first | exact hdT | (apply zM; (repeat intro ht); apply zM; (repeat intro hg); apply zM)
  all_goals (first | (rw [h0]; exact list_v d.n0 e.n0 (by omega) (by omega) d.ck e.ck) | (rw [h1]; exact list_v d.n1 e.n1 (by omega) (by omega) d.cu e.cu) | (rw [h2]; exact list_v d.n2 e.n2 (by omega) (by omega) d.wg e.wg) | (rw [h3]; exact list_i d.n3 e.n3 (by omega) (by omega) d.gn e.gn) | (rw [h4]; exact list_t d.n4 e.n4 (by omega) (by omega) d.tk e.tk) | (rw [h5]; exact list_p d.n5 e.n5 (by omega) (by omega) d.sp e.sp) | skip)
  all_goals (refine C_ret rfl ⟨_, rfl, VLe.of_eq ?_⟩; rw [eE]; simp_all)
end Go.Proofs.T
end
section
namespace Go.Proofs.T
open Go Go.AM Go.Proofs
set_option maxRecDepth 20000
variable {Γ : List (Nat × List AVal)}
attribute [local irreducible] putO del
attribute [local go_sem] tR
end Go.Proofs.T
end
section
namespace Go.Proofs.T
open Go Go.AM Go.Proofs
set_option maxRecDepth 20000
variable {Γ : List (Nat × List AVal)}
attribute [local irreducible] putO del
theorem keepH_acc {H r : Heap} {id j s : Nat} {l : List (List AVal)} (h : j ≠ id) : keepH H id (accH j s l r) = (accIn H j s l ∧ keepH H id r) := by
  cases l with
  | nil => simp [accH, accIn]
  | cons x l => simp [accH, keepH, accIn, h]
attribute [go_sem] keepH_acc
end Go.Proofs.T
end
section
namespace Go.Proofs.T
open Go Go.AM Go.Proofs
set_option maxRecDepth 20000
variable {Γ : List (Nat × List AVal)}
attribute [local irreducible] putO del
def cpL (f : Nat → List AVal) (i : Nat) : List (List AVal) := (List.range i).map f
theorem cpL_zero (f : Nat → List AVal) : cpL f 0 = [] := rfl
theorem cpL_succ (f : Nat → List AVal) (i : Nat) : cpL f (i + 1) = cpL f i ++ [f i] := range_snoc
theorem cpL_len (f : Nat → List AVal) (i : Nat) : (cpL f i).length = i := by simp [cpL]
theorem cpL_le (s : Nat) (f : Nat → List AVal) (n : Nat) : VLe (rows s (cpL f n)) (.rd s n f) := by
  rw [rows, cpL_len]; exact VLe.copy' _ _ _
attribute [go_sem] cpL_len
set_option maxHeartbeats 4000000 in
theorem turned2 (d : DE) (hd : d.size ≤ 100000) (k : Nat) (Q : AQ) (hQ : ∀ k1 fr H, AM.look fr 2 = some (.ptr (k + 1) 0 0) → AM.look H (k + 1) = some ⟨6, true, [d.cells]⟩ → Q .ret k1 fr H) :
    W Tryz.prog Γ 78 k (cat (bodyOf Tryz.f19) [0, 1, 0, 1, 1]) (blockQ 0 (thenQ (W Tryz.prog Γ 78 k (cat (bodyOf Tryz.f19) [1, 1, 1]) Q) Q)) (k + 7) [(24, .lit (.int .i64 0)), (23, .lit (.int .i64 (d.n0 : Int))), (22, .rd 2 d.n0 d.f0), (3, .ptr (k + 4) 0 0), (2, .ptr (k + 1) 0 0), (1, .ptr k 0 0)] [(k + 4, ⟨6, true, [[.lit (.slice none 0 0), .lit (.slice none 0 0), .lit (.slice none 0 0), .rd 1 d.n3 d.f3, .rd 8 d.n4 d.f4, .lit (.slice none 0 0)]]⟩), (k + 1, ⟨6, true, [[.lit (.slice none 0 0), .lit (.slice none 0 0), .lit (.slice none 0 0), .lit (.slice none 0 0), .lit (.slice none 0 0), .lit (.slice none 0 0)]]⟩), (k, ⟨6, true, [d.cells]⟩)] := by
  unfold DE.size at hd
  refine W_mv (Mv.impure (k + 4) (by simp -dsimp -implicitDefEqProofs only [go_sem, eq_self, ↓reduceIte]; rfl)) ?_
  refine rR ?_ <;> first | exact hdT | apply zN
  refine M_forO (X := Nat) rfl [0,1,2,3,5,7,9,11,22,23,24,25,36,37,38,39,50,51,52,53,64,65,66,67] (k + 8) (fun i => [(24, .lit (.int .i64 (i : Int)))]) (fun i => accH (k + 7) 2 (cpL d.f0 i) [(k + 4, ⟨6, false, [[accV (k + 7) (cpL d.f0 i), .lit (.slice none 0 0), .lit (.slice none 0 0), .rd 1 d.n3 d.f3, .rd 8 d.n4 d.f4, .lit (.slice none 0 0)]]⟩), (k + 1, ⟨6, true, [[.lit (.slice none 0 0), .lit (.slice none 0 0), .lit (.slice none 0 0), .lit (.slice none 0 0), .lit (.slice none 0 0), .lit (.slice none 0 0)]]⟩), (k, ⟨6, true, [d.cells]⟩)]) (fun i => i ≤ d.n0) (fun i => d.n0 - i) 0 ?_ (Nat.zero_le _) ?_
  · rw [cpL_zero]
    refine rR ?_ <;> first | exact hdT | apply zN
    exact wkF
  intro i hi
  obtain ⟨l, el, hl⟩ : ∃ x, x = cpL d.f0 i ∧ x.length = i := ⟨_, rfl, cpL_len _ _⟩
  rw [← el]
  refine rR ?_ <;> first | exact hdT | apply zN
  have kp : Kp [0,1,2,3,5,7,9,11,22,23,24,25,36,37,38,39,50,51,52,53,64,65,66,67] (fun i => i - k) := kpI
  refine wl ?_ <;> and_intros <;> first | exact hdT | (apply zM; (repeat intro ht); apply zM; (repeat intro hg); apply zM)
  · refine ⟨i + 1, by omega, by omega, ?_⟩
    rw [cpL_succ, ← el]
    refine rR ?_ <;> first | exact hdT | apply zN
    exact Mv.app (k + 10) (k + 7) ⟨by omega, by omega⟩ ⟨by omega, by omega⟩ (wk_low (by omega) (by simp -dsimp -implicitDefEqProofs only [go_sem, List.map_append, Flt.row, eq_self, ↓reduceIte]) (by simp -dsimp -implicitDefEqProofs only [go_sem, List.map_append, Flt.row, eq_self, ↓reduceIte]) (by simp -dsimp -implicitDefEqProofs only [go_sem, List.map_append, Flt.row, eq_self, ↓reduceIte]) (by simp -dsimp -implicitDefEqProofs only [go_sem, List.map_append, Flt.row, eq_self, ↓reduceIte]))
  have hin : i = d.n0 := by omega
  subst hin
  refine W_mv (Mv.frz_row (id := k + 7) (s := 2) (D := k + 4) (sz := 6) (l := l) (row := [accV (k + 7) l, .lit (.slice none 0 0), .lit (.slice none 0 0), .rd 1 d.n3 d.f3, .rd 8 d.n4 d.f4, .lit (.slice none 0 0)]) 0 (.rd 2 d.n0 d.f0) [(38, .lit (.int .i64 0)), (37, .lit (.int .i64 (d.n1 : Int))), (36, .rd 2 d.n1 d.f1), (3, .ptr (k + 4) 0 0), (2, .ptr (k + 1) 0 0), (1, .ptr k 0 0)] [(k + 1, ⟨6, true, [[.lit (.slice none 0 0), .lit (.slice none 0 0), .lit (.slice none 0 0), .lit (.slice none 0 0), .lit (.slice none 0 0), .lit (.slice none 0 0)]]⟩), (k, ⟨6, true, [d.cells]⟩)] (by omega) (by simp -dsimp -implicitDefEqProofs only [go_sem, List.map_append, Flt.row, eq_self, ↓reduceIte]) rfl (by simp -dsimp -implicitDefEqProofs only [go_sem, List.map_append, Flt.row, eq_self, ↓reduceIte]) (by rw [el]; exact cpL_le _ _ _) (by simp -dsimp -implicitDefEqProofs only [go_sem, List.map_append, Flt.row, eq_self, ↓reduceIte]) (by simp -dsimp -implicitDefEqProofs only [go_sem, List.map_append, Flt.row, eq_self, ↓reduceIte]) (by simp -dsimp -implicitDefEqProofs only [go_sem, List.map_append, Flt.row, eq_self, ↓reduceIte])) ?_
  refine W_mv (Mv.wk (k1 := k + 8) (fr1 := [(38, .lit (.int .i64 0)), (37, .lit (.int .i64 (d.n1 : Int))), (36, .rd 2 d.n1 d.f1), (3, .ptr (k + 4) 0 0), (2, .ptr (k + 1) 0 0), (1, .ptr k 0 0)]) (H1 := [(k + 4, ⟨6, false, [[.rd 2 d.n0 d.f0, .lit (.slice none 0 0), .lit (.slice none 0 0), .rd 1 d.n3 d.f3, .rd 8 d.n4 d.f4, .lit (.slice none 0 0)]]⟩), (k + 1, ⟨6, true, [[.lit (.slice none 0 0), .lit (.slice none 0 0), .lit (.slice none 0 0), .lit (.slice none 0 0), .lit (.slice none 0 0), .lit (.slice none 0 0)]]⟩), (k, ⟨6, true, [d.cells]⟩)]) (wk_low (by omega) (by simp -dsimp -implicitDefEqProofs only [go_sem, List.map_append, Flt.row, eq_self, ↓reduceIte]) (by simp -dsimp -implicitDefEqProofs only [go_sem, List.map_append, Flt.row, eq_self, ↓reduceIte]) (by simp -dsimp -implicitDefEqProofs only [go_sem, List.map_append, Flt.row, eq_self, ↓reduceIte]) (by simp -dsimp -implicitDefEqProofs only [go_sem, List.map_append, Flt.row, eq_self, ↓reduceIte]))) ?_
  clear el hl
  clear l
  refine rR ?_ <;> first | exact hdT | apply zN
  refine M_forO (X := Nat) rfl [0,1,2,3,5,7,9,11,22,23,24,25,36,37,38,39,50,51,52,53,64,65,66,67] (k + 9) (fun i => [(38, .lit (.int .i64 (i : Int)))]) (fun i => accH (k + 8) 2 (cpL d.f1 i) [(k + 4, ⟨6, false, [[.rd 2 d.n0 d.f0, accV (k + 8) (cpL d.f1 i), .lit (.slice none 0 0), .rd 1 d.n3 d.f3, .rd 8 d.n4 d.f4, .lit (.slice none 0 0)]]⟩), (k + 1, ⟨6, true, [[.lit (.slice none 0 0), .lit (.slice none 0 0), .lit (.slice none 0 0), .lit (.slice none 0 0), .lit (.slice none 0 0), .lit (.slice none 0 0)]]⟩), (k, ⟨6, true, [d.cells]⟩)]) (fun i => i ≤ d.n1) (fun i => d.n1 - i) 0 ?_ (Nat.zero_le _) ?_
  · rw [cpL_zero]
    refine rR ?_ <;> first | exact hdT | apply zN
    exact wkF
  intro i hi
  obtain ⟨l, el, hl⟩ : ∃ x, x = cpL d.f1 i ∧ x.length = i := ⟨_, rfl, cpL_len _ _⟩
  rw [← el]
  refine rR ?_ <;> first | exact hdT | apply zN
  refine wl ?_ <;> and_intros <;> first | exact hdT | (apply zM; (repeat intro ht); apply zM; (repeat intro hg); apply zM)
  · refine ⟨i + 1, by omega, by omega, ?_⟩
    rw [cpL_succ, ← el]
    refine rR ?_ <;> first | exact hdT | apply zN
    exact Mv.app (k + 11) (k + 8) ⟨by omega, by omega⟩ ⟨by omega, by omega⟩ (wk_low (by omega) (by simp -dsimp -implicitDefEqProofs only [go_sem, List.map_append, Flt.row, eq_self, ↓reduceIte]) (by simp -dsimp -implicitDefEqProofs only [go_sem, List.map_append, Flt.row, eq_self, ↓reduceIte]) (by simp -dsimp -implicitDefEqProofs only [go_sem, List.map_append, Flt.row, eq_self, ↓reduceIte]) (by simp -dsimp -implicitDefEqProofs only [go_sem, List.map_append, Flt.row, eq_self, ↓reduceIte]))
  have hin : i = d.n1 := by omega
  subst hin
  refine W_mv (Mv.frz_row (id := k + 8) (s := 2) (D := k + 4) (sz := 6) (l := l) (row := [.rd 2 d.n0 d.f0, accV (k + 8) l, .lit (.slice none 0 0), .rd 1 d.n3 d.f3, .rd 8 d.n4 d.f4, .lit (.slice none 0 0)]) 1 (.rd 2 d.n1 d.f1) [(52, .lit (.int .i64 0)), (51, .lit (.int .i64 (d.n2 : Int))), (50, .rd 2 d.n2 d.f2), (3, .ptr (k + 4) 0 0), (2, .ptr (k + 1) 0 0), (1, .ptr k 0 0)] [(k + 1, ⟨6, true, [[.lit (.slice none 0 0), .lit (.slice none 0 0), .lit (.slice none 0 0), .lit (.slice none 0 0), .lit (.slice none 0 0), .lit (.slice none 0 0)]]⟩), (k, ⟨6, true, [d.cells]⟩)] (by omega) (by simp -dsimp -implicitDefEqProofs only [go_sem, List.map_append, Flt.row, eq_self, ↓reduceIte]) rfl (by simp -dsimp -implicitDefEqProofs only [go_sem, List.map_append, Flt.row, eq_self, ↓reduceIte]) (by rw [el]; exact cpL_le _ _ _) (by simp -dsimp -implicitDefEqProofs only [go_sem, List.map_append, Flt.row, eq_self, ↓reduceIte]) (by simp -dsimp -implicitDefEqProofs only [go_sem, List.map_append, Flt.row, eq_self, ↓reduceIte]) (by simp -dsimp -implicitDefEqProofs only [go_sem, List.map_append, Flt.row, eq_self, ↓reduceIte])) ?_
  refine W_mv (Mv.wk (k1 := k + 9) (fr1 := [(52, .lit (.int .i64 0)), (51, .lit (.int .i64 (d.n2 : Int))), (50, .rd 2 d.n2 d.f2), (3, .ptr (k + 4) 0 0), (2, .ptr (k + 1) 0 0), (1, .ptr k 0 0)]) (H1 := [(k + 4, ⟨6, false, [[.rd 2 d.n0 d.f0, .rd 2 d.n1 d.f1, .lit (.slice none 0 0), .rd 1 d.n3 d.f3, .rd 8 d.n4 d.f4, .lit (.slice none 0 0)]]⟩), (k + 1, ⟨6, true, [[.lit (.slice none 0 0), .lit (.slice none 0 0), .lit (.slice none 0 0), .lit (.slice none 0 0), .lit (.slice none 0 0), .lit (.slice none 0 0)]]⟩), (k, ⟨6, true, [d.cells]⟩)]) (wk_low (by omega) (by simp -dsimp -implicitDefEqProofs only [go_sem, List.map_append, Flt.row, eq_self, ↓reduceIte]) (by simp -dsimp -implicitDefEqProofs only [go_sem, List.map_append, Flt.row, eq_self, ↓reduceIte]) (by simp -dsimp -implicitDefEqProofs only [go_sem, List.map_append, Flt.row, eq_self, ↓reduceIte]) (by simp -dsimp -implicitDefEqProofs only [go_sem, List.map_append, Flt.row, eq_self, ↓reduceIte]))) ?_
  clear el hl
  clear l
  refine rR ?_ <;> first | exact hdT | apply zN
  refine M_forO (X := Nat) rfl [0,1,2,3,5,7,9,11,22,23,24,25,36,37,38,39,50,51,52,53,64,65,66,67] (k + 10) (fun i => [(52, .lit (.int .i64 (i : Int)))]) (fun i => accH (k + 9) 2 (cpL d.f2 i) [(k + 4, ⟨6, false, [[.rd 2 d.n0 d.f0, .rd 2 d.n1 d.f1, accV (k + 9) (cpL d.f2 i), .rd 1 d.n3 d.f3, .rd 8 d.n4 d.f4, .lit (.slice none 0 0)]]⟩), (k + 1, ⟨6, true, [[.lit (.slice none 0 0), .lit (.slice none 0 0), .lit (.slice none 0 0), .lit (.slice none 0 0), .lit (.slice none 0 0), .lit (.slice none 0 0)]]⟩), (k, ⟨6, true, [d.cells]⟩)]) (fun i => i ≤ d.n2) (fun i => d.n2 - i) 0 ?_ (Nat.zero_le _) ?_
  · rw [cpL_zero]
    refine rR ?_ <;> first | exact hdT | apply zN
    exact wkF
  intro i hi
  obtain ⟨l, el, hl⟩ : ∃ x, x = cpL d.f2 i ∧ x.length = i := ⟨_, rfl, cpL_len _ _⟩
  rw [← el]
  refine rR ?_ <;> first | exact hdT | apply zN
  refine wl ?_ <;> and_intros <;> first | exact hdT | (apply zM; (repeat intro ht); apply zM; (repeat intro hg); apply zM)
  · refine ⟨i + 1, by omega, by omega, ?_⟩
    rw [cpL_succ, ← el]
    refine rR ?_ <;> first | exact hdT | apply zN
    exact Mv.app (k + 12) (k + 9) ⟨by omega, by omega⟩ ⟨by omega, by omega⟩ (wk_low (by omega) (by simp -dsimp -implicitDefEqProofs only [go_sem, List.map_append, Flt.row, eq_self, ↓reduceIte]) (by simp -dsimp -implicitDefEqProofs only [go_sem, List.map_append, Flt.row, eq_self, ↓reduceIte]) (by simp -dsimp -implicitDefEqProofs only [go_sem, List.map_append, Flt.row, eq_self, ↓reduceIte]) (by simp -dsimp -implicitDefEqProofs only [go_sem, List.map_append, Flt.row, eq_self, ↓reduceIte]))
  have hin : i = d.n2 := by omega
  subst hin
  refine W_mv (Mv.frz_row (id := k + 9) (s := 2) (D := k + 4) (sz := 6) (l := l) (row := [.rd 2 d.n0 d.f0, .rd 2 d.n1 d.f1, accV (k + 9) l, .rd 1 d.n3 d.f3, .rd 8 d.n4 d.f4, .lit (.slice none 0 0)]) 2 (.rd 2 d.n2 d.f2) [(66, .lit (.int .i64 0)), (65, .lit (.int .i64 (d.n5 : Int))), (64, .rd 5 d.n5 d.f5), (3, .ptr (k + 4) 0 0), (2, .ptr (k + 1) 0 0), (1, .ptr k 0 0)] [(k + 1, ⟨6, true, [[.lit (.slice none 0 0), .lit (.slice none 0 0), .lit (.slice none 0 0), .lit (.slice none 0 0), .lit (.slice none 0 0), .lit (.slice none 0 0)]]⟩), (k, ⟨6, true, [d.cells]⟩)] (by omega) (by simp -dsimp -implicitDefEqProofs only [go_sem, List.map_append, Flt.row, eq_self, ↓reduceIte]) rfl (by simp -dsimp -implicitDefEqProofs only [go_sem, List.map_append, Flt.row, eq_self, ↓reduceIte]) (by rw [el]; exact cpL_le _ _ _) (by simp -dsimp -implicitDefEqProofs only [go_sem, List.map_append, Flt.row, eq_self, ↓reduceIte]) (by simp -dsimp -implicitDefEqProofs only [go_sem, List.map_append, Flt.row, eq_self, ↓reduceIte]) (by simp -dsimp -implicitDefEqProofs only [go_sem, List.map_append, Flt.row, eq_self, ↓reduceIte])) ?_
  refine W_mv (Mv.wk (k1 := k + 10) (fr1 := [(66, .lit (.int .i64 0)), (65, .lit (.int .i64 (d.n5 : Int))), (64, .rd 5 d.n5 d.f5), (3, .ptr (k + 4) 0 0), (2, .ptr (k + 1) 0 0), (1, .ptr k 0 0)]) (H1 := [(k + 4, ⟨6, false, [[.rd 2 d.n0 d.f0, .rd 2 d.n1 d.f1, .rd 2 d.n2 d.f2, .rd 1 d.n3 d.f3, .rd 8 d.n4 d.f4, .lit (.slice none 0 0)]]⟩), (k + 1, ⟨6, true, [[.lit (.slice none 0 0), .lit (.slice none 0 0), .lit (.slice none 0 0), .lit (.slice none 0 0), .lit (.slice none 0 0), .lit (.slice none 0 0)]]⟩), (k, ⟨6, true, [d.cells]⟩)]) (wk_low (by omega) (by simp -dsimp -implicitDefEqProofs only [go_sem, List.map_append, Flt.row, eq_self, ↓reduceIte]) (by simp -dsimp -implicitDefEqProofs only [go_sem, List.map_append, Flt.row, eq_self, ↓reduceIte]) (by simp -dsimp -implicitDefEqProofs only [go_sem, List.map_append, Flt.row, eq_self, ↓reduceIte]) (by simp -dsimp -implicitDefEqProofs only [go_sem, List.map_append, Flt.row, eq_self, ↓reduceIte]))) ?_
  clear el hl
  clear l
  refine rR ?_ <;> first | exact hdT | apply zN
  refine M_forO (X := Nat) rfl [0,1,2,3,5,7,9,11,22,23,24,25,36,37,38,39,50,51,52,53,64,65,66,67] (k + 11) (fun i => [(66, .lit (.int .i64 (i : Int)))]) (fun i => accH (k + 10) 5 (cpL d.f5 i) [(k + 4, ⟨6, false, [[.rd 2 d.n0 d.f0, .rd 2 d.n1 d.f1, .rd 2 d.n2 d.f2, .rd 1 d.n3 d.f3, .rd 8 d.n4 d.f4, accV (k + 10) (cpL d.f5 i)]]⟩), (k + 1, ⟨6, true, [[.lit (.slice none 0 0), .lit (.slice none 0 0), .lit (.slice none 0 0), .lit (.slice none 0 0), .lit (.slice none 0 0), .lit (.slice none 0 0)]]⟩), (k, ⟨6, true, [d.cells]⟩)]) (fun i => i ≤ d.n5) (fun i => d.n5 - i) 0 ?_ (Nat.zero_le _) ?_
  · rw [cpL_zero]
    refine rR ?_ <;> first | exact hdT | apply zN
    exact wkF
  intro i hi
  obtain ⟨l, el, hl⟩ : ∃ x, x = cpL d.f5 i ∧ x.length = i := ⟨_, rfl, cpL_len _ _⟩
  rw [← el]
  refine rR ?_ <;> first | exact hdT | apply zN
  refine C_seq rfl ?_; (refine S_reg0 rfl [0,1,2,3,5,7,9,11,22,23,24,25,36,37,38,39,50,51,52,53,64,65,66,67] rfl rfl (fun K hK => ?_)); simp -dsimp -implicitDefEqProofs only [go_sem, eq_self, ↓reduceIte]; (refine hK _ _ _ _ (fun hx => ?_)); clear hx hK; simp -dsimp -implicitDefEqProofs only [go_sem, eq_self, ↓reduceIte]; clear K
  refine C_seq rfl ?_
  refine C_cond rfl _ rfl (fun ht => ?_) (fun ht => ?_)
  · simp only [nf] at ht
    refine C_skip rfl ?_
    refine rR ?_ <;> first | exact hdT | apply zN
    refine wl ?_ <;> and_intros <;> first | exact hdT | (apply zM; (repeat intro ht); apply zM; (repeat intro hg); apply zM)
    refine ⟨i + 1, by omega, by omega, ?_⟩
    rw [cpL_succ, ← el]
    refine rR ?_ <;> first | exact hdT | apply zN
    exact Mv.app (k + 13) (k + 10) ⟨by omega, by omega⟩ ⟨by omega, by omega⟩ (wk_low (by omega) (by simp -dsimp -implicitDefEqProofs only [go_sem, List.map_append, Flt.row, eq_self, ↓reduceIte]) (by simp -dsimp -implicitDefEqProofs only [go_sem, List.map_append, Flt.row, eq_self, ↓reduceIte]) (by simp -dsimp -implicitDefEqProofs only [go_sem, List.map_append, Flt.row, eq_self, ↓reduceIte]) (by simp -dsimp -implicitDefEqProofs only [go_sem, List.map_append, Flt.row, eq_self, ↓reduceIte]))
  · simp only [nf] at ht
    refine C_exit rfl ?_
    refine rR ?_ <;> first | exact hdT | apply zN
    have hin : i = d.n5 := by omega
    subst hin
    refine W_mv (Mv.frz_row (id := k + 10) (s := 5) (D := k + 4) (sz := 6) (l := l) (row := [.rd 2 d.n0 d.f0, .rd 2 d.n1 d.f1, .rd 2 d.n2 d.f2, .rd 1 d.n3 d.f3, .rd 8 d.n4 d.f4, accV (k + 10) l]) 5 (.rd 5 d.n5 d.f5) [(3, .ptr (k + 4) 0 0), (2, .ptr (k + 1) 0 0)] [(k + 1, ⟨6, true, [[.lit (.slice none 0 0), .lit (.slice none 0 0), .lit (.slice none 0 0), .lit (.slice none 0 0), .lit (.slice none 0 0), .lit (.slice none 0 0)]]⟩), (k, ⟨6, true, [d.cells]⟩)] (by omega) (by simp -dsimp -implicitDefEqProofs only [go_sem, List.map_append, Flt.row, eq_self, ↓reduceIte]) rfl (by simp -dsimp -implicitDefEqProofs only [go_sem, List.map_append, Flt.row, eq_self, ↓reduceIte]) (by rw [el]; exact cpL_le _ _ _) (by simp -dsimp -implicitDefEqProofs only [go_sem, List.map_append, Flt.row, eq_self, ↓reduceIte]) (by simp -dsimp -implicitDefEqProofs only [go_sem, List.map_append, Flt.row, eq_self, ↓reduceIte]) (by simp -dsimp -implicitDefEqProofs only [go_sem, List.map_append, Flt.row, eq_self, ↓reduceIte])) ?_
    clear el hl
    refine rR ?_ <;> first | exact hdT | apply zN
    refine wl ?_ <;> and_intros <;> first | exact hdT | (apply zM; (repeat intro ht); apply zM; (repeat intro hg); apply zM)
    exact C_ret rfl (hQ _ _ _ (by simp -dsimp -implicitDefEqProofs only [go_sem, List.map_append, Flt.row, eq_self, ↓reduceIte]) (by simp -dsimp -implicitDefEqProofs only [go_sem, List.map_append, Flt.row, eq_self, ↓reduceIte]))
theorem f3_one (d : DE) (n : Nat) : (((List.range n).map d.f3).all fun row => row.all AM.one) = true := by
  rw [List.all_eq_true]; intro row hr; obtain ⟨i, _, rfl⟩ := List.mem_map.1 hr; rfl
theorem f4_one (d : DE) (n : Nat) : (((List.range n).map d.f4).all fun row => row.all AM.one) = true := by
  rw [List.all_eq_true]; intro row hr; obtain ⟨i, _, rfl⟩ := List.mem_map.1 hr; rfl
set_option maxHeartbeats 4000000 in
theorem turned_d (d : DE) (hd : d.size ≤ 100000) : AM.Pure Tryz.prog Γ 19 [.agg d.cells] (.agg d.cells) := by
  have hd' := hd
  unfold DE.size at hd'
  refine Pure_at Tryz.func19 rfl 78 rfl (Nat.le_of_ble_eq_true rfl) rfl fun k => ?_
  have hfin := turned2 (Γ := Γ) d hd k (retQ Tryz.prog Tryz.f19 fun _ r1 _ => VLe r1 (.agg d.cells)) (fun k1 fr H h1 h2 => by
    refine ⟨.agg d.cells, ?_, VLe.refl _⟩
    simp -dsimp -implicitDefEqProofs only [go_sem, h1, h2, eq_self, ↓reduceIte])
  have o3 := f3_one d
  have o4 := f4_one d
  rcases Nat.eq_zero_or_pos d.n3 with h3 | h3
  · rcases Nat.eq_zero_or_pos d.n4 with h4 | h4
    · simp only [DE.cells, h3, h4] at hfin
      have kp : Kp [0,1,2,3,5,7,9,11,22,23,24,25,36,37,38,39,50,51,52,53,64,65,66,67] (fun i => i - k) := kpI
      have uU := zA @h3 (zA @h4 (zA @o3 @o4))
      refine wl ?_ <;> and_intros <;> first | exact hdT | (apply zM; (repeat intro ht); apply zM; (repeat intro hg); apply zM)
      refine W_mv (Mv.freeze (k + 2) (by simp -dsimp -implicitDefEqProofs only [go_sem, h3, h4, o3, o4, eq_self, ↓reduceIte]; rfl) rfl) ?_
      simp -dsimp -implicitDefEqProofs only [frzF, frz_app, go_sem, h3, h4, o3, o4, eq_self, ↓reduceIte]
      refine W_mv (Mv.freeze (k + 3) (by simp -dsimp -implicitDefEqProofs only [go_sem, h3, h4, o3, o4, eq_self, ↓reduceIte]; rfl) rfl) ?_
      simp -dsimp -implicitDefEqProofs only [frzF, frz_app, go_sem, h3, h4, o3, o4, eq_self, ↓reduceIte]
      refine W_mv (Mv.row (k + 4) (l := []) [.lit (.slice none 0 0), .lit (.slice none 0 0), .lit (.slice none 0 0), .rd 1 0 d.f3, .rd 8 0 d.f4, .lit (.slice none 0 0)] (by simp -dsimp -implicitDefEqProofs only [go_sem, h3, h4, o3, o4, List.map_append, Flt.row, eq_self, ↓reduceIte]; rfl) (.cons (VLe.refl _) (.cons (VLe.refl _) (.cons (VLe.refl _) (.cons (VLe.rd (fun i hi => absurd hi (by omega))) (.cons (VLe.rd (fun i hi => absurd hi (by omega))) (.cons (VLe.refl _) .nil)))))) rfl) ?_
      refine rR ?_ <;> first | exact hdT | apply zN
      refine W_mv (Mv.wk (k1 := k + 7) (fr1 := [(24, .lit (.int .i64 0)), (23, .lit (.int .i64 (d.n0 : Int))), (22, .rd 2 d.n0 d.f0), (3, .ptr (k + 4) 0 0), (2, .ptr (k + 1) 0 0), (1, .ptr k 0 0)]) (H1 := [(k + 4, ⟨6, true, [[.lit (.slice none 0 0), .lit (.slice none 0 0), .lit (.slice none 0 0), .rd 1 0 d.f3, .rd 8 0 d.f4, .lit (.slice none 0 0)]]⟩), (k + 1, ⟨6, true, [[.lit (.slice none 0 0), .lit (.slice none 0 0), .lit (.slice none 0 0), .lit (.slice none 0 0), .lit (.slice none 0 0), .lit (.slice none 0 0)]]⟩), (k, ⟨6, true, [[.rd 2 d.n0 d.f0, .rd 2 d.n1 d.f1, .rd 2 d.n2 d.f2, .rd 1 0 d.f3, .rd 8 0 d.f4, .rd 5 d.n5 d.f5]]⟩)]) (wk_low (by omega) (by simp -dsimp -implicitDefEqProofs only [go_sem, h3, h4, o3, o4, List.map_append, Flt.row, eq_self, ↓reduceIte]) (by simp -dsimp -implicitDefEqProofs only [go_sem, h3, h4, o3, o4, List.map_append, Flt.row, eq_self, ↓reduceIte]) (by simp -dsimp -implicitDefEqProofs only [go_sem, h3, h4, o3, o4, List.map_append, Flt.row, eq_self, ↓reduceIte]) (by simp -dsimp -implicitDefEqProofs only [go_sem, h3, h4, o3, o4, List.map_append, Flt.row, eq_self, ↓reduceIte]))) ?_
      exact hfin
    · have h4' : d.n4 ≠ 0 := by omega
      simp only [DE.cells, h3] at hfin
      have kp : Kp [0,1,2,3,5,7,9,11,22,23,24,25,36,37,38,39,50,51,52,53,64,65,66,67] (fun i => i - k) := kpI
      have uU := zA @h3 (zA @h4 (zA @h4' (zA @o3 @o4)))
      refine wl ?_ <;> and_intros <;> first | exact hdT | (apply zM; (repeat intro ht); apply zM; (repeat intro hg); apply zM)
      refine W_mv (Mv.freeze (k + 2) (by simp -dsimp -implicitDefEqProofs only [go_sem, h3, h4, h4', o3, o4, eq_self, ↓reduceIte]; rfl) rfl) ?_
      simp -dsimp -implicitDefEqProofs only [frzF, frz_app, go_sem, h3, h4, h4', o3, o4, eq_self, ↓reduceIte]
      refine W_mv (Mv.freeze (k + 4) (by simp -dsimp -implicitDefEqProofs only [go_sem, h3, h4, h4', o3, o4, eq_self, ↓reduceIte]; rfl) rfl) ?_
      simp -dsimp -implicitDefEqProofs only [frzF, frz_app, go_sem, h3, h4, h4', o3, o4, eq_self, ↓reduceIte]
      refine W_mv (Mv.row (k + 5) (l := []) [.lit (.slice none 0 0), .lit (.slice none 0 0), .lit (.slice none 0 0), .rd 1 0 d.f3, .rd 8 d.n4 d.f4, .lit (.slice none 0 0)] (by simp -dsimp -implicitDefEqProofs only [go_sem, h3, h4, h4', o3, o4, List.map_append, Flt.row, eq_self, ↓reduceIte]; rfl) (.cons (VLe.refl _) (.cons (VLe.refl _) (.cons (VLe.refl _) (.cons (VLe.rd (fun i hi => absurd hi (by omega))) (.cons (VLe.copy' _ _ _) (.cons (VLe.refl _) .nil)))))) rfl) ?_
      refine rR ?_ <;> first | exact hdT | apply zN
      refine W_mv (Mv.app (k + 5) (k + 4) ⟨by omega, by omega⟩ ⟨by omega, by omega⟩ (k1 := k + 7) (fr1 := [(24, .lit (.int .i64 0)), (23, .lit (.int .i64 (d.n0 : Int))), (22, .rd 2 d.n0 d.f0), (3, .ptr (k + 4) 0 0), (2, .ptr (k + 1) 0 0), (1, .ptr k 0 0)]) (H1 := [(k + 4, ⟨6, true, [[.lit (.slice none 0 0), .lit (.slice none 0 0), .lit (.slice none 0 0), .rd 1 0 d.f3, .rd 8 d.n4 d.f4, .lit (.slice none 0 0)]]⟩), (k + 1, ⟨6, true, [[.lit (.slice none 0 0), .lit (.slice none 0 0), .lit (.slice none 0 0), .lit (.slice none 0 0), .lit (.slice none 0 0), .lit (.slice none 0 0)]]⟩), (k, ⟨6, true, [[.rd 2 d.n0 d.f0, .rd 2 d.n1 d.f1, .rd 2 d.n2 d.f2, .rd 1 0 d.f3, .rd 8 d.n4 d.f4, .rd 5 d.n5 d.f5]]⟩)]) (wk_low (by omega) (by simp -dsimp -implicitDefEqProofs only [go_sem, h3, h4, h4', o3, o4, List.map_append, Flt.row, eq_self, ↓reduceIte]) (by simp -dsimp -implicitDefEqProofs only [go_sem, h3, h4, h4', o3, o4, List.map_append, Flt.row, eq_self, ↓reduceIte]) (by simp -dsimp -implicitDefEqProofs only [go_sem, h3, h4, h4', o3, o4, List.map_append, Flt.row, eq_self, ↓reduceIte]) (by simp -dsimp -implicitDefEqProofs only [go_sem, h3, h4, h4', o3, o4, List.map_append, Flt.row, eq_self, ↓reduceIte]))) ?_
      exact hfin
  · rcases Nat.eq_zero_or_pos d.n4 with h4 | h4
    · have h3' : d.n3 ≠ 0 := by omega
      simp only [DE.cells, h4] at hfin
      have kp : Kp [0,1,2,3,5,7,9,11,22,23,24,25,36,37,38,39,50,51,52,53,64,65,66,67] (fun i => i - k) := kpI
      have uU := zA @h3 (zA @h3' (zA @h4 (zA @o3 @o4)))
      refine wl ?_ <;> and_intros <;> first | exact hdT | (apply zM; (repeat intro ht); apply zM; (repeat intro hg); apply zM)
      refine W_mv (Mv.freeze (k + 3) (by simp -dsimp -implicitDefEqProofs only [go_sem, h3, h3', h4, o3, o4, eq_self, ↓reduceIte]; rfl) rfl) ?_
      simp -dsimp -implicitDefEqProofs only [frzF, frz_app, go_sem, h3, h3', h4, o3, o4, eq_self, ↓reduceIte]
      refine W_mv (Mv.freeze (k + 4) (by simp -dsimp -implicitDefEqProofs only [go_sem, h3, h3', h4, o3, o4, eq_self, ↓reduceIte]; rfl) rfl) ?_
      simp -dsimp -implicitDefEqProofs only [frzF, frz_app, go_sem, h3, h3', h4, o3, o4, eq_self, ↓reduceIte]
      refine W_mv (Mv.row (k + 5) (l := []) [.lit (.slice none 0 0), .lit (.slice none 0 0), .lit (.slice none 0 0), .rd 1 d.n3 d.f3, .rd 8 0 d.f4, .lit (.slice none 0 0)] (by simp -dsimp -implicitDefEqProofs only [go_sem, h3, h3', h4, o3, o4, List.map_append, Flt.row, eq_self, ↓reduceIte]; rfl) (.cons (VLe.refl _) (.cons (VLe.refl _) (.cons (VLe.refl _) (.cons (VLe.copy' _ _ _) (.cons (VLe.rd (fun i hi => absurd hi (by omega))) (.cons (VLe.refl _) .nil)))))) rfl) ?_
      refine rR ?_ <;> first | exact hdT | apply zN
      refine W_mv (Mv.app (k + 5) (k + 4) ⟨by omega, by omega⟩ ⟨by omega, by omega⟩ (k1 := k + 7) (fr1 := [(24, .lit (.int .i64 0)), (23, .lit (.int .i64 (d.n0 : Int))), (22, .rd 2 d.n0 d.f0), (3, .ptr (k + 4) 0 0), (2, .ptr (k + 1) 0 0), (1, .ptr k 0 0)]) (H1 := [(k + 4, ⟨6, true, [[.lit (.slice none 0 0), .lit (.slice none 0 0), .lit (.slice none 0 0), .rd 1 d.n3 d.f3, .rd 8 0 d.f4, .lit (.slice none 0 0)]]⟩), (k + 1, ⟨6, true, [[.lit (.slice none 0 0), .lit (.slice none 0 0), .lit (.slice none 0 0), .lit (.slice none 0 0), .lit (.slice none 0 0), .lit (.slice none 0 0)]]⟩), (k, ⟨6, true, [[.rd 2 d.n0 d.f0, .rd 2 d.n1 d.f1, .rd 2 d.n2 d.f2, .rd 1 d.n3 d.f3, .rd 8 0 d.f4, .rd 5 d.n5 d.f5]]⟩)]) (wk_low (by omega) (by simp -dsimp -implicitDefEqProofs only [go_sem, h3, h3', h4, o3, o4, List.map_append, Flt.row, eq_self, ↓reduceIte]) (by simp -dsimp -implicitDefEqProofs only [go_sem, h3, h3', h4, o3, o4, List.map_append, Flt.row, eq_self, ↓reduceIte]) (by simp -dsimp -implicitDefEqProofs only [go_sem, h3, h3', h4, o3, o4, List.map_append, Flt.row, eq_self, ↓reduceIte]) (by simp -dsimp -implicitDefEqProofs only [go_sem, h3, h3', h4, o3, o4, List.map_append, Flt.row, eq_self, ↓reduceIte]))) ?_
      exact hfin
    · have h3' : d.n3 ≠ 0 := by omega
      have h4' : d.n4 ≠ 0 := by omega
      have kp : Kp [0,1,2,3,5,7,9,11,22,23,24,25,36,37,38,39,50,51,52,53,64,65,66,67] (fun i => i - k) := kpI
      have uU := zA @h3 (zA @h4 (zA @h3' (zA @h4' (zA @o3 @o4))))
      refine wl ?_ <;> and_intros <;> first | exact hdT | (apply zM; (repeat intro ht); apply zM; (repeat intro hg); apply zM)
      refine W_mv (Mv.freeze (k + 3) (by simp -dsimp -implicitDefEqProofs only [go_sem, h3, h4, h3', h4', o3, o4, eq_self, ↓reduceIte]; rfl) rfl) ?_
      simp -dsimp -implicitDefEqProofs only [frzF, frz_app, go_sem, h3, h4, h3', h4', o3, o4, eq_self, ↓reduceIte]
      refine W_mv (Mv.freeze (k + 5) (by simp -dsimp -implicitDefEqProofs only [go_sem, h3, h4, h3', h4', o3, o4, eq_self, ↓reduceIte]; rfl) rfl) ?_
      simp -dsimp -implicitDefEqProofs only [frzF, frz_app, go_sem, h3, h4, h3', h4', o3, o4, eq_self, ↓reduceIte]
      refine W_mv (Mv.row (k + 6) (l := []) [.lit (.slice none 0 0), .lit (.slice none 0 0), .lit (.slice none 0 0), .rd 1 d.n3 d.f3, .rd 8 d.n4 d.f4, .lit (.slice none 0 0)] (by simp -dsimp -implicitDefEqProofs only [go_sem, h3, h4, h3', h4', o3, o4, List.map_append, Flt.row, eq_self, ↓reduceIte]; rfl) (.cons (VLe.refl _) (.cons (VLe.refl _) (.cons (VLe.refl _) (.cons (VLe.copy' _ _ _) (.cons (VLe.copy' _ _ _) (.cons (VLe.refl _) .nil)))))) rfl) ?_
      refine rR ?_ <;> first | exact hdT | apply zN
      refine W_mv (Mv.app (k + 6) (k + 4) ⟨by omega, by omega⟩ ⟨by omega, by omega⟩ (k1 := k + 7) (fr1 := [(24, .lit (.int .i64 0)), (23, .lit (.int .i64 (d.n0 : Int))), (22, .rd 2 d.n0 d.f0), (3, .ptr (k + 4) 0 0), (2, .ptr (k + 1) 0 0), (1, .ptr k 0 0)]) (H1 := [(k + 4, ⟨6, true, [[.lit (.slice none 0 0), .lit (.slice none 0 0), .lit (.slice none 0 0), .rd 1 d.n3 d.f3, .rd 8 d.n4 d.f4, .lit (.slice none 0 0)]]⟩), (k + 1, ⟨6, true, [[.lit (.slice none 0 0), .lit (.slice none 0 0), .lit (.slice none 0 0), .lit (.slice none 0 0), .lit (.slice none 0 0), .lit (.slice none 0 0)]]⟩), (k, ⟨6, true, [d.cells]⟩)]) (wk_low (by omega) (by simp -dsimp -implicitDefEqProofs only [go_sem, h3, h4, h3', h4', o3, o4, List.map_append, Flt.row, eq_self, ↓reduceIte]) (by simp -dsimp -implicitDefEqProofs only [go_sem, h3, h4, h3', h4', o3, o4, List.map_append, Flt.row, eq_self, ↓reduceIte]) (by simp -dsimp -implicitDefEqProofs only [go_sem, h3, h4, h3', h4', o3, o4, List.map_append, Flt.row, eq_self, ↓reduceIte]) (by simp -dsimp -implicitDefEqProofs only [go_sem, h3, h4, h3', h4', o3, o4, List.map_append, Flt.row, eq_self, ↓reduceIte]))) ?_
      exact hfin
end Go.Proofs.T
end
section
namespace Go.Proofs.T
open Go Go.AM Go.Proofs
set_option maxRecDepth 20000
variable {Γ : List (Nat × List AVal)}
attribute [local irreducible] putO del
end Go.Proofs.T
end
section
namespace Go.Proofs.T
open Go Go.AM Go.Proofs
set_option maxRecDepth 20000
variable {Γ : List (Nat × List AVal)}
attribute [local irreducible] putO del
end Go.Proofs.T
end
section
namespace Go.Proofs.T
open Go Go.AM Go.Proofs
set_option maxRecDepth 20000
variable {Γ : List (Nat × List AVal)}
attribute [local go_sem] nR
end Go.Proofs.T
end
section
namespace Go.Proofs.T
open Go Go.AM Go.Proofs
set_option maxRecDepth 20000
variable {Γ : List (Nat × List AVal)}
attribute [local irreducible] putO del
attribute [local go_sem] tR
end Go.Proofs.T
end
section
namespace Go.Proofs.T
open Go Go.AM Go.Proofs
set_option maxRecDepth 20000
variable {Γ : List (Nat × List AVal)}
attribute [local irreducible] putO del
attribute [local go_sem] tR nR
end Go.Proofs.T
end
section
namespace Go.Proofs.T
open Go Go.AM Go.Proofs
set_option maxRecDepth 20000
variable {Γ : List (Nat × List AVal)}
attribute [local irreducible] putO del
end Go.Proofs.T
end
section
namespace Go.Proofs.T
open Go Go.AM Go.Proofs
set_option maxRecDepth 20000
variable {Γ : List (Nat × List AVal)}
attribute [local irreducible] putO del
end Go.Proofs.T
end
section
namespace Go.Proofs.T
open Go Go.AM Go.Proofs
set_option maxRecDepth 20000
variable {Γ : List (Nat × List AVal)}
attribute [local irreducible] putO del
theorem is_d (d e : DE) (hd : d.size ≤ 100000) (he : e.size ≤ 100000) : AM.Pure Tryz.prog Γ 38 [.agg d.cells, .agg e.cells] (.lit (.bool (eqD d e))) := by
  refine Pure_at Tryz.func38 rfl 9 rfl (Nat.le_of_ble_eq_true rfl) rfl fun k => ?_
  obtain ⟨z, ez⟩ : ∃ z, z = eqD d e := ⟨_, rfl⟩
  rw [← ez]
  have kp : Kp [0,1,2,3,4] (fun i => i - k) := kpI
  refine wl ?_ <;> and_intros <;> first | exact hdT | (apply zM; (repeat intro ht); apply zM; (repeat intro hg); apply zM)
  refine dl [.ret (.agg e.cells), .ret (.lit (.bool z))] ?_ <;> and_intros <;> first | exact hdT | (apply zM; (repeat intro ht); apply zM; (repeat intro hg); apply zM)
  · exact turned_d e he
  · rw [ez]; exact equal_d d e hd he
  refine C_ret rfl ⟨_, rfl, VLe.of_eq ?_⟩
  rfl
theorem eqD_self (d : DE) : eqD d d = true := by
  unfold eqD
  rw [eqL_yes rfl (fun i _ => cV_iff.2 rfl), eqL_yes rfl (fun i _ => cV_iff.2 rfl), eqL_yes rfl (fun i _ => cV_iff.2 rfl), eqL_yes rfl (fun i _ => by simp), eqL_yes rfl (fun i _ => cT_iff.2 rfl), eqL_yes rfl (fun i _ => cP_iff.2 rfl)]
  rfl
def dOf (x : Dl) : DE := ⟨x.ck.length, x.cu.length, x.wg.length, x.gn.length, x.tk.length, x.sp.length, fun i => x.ck.getD i (0, 0), fun i => x.cu.getD i (0, 0), fun i => x.wg.getD i (0, 0), fun i => x.gn.getD i 0, fun i => x.tk.getD i zT, fun i => x.sp.getD i (0, 0, ⟨0, 0, 0⟩)⟩
theorem rows_le {α : Type} (s : Nat) (f : α → List AVal) (z : α) (l : List α) : VLe (rows s (l.map f)) (.rd s l.length (fun i => f (l.getD i z))) := by
  rw [rows, List.length_map]
  exact VLe.rd fun i hi => by simp [List.getD_eq_getElem?_getD, hi]
theorem dOf_le (x : Dl) : VLe (.agg x.cells) (.agg (dOf x).cells) :=
  VLe.aggs (.cons (rows_le _ _ _ _) (.cons (rows_le _ _ _ _) (.cons (rows_le _ _ _ _) (.cons (rows_le _ _ _ _) (.cons (rows_le _ _ _ _) (.cons (rows_le _ _ _ _) .nil))))))
end Go.Proofs.T
end
section
namespace Go.Proofs.T
open Go Go.AM Go.Proofs
set_option maxRecDepth 20000
section
variable {H : Type} {enc : TypeId × Value → H} {P : Program} {w : World} {base : Nat} {sp : Nat → Bool} {held : Bool} {fuel : Nat} {t : TypeId} {cs : List Value} {x : DataW H × List MemPlace} {G : Nat → Prop}
theorem dec_field {fs : Array Field} (ht : P.underlying t = some (.struct fs)) (h : DataW.trod enc P w base sp held fuel t cs = some x) :
    cs.length = P.cellsOf t ∧ ∃ n, ∀ (i : Nat) (f : Field), fs[i]? = some f → ∃ y, DataW.trod enc P w base sp held n f.type ((cs.drop f.offset).take (P.cellsOf f.type)) = some y := by
  obtain ⟨xs, n, _, _, h1, h2, h3⟩ := DataW.trod_struct ht h
  refine ⟨h1, n, fun i f hf => ?_⟩
  have hi : i < xs.length := by rw [h2]; exact (Array.getElem?_eq_some_iff.1 hf).1
  exact ⟨xs[i], by rw [h3 i f hf, List.getElem?_eq_getElem hi]⟩
def Tk.cells (k : Tk) : List AVal := [.lit (.int .i64 k.id), .lit (.int .i64 k.group), .lit (.int .i64 k.weight), .lit (.int .i64 k.cpu), .lit (.int .u64 k.mask), .lit (.bool k.ready), .lit (.int .u64 k.v), .lit (.int .u32 k.r)]
def Sp.cells (k : Sp) : List AVal := [.lit (.int .u64 k.v), .lit (.int .u32 k.r), .lit (.int .u64 k.floor)]
def Tk.ok (k : Tk) : Prop := 0 ≤ k.mask ∧ k.mask < 18446744073709551616 ∧ k.v ≤ 18446744073709551615 ∧ 0 ≤ k.r
def Sp.ok (k : Sp) : Prop := 0 ≤ k.v ∧ k.v ≤ 18446744073709551615 ∧ 0 ≤ k.r
theorem len2 {cs : List Value} (h : cs.length = 2) : ∃ a b, cs = [a, b] := by
  match cs, h with
  | [a, b], _ => exact ⟨a, b, rfl⟩
theorem len8 {cs : List Value} (h : cs.length = 8) : ∃ a b c d e f g i, cs = [a, b, c, d, e, f, g, i] := by
  match cs, h with
  | [a, b, c, d, e, f, g, i], _ => exact ⟨a, b, c, d, e, f, g, i, rfl⟩
end
end Go.Proofs.T
end
section
namespace Go.Proofs.T
open Go Go.AM Go.Proofs Go.ChangeShapes Go.WideShapes Go.ChangeAt Go.WideMaps Go.WideElems Go.RowKit Go.Proofs.YteimiejbhhgljaaGreatDoor
set_option maxRecDepth 100000
theorem ownK : ownKnob Tryz.prog.godebug = none := by kernel_rfl
theorem laidOut : laidOutB Tryz.prog = true := by kernel_rfl
end Go.Proofs.T
end
section
namespace Go.Proofs.T
open Go Go.AM Go.Proofs Go.Lib
set_option maxRecDepth 20000
def elsD (d : DE) : List El := (List.range d.n0).map (fun i => .ck (d.ck i).1 (d.ck i).2) ++ ((List.range d.n1).map (fun i => .cu (d.cu i).1 (d.cu i).2) ++ ((List.range d.n2).map (fun i => .wg (d.wg i).1 (d.wg i).2) ++ ((List.range d.n3).map (fun i => .gn (d.gn i)) ++ ((List.range d.n4).map (fun i => .tk (d.tk i)) ++ (List.range d.n5).map (fun i => .sp (d.sp i).1 (d.sp i).2.1 (d.sp i).2.2)))))
structure DRng (d : DE) : Prop where
  ck : ∀ i, (El.ck (d.ck i).1 (d.ck i).2).rng
  cu : ∀ i, (El.cu (d.cu i).1 (d.cu i).2).rng
  wg : ∀ i, (El.wg (d.wg i).1 (d.wg i).2).rng
  gn : ∀ i, (El.gn (d.gn i)).rng
  tk : ∀ i, (El.tk (d.tk i)).rng
  sp : ∀ i, (El.sp (d.sp i).1 (d.sp i).2.1 (d.sp i).2.2).rng
theorem i64_rng' {n : Int} (h : (Lit.int .i64 n).wf = true) : I64 n := by
  simp [Lit.wf] at h
  have e1 : IntKind.i64.min = -9223372036854775808 := rfl
  have e2 : IntKind.i64.max = 9223372036854775807 := rfl
  exact ⟨by omega, by omega⟩
theorem u64_rng' {n : Int} (h : (Lit.int .u64 n).wf = true) : U64 n := by
  simp [Lit.wf] at h
  have e1 : IntKind.u64.min = 0 := rfl
  have e2 : IntKind.u64.max = 18446744073709551615 := rfl
  exact ⟨by omega, by omega⟩
theorem u32_rng' {n : Int} (h : (Lit.int .u32 n).wf = true) : U32 n := by
  simp [Lit.wf] at h
  have e1 : IntKind.u32.min = 0 := rfl
  have e2 : IntKind.u32.max = 4294967295 := rfl
  exact ⟨by omega, by omega⟩
theorem len5 {cs : List Value} (h : cs.length = 5) : ∃ a b c d e, cs = [a, b, c, d, e] := by
  match cs, h with
  | [a, b, c, d, e], _ => exact ⟨a, b, c, d, e, rfl⟩
theorem len6 {cs : List Value} (h : cs.length = 6) : ∃ a b c d e f, cs = [a, b, c, d, e, f] := by
  match cs, h with
  | [a, b, c, d, e, f], _ => exact ⟨a, b, c, d, e, f, rfl⟩
section
variable {H : Type} {enc : TypeId × Value → H} {P : Program} {w : World} {base : Nat} {sp : Nat → Bool} {held : Bool} {fuel : Nat} {t : TypeId} {cs : List Value} {x : DataW H × List MemPlace} {G : Nat → Prop}
theorem dec_value {n : Nat} {y : DataW H × List MemPlace} (hl : cs.length = 2) (h : DataW.trod enc Tryz.prog w base sp held n 87 cs = some y) :
    ∃ a : Int × Int, (I64 a.1 ∧ I64 a.2) ∧ Dec w G (vlR a) cs := by
  obtain ⟨_, m, hf⟩ := dec_field Tryz.underlying87 h
  obtain ⟨c0, c1, rfl⟩ := len2 hl
  obtain ⟨_, h0⟩ := hf 0 _ rfl
  obtain ⟨_, h1⟩ := hf 1 _ rfl
  obtain ⟨a, d0, w0⟩ := dec_int (G := G) Tryz.underlying3 h0
  obtain ⟨b, d1, w1⟩ := dec_int (G := G) Tryz.underlying3 h1
  exact ⟨(a, b), ⟨i64_rng' w0, i64_rng' w1⟩, d0.app d1⟩
theorem dec_taskR {n : Nat} {y : DataW H × List MemPlace} (hl : cs.length = 8) (h : DataW.trod enc Tryz.prog w base sp held n 89 cs = some y) :
    ∃ a : Tk, (El.tk a).rng ∧ Dec w G (tR a) cs := by
  obtain ⟨_, m, hf⟩ := dec_field Tryz.underlying89 h
  obtain ⟨c0, c1, c2, c3, c4, c5, c6, c7, rfl⟩ := len8 hl
  obtain ⟨_, h0⟩ := hf 0 _ rfl
  obtain ⟨_, h1⟩ := hf 1 _ rfl
  obtain ⟨_, h2⟩ := hf 2 _ rfl
  obtain ⟨_, h3⟩ := hf 3 _ rfl
  obtain ⟨_, h4⟩ := hf 4 _ rfl
  obtain ⟨_, h5⟩ := hf 5 _ rfl
  obtain ⟨_, h6⟩ := hf 6 _ rfl
  obtain ⟨_, h7⟩ := hf 7 _ rfl
  obtain ⟨a0, d0, w0⟩ := dec_int (G := G) Tryz.underlying3 h0
  obtain ⟨a1, d1, w1⟩ := dec_int (G := G) Tryz.underlying3 h1
  obtain ⟨a2, d2, w2⟩ := dec_int (G := G) Tryz.underlying3 h2
  obtain ⟨a3, d3, w3⟩ := dec_int (G := G) Tryz.underlying3 h3
  obtain ⟨a4, d4, w4⟩ := dec_int (G := G) Tryz.underlying22 h4
  obtain ⟨a5, d5⟩ := dec_bool (G := G) Tryz.underlying4 h5
  obtain ⟨a6, d6, w6⟩ := dec_int (G := G) Tryz.underlying22 h6
  obtain ⟨a7, d7, w7⟩ := dec_int (G := G) Tryz.underlying50 h7
  exact ⟨⟨a0, a1, a2, a3, a4, a5, a6, a7⟩, ⟨i64_rng' w0, i64_rng' w1, i64_rng' w2, i64_rng' w3, u64_rng' w4, u64_rng' w6, u32_rng' w7⟩, d0.app (d1.app (d2.app (d3.app (d4.app (d5.app (d6.app d7))))))⟩
theorem dec_place {n : Nat} {y : DataW H × List MemPlace} (hl : cs.length = 5) (h : DataW.trod enc Tryz.prog w base sp held n 93 cs = some y) :
    ∃ a : Int × Int × Sp, (El.sp a.1 a.2.1 a.2.2).rng ∧ Dec w G (pR a) cs := by
  obtain ⟨_, m, hf⟩ := dec_field Tryz.underlying93 h
  obtain ⟨c0, c1, c2, c3, c4, rfl⟩ := len5 hl
  obtain ⟨_, h0⟩ := hf 0 _ rfl
  obtain ⟨_, h1⟩ := hf 1 _ rfl
  obtain ⟨_, h2⟩ := hf 2 _ rfl
  obtain ⟨_, m', hf'⟩ := dec_field Tryz.underlying91 h2
  obtain ⟨_, k0⟩ := hf' 0 _ rfl
  obtain ⟨_, k1⟩ := hf' 1 _ rfl
  obtain ⟨_, k2⟩ := hf' 2 _ rfl
  obtain ⟨a0, d0, w0⟩ := dec_int (G := G) Tryz.underlying3 h0
  obtain ⟨a1, d1, w1⟩ := dec_int (G := G) Tryz.underlying3 h1
  obtain ⟨a2, d2, w2⟩ := dec_int (G := G) Tryz.underlying22 k0
  obtain ⟨a3, d3, w3⟩ := dec_int (G := G) Tryz.underlying50 k1
  obtain ⟨a4, d4, w4⟩ := dec_int (G := G) Tryz.underlying22 k2
  exact ⟨(a0, a1, ⟨a2, a3, a4⟩), ⟨i64_rng' w0, i64_rng' w1, u64_rng' w2, u32_rng' w3, u64_rng' w4⟩, d0.app (d1.app (d2.app (d3.app d4)))⟩
theorem rng0 : I64 0 ∧ U64 0 ∧ U32 0 := ⟨⟨by omega, by omega⟩, ⟨by omega, by omega⟩, ⟨by omega, by omega⟩⟩
theorem dec_delta (hG : ∀ b, b < w.heap.size → G b) (h : DataW.trod enc Tryz.prog w base sp held fuel 36 cs = some x) : ∃ d : DE, DRng d ∧ Dec w G d.cells cs := by
  obtain ⟨hl, m, hf⟩ := dec_field Tryz.underlying36 h
  have hl6 : cs.length = 6 := hl.trans (by kernel_rfl)
  obtain ⟨c0, c1, c2, c3, c4, c5, rfl⟩ := len6 hl6
  obtain ⟨_, h0⟩ := hf 0 _ rfl
  obtain ⟨_, h1⟩ := hf 1 _ rfl
  obtain ⟨_, h2⟩ := hf 2 _ rfl
  obtain ⟨_, h3⟩ := hf 3 _ rfl
  obtain ⟨_, h4⟩ := hf 4 _ rfl
  obtain ⟨_, h5⟩ := hf 5 _ rfl
  have z2 : I64 (0, 0).1 ∧ I64 ((0, 0) : Int × Int).2 := ⟨rng0.1, rng0.1⟩
  obtain ⟨n0, f0, q0, d0⟩ := dec_slice (G := G) vlR (fun a => I64 a.1 ∧ I64 a.2) (0, 0) z2 (sz := 2) (by omega) Tryz.underlying33 (by kernel_rfl) hG (fun n cs y hl hy => dec_value hl hy) h0
  obtain ⟨n1, f1, q1, d1⟩ := dec_slice (G := G) vlR (fun a => I64 a.1 ∧ I64 a.2) (0, 0) z2 (sz := 2) (by omega) Tryz.underlying33 (by kernel_rfl) hG (fun n cs y hl hy => dec_value hl hy) h1
  obtain ⟨n2, f2, q2, d2⟩ := dec_slice (G := G) vlR (fun a => I64 a.1 ∧ I64 a.2) (0, 0) z2 (sz := 2) (by omega) Tryz.underlying33 (by kernel_rfl) hG (fun n cs y hl hy => dec_value hl hy) h2
  obtain ⟨n3, f3, q3, d3⟩ := dec_slice (G := G) nR I64 0 rng0.1 (sz := 1) (by omega) Tryz.underlying26 (by kernel_rfl) hG (fun n cs y hl hy => by
    obtain ⟨a, d, w⟩ := dec_int (G := G) Tryz.underlying3 hy
    exact ⟨a, i64_rng' w, d⟩) h3
  obtain ⟨n4, f4, q4, d4⟩ := dec_slice (G := G) tR (fun a => (El.tk a).rng) zT ⟨rng0.1, rng0.1, rng0.1, rng0.1, rng0.2.1, rng0.2.1, rng0.2.2⟩ (sz := 8) (by omega) Tryz.underlying27 (by kernel_rfl) hG (fun n cs y hl hy => dec_taskR hl hy) h4
  obtain ⟨n5, f5, q5, d5⟩ := dec_slice (G := G) pR (fun a => (El.sp a.1 a.2.1 a.2.2).rng) (0, 0, ⟨0, 0, 0⟩) ⟨rng0.1, rng0.1, rng0.2.1, rng0.2.2, rng0.2.1⟩ (sz := 5) (by omega) Tryz.underlying34 (by kernel_rfl) hG (fun n cs y hl hy => dec_place hl hy) h5
  exact ⟨⟨n0, n1, n2, n3, n4, n5, f0, f1, f2, f3, f4, f5⟩, ⟨q0, q1, q2, q3, q4, q5⟩, d0.app (d1.app (d2.app (d3.app (d4.app d5))))⟩
theorem dec_le {u v : AVal} (d : Dec w G [u] cs) (h : VLe u v) : Dec w G [v] cs := ⟨d.1, fun j x hj => by
  match j, hj with
  | 0, hj => cases hj; obtain ⟨c, h1, h2⟩ := d.2 0 _ rfl; exact ⟨c, h1, h _ _ _ _ _ h2⟩
  | j + 1, hj => simp at hj⟩
theorem dec_texts (hG : ∀ b, b < w.heap.size → G b) (h : DataW.trod enc Tryz.prog w base sp held fuel 37 cs = some x) : ∃ l : List (List UInt8), Dec w G [strs l] cs := by
  obtain ⟨n, f, _, d⟩ := dec_slice (G := G) (fun s : List UInt8 => [.lit (.string (str s))]) (fun _ => True) [] trivial (sz := 1) (by omega) Tryz.underlying37 (by kernel_rfl) hG (fun n cs y hl hy => by
    obtain ⟨s, rfl, _, _⟩ := DataW.trod_string Tryz.underlying9 hy
    exact ⟨s.data.toList, trivial, .one .lit⟩) h
  refine ⟨(List.range n).map f, dec_le d ?_⟩
  unfold strs
  rw [List.length_map, List.length_range]
  exact VLe.rd fun i hi => by simp [List.getD, hi]
end
end Go.Proofs.T
end
section
namespace Go.Proofs.T
open Go Go.AM Go.Proofs Go.Lib
set_option maxRecDepth 20000
def elL (c : Nat → El) (n : Nat) : List El := (List.range n).map c
theorem elL_zero (c : Nat → El) : elL c 0 = [] := rfl
theorem elL_succ (c : Nat → El) (n : Nat) : elL c (n + 1) = elL c n ++ [c n] := by simp [elL, List.range_succ]
theorem elL_len (c : Nat → El) (n : Nat) : (elL c n).length = n := by simp [elL]
theorem elL_mem {c : Nat → El} {n : Nat} {e : El} : e ∈ elL c n ↔ ∃ i, i < n ∧ c i = e := by simp [elL]
def cCk (d : DE) (i : Nat) : El := .ck (d.ck i).1 (d.ck i).2
def cCu (d : DE) (i : Nat) : El := .cu (d.cu i).1 (d.cu i).2
def cWg (d : DE) (i : Nat) : El := .wg (d.wg i).1 (d.wg i).2
def cGn (d : DE) (i : Nat) : El := .gn (d.gn i)
def cTk (d : DE) (i : Nat) : El := .tk (d.tk i)
def cSp (d : DE) (i : Nat) : El := .sp (d.sp i).1 (d.sp i).2.1 (d.sp i).2.2
theorem elsD_eq (d : DE) : elsD d = elL (cCk d) d.n0 ++ (elL (cCu d) d.n1 ++ (elL (cWg d) d.n2 ++ (elL (cGn d) d.n3 ++ (elL (cTk d) d.n4 ++ elL (cSp d) d.n5)))) := rfl
theorem elsD_len (d : DE) : (elsD d).length = d.size := by
  rw [elsD_eq]; simp only [List.length_append, elL_len]
  show _ = d.n0 + d.n1 + d.n2 + d.n3 + d.n4 + d.n5
  omega
theorem elsD_rng {d : DE} (h : DRng d) : ∀ e ∈ elsD d, e.rng := fun e he => by
  rw [elsD_eq] at he
  simp only [List.mem_append, elL_mem] at he
  rcases he with ⟨i, _, rfl⟩ | ⟨i, _, rfl⟩ | ⟨i, _, rfl⟩ | ⟨i, _, rfl⟩ | ⟨i, _, rfl⟩ | ⟨i, _, rfl⟩
  · exact h.ck i
  · exact h.cu i
  · exact h.wg i
  · exact h.gn i
  · exact h.tk i
  · exact h.sp i
def rowT (e : El) : List AVal := [.lit (.string (ByteArray.mk (lnT e).toArray))]
def wrOk (l : List El) : Bool := l.all fun e => decide e.plain
def wrL (l : List El) : List (List UInt8) := if wrOk l = true then l.map lnT else []
def wrE (l : List El) : Int := if wrOk l = true then 0 else 2
theorem wrOk_no {l : List El} {e : El} (h : e ∈ l) (hn : ¬ e.plain) : wrOk l = false := by
  rw [Bool.eq_false_iff]
  intro hc
  exact hn (of_decide_eq_true (List.all_eq_true.1 hc e h))
theorem wrOk_yes {l : List El} (h : ∀ e ∈ l, e.plain) : wrOk l = true := List.all_eq_true.2 fun e he => decide_eq_true (h e he)
theorem rowT_strs (l : List El) : VLe (rows 1 (l.map rowT)) (strs (l.map lnT)) := by
  have := V_strs (l.map lnT)
  rw [List.map_map] at this
  exact this
end Go.Proofs.T
end
