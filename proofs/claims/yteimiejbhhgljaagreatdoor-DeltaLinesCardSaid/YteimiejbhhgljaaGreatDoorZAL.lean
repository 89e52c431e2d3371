import Derived.Test.YteimiejbhhgljaaGreatDoorZAK
set_option linter.unusedVariables false
set_option linter.unusedSimpArgs false
section
namespace Go.Proofs.T
open Go Go.AM Go.Proofs Go.Lib
set_option maxRecDepth 20000
variable {Γ : List (Nat × List AVal)}
attribute [local irreducible] putO del
def preE (d : DE) : Nat → List El
  | 0 => []
  | 1 => elL (cCk d) d.n0
  | 2 => elL (cCk d) d.n0 ++ elL (cCu d) d.n1
  | _ => elL (cCk d) d.n0 ++ elL (cCu d) d.n1 ++ elL (cWg d) d.n2
theorem preE_len (d : DE) (i : Nat) : (preE d i).length ≤ d.n0 + d.n1 + d.n2 := by
  unfold preE; split <;> simp only [List.length_append, elL_len, List.length_nil] <;> omega
theorem row_snoc (l : List El) (c : Nat → El) (j : Nat) (L : List (List AVal)) (h : L = (l ++ elL c j).map rowT) : (l ++ elL c (j + 1)).map rowT = L ++ [rowT (c j)] := by
  rw [elL_succ, ← List.append_assoc, List.map_append, ← h]; rfl
set_option maxHeartbeats 8000000 in
theorem lines_c (hG : GT Γ) (d : DE) (hr : DRng d) (hd : d.size ≤ 20000) : AM.Pure Tryz.prog Γ 84 [.agg d.cells] (rows 1 ((elsD d).map rowT)) := by
  have hsz : d.n0 + d.n1 + d.n2 + d.n3 + d.n4 + d.n5 ≤ 20000 := hd
  obtain ⟨RES, eRES⟩ : ∃ RES, RES = rows 1 ((elsD d).map rowT) := ⟨_, rfl⟩
  have hRES : bd (fun _ => false) RES = true := by rw [eRES]; rfl
  rw [← eRES]
  refine Pure_at Tryz.func84 rfl 131 rfl (Nat.le_of_ble_eq_true rfl) (by exact hRES) fun k => ?_
  have kp : Kp [0,1,2,3,4,5,6,8,10,12,13,15,23,24,25,28,29,30,31,48,49,50,51,61,62,63,64,68,99,100,101,102] (fun i => i - k) := kpI
  refine wl ?_ <;> and_intros <;> first | exact hdT | (apply zM; (repeat intro ht); apply zM; (repeat intro hg); apply zM)
  refine W_mv (Mv.impure (k + 1) (by simp -dsimp -implicitDefEqProofs only [go_sem, eq_self, ↓reduceIte]; rfl)) ?_
  refine rR ?_ <;> first | exact hdT | apply zN
  refine M_forO (X := Nat) rfl [0,1,2,3,4,5,6,8,10,12,13,15,23,24,25,28,29,30,31,48,49,50,51,61,62,63,64,68,99,100,101,102] (k + 3) (fun i => [(24, .lit (.int .i64 (i : Int)))]) (fun i => accH (k + 2) 1 ((preE d i).map rowT) [(k + 1, ⟨1, false, [[accV (k + 2) ((preE d i).map rowT)]]⟩), (k, ⟨6, true, [d.cells]⟩)]) (fun i => i ≤ 3) (fun i => 3 - i) 0 ?_ (Nat.zero_le _) ?_
  · rw [show (preE d 0).map rowT = [] from rfl]
    refine rR ?_ <;> first | exact hdT | apply zN
    exact wkF
  intro i hi
  rcases (show i = 0 ∨ i = 1 ∨ i = 2 ∨ i = 3 by omega) with rfl | rfl | rfl | rfl
  · refine wl ?_ <;> and_intros <;> first | exact hdT | (apply zM; (repeat intro ht); apply zM; (repeat intro hg); apply zM)
    refine M_forO (X := Nat) rfl [0,1,2,3,4,5,6,8,10,12,13,15,23,24,25,28,29,30,31,48,49,50,51,61,62,63,64,68,99,100,101,102] (k + 3) (fun j => [(30, .lit (.int .i64 (j : Int)))]) (fun j => accH (k + 2) 1 ((preE d 0 ++ elL (cCk d) j).map rowT) [(k + 1, ⟨1, false, [[accV (k + 2) ((preE d 0 ++ elL (cCk d) j).map rowT)]]⟩), (k, ⟨6, true, [d.cells]⟩)]) (fun j => j ≤ d.n0) (fun j => d.n0 - j) 0 ?_ (Nat.zero_le _) ?_
    · rw [elL_zero, List.append_nil]
      refine rR ?_ <;> first | exact hdT | apply zN
      exact wkF
    intro j hj
    obtain ⟨L, eL, hL⟩ : ∃ L, L = (preE d 0 ++ elL (cCk d) j).map rowT ∧ L.length ≤ 60000 := ⟨_, rfl, by rw [List.length_map, List.length_append, elL_len]; have := preE_len d 3; have := preE_len d 0; omega⟩
    rw [← eL]
    by_cases hlt : j < d.n0
    · have hsn := row_snoc (preE d 0) (cCk d) j L eL
      clear eL
      obtain ⟨a, b, hab, hra, hrb⟩ : ∃ a b, d.ck j = (a, b) ∧ I64 a ∧ I64 b := ⟨_, _, rfl, hr.ck j⟩
      have hrow : rowT (cCk d j) = [.lit (.string (ByteArray.mk (lnW wClock [itoa a, itoa b]).toArray))] := by
        rw [rowT, cCk, hab, lnT, lnW_jn]; rfl
      rw [hrow] at hsn
      clear hrow
      obtain ⟨X, eX⟩ : ∃ X, X = lnW wClock [itoa a, itoa b] := ⟨_, rfl⟩
      rw [← eX] at hsn
      rcases L with _ | ⟨x0, L⟩
      ·
        have uU := @hab
        refine rR ?_ <;> first | exact hdT | apply zN
        refine wl ?_ <;> and_intros <;> first | exact hdT | (apply zM; (repeat intro ht); apply zM; (repeat intro hg); apply zM)
        refine dl [.gen (.lit (.string (ByteArray.mk X.toArray))) (k + 5) [(k + 4, ⟨1, true, [[.lit (.int .i64 a)], [.lit (.int .i64 b)]]⟩)] [], .gen (.tup []) (k + 7) [(k + 1, ⟨1, false, [[.lit (.slice none 0 0)]]⟩)] [(k + 6, ⟨1, true, [[.lit (.string (ByteArray.mk X.toArray))]]⟩), (k + 1, ⟨1, false, [[.sl (k + 6) 0 1]]⟩)]] ?_ <;> and_intros <;> first | exact hdT | (apply zM; (repeat intro ht); apply zM; (repeat intro hg); apply zM)
        · rw [eX]; exact line_g hG (k + 5) (k + 4) wClock (by decide) [a, b] (by simp) (by simp [hra, hrb])
        · exact add_c (k + 5) (k + 1) (k + 2) (by omega) (by omega) (by omega) [] (by simp) X
        refine wl ?_ <;> and_intros <;> first | exact hdT | (apply zM; (repeat intro ht); apply zM; (repeat intro hg); apply zM)
        refine ⟨j + 1, by omega, by omega, ?_⟩
        rw [hsn, show ((j + 1 : Nat) : Int) = (j : Int) + 1 by omega]
        refine rR ?_ <;> first | exact hdT | apply zN
        exact Mv.app (k + 6) (k + 2) ⟨by omega, by omega⟩ ⟨by omega, by omega⟩ (wk_low (by omega) (by simp -dsimp -implicitDefEqProofs only [go_sem, hab, List.map_append, Flt.row, eq_self, ↓reduceIte]) (by simp -dsimp -implicitDefEqProofs only [go_sem, hab, List.map_append, Flt.row, eq_self, ↓reduceIte]) (by simp -dsimp -implicitDefEqProofs only [go_sem, hab, List.map_append, Flt.row, eq_self, ↓reduceIte]) (by simp -dsimp -implicitDefEqProofs only [go_sem, hab, List.map_append, Flt.row, eq_self, ↓reduceIte]))
      · have hLl : L.length ≤ 60000 := by simp at hL; omega
        have uU := @hab
        refine rR ?_ <;> first | exact hdT | apply zN
        refine wl ?_ <;> and_intros <;> first | exact hdT | (apply zM; (repeat intro ht); apply zM; (repeat intro hg); apply zM)
        refine dl [.gen (.lit (.string (ByteArray.mk X.toArray))) (k + 5) [(k + 4, ⟨1, true, [[.lit (.int .i64 a)], [.lit (.int .i64 b)]]⟩)] [], .gen (.tup []) (k + 7) [(k + 2, ⟨1, true, x0 :: L⟩), (k + 1, ⟨1, false, [[.sl (k + 2) 0 (L.length + 1)]]⟩)] [(k + 6, ⟨1, true, (x0 :: L) ++ [[.lit (.string (ByteArray.mk X.toArray))]]⟩), (k + 1, ⟨1, false, [[.sl (k + 6) 0 (L.length + 1 + 1)]]⟩)]] ?_ <;> and_intros <;> first | exact hdT | (apply zM; (repeat intro ht); apply zM; (repeat intro hg); apply zM)
        · rw [eX]; exact line_g hG (k + 5) (k + 4) wClock (by decide) [a, b] (by simp) (by simp [hra, hrb])
        · exact add_c (k + 5) (k + 1) (k + 2) (by omega) (by omega) (by omega) (x0 :: L) (by simp at hL ⊢; omega) X
        refine wl ?_ <;> and_intros <;> first | exact hdT | (apply zM; (repeat intro ht); apply zM; (repeat intro hg); apply zM)
        refine ⟨j + 1, by omega, by omega, ?_⟩
        rw [hsn, show ((j + 1 : Nat) : Int) = (j : Int) + 1 by omega]
        refine rR ?_ <;> first | exact hdT | apply zN
        exact Mv.app (k + 6) (k + 2) ⟨by omega, by omega⟩ ⟨by omega, by omega⟩ (wk_low (by omega) (by simp -dsimp -implicitDefEqProofs only [go_sem, hab, List.map_append, Flt.row, eq_self, ↓reduceIte]) (by simp -dsimp -implicitDefEqProofs only [go_sem, hab, List.map_append, Flt.row, eq_self, ↓reduceIte]) (by simp -dsimp -implicitDefEqProofs only [go_sem, hab, List.map_append, Flt.row, eq_self, ↓reduceIte]) (by simp -dsimp -implicitDefEqProofs only [go_sem, hab, List.map_append, Flt.row, eq_self, ↓reduceIte]))
    · have hje : j = d.n0 := by omega
      rw [hje] at eL
      refine rR ?_ <;> first | exact hdT | apply zN
      refine wl ?_ <;> and_intros <;> first | exact hdT | (apply zM; (repeat intro ht); apply zM; (repeat intro hg); apply zM)
      refine ⟨1, by omega, by omega, ?_⟩
      rw [show (preE d 1).map rowT = L by rw [eL]; rfl]
      refine rR ?_ <;> first | exact hdT | apply zN
      exact wkF
  · refine wl ?_ <;> and_intros <;> first | exact hdT | (apply zM; (repeat intro ht); apply zM; (repeat intro hg); apply zM)
    refine M_forO (X := Nat) rfl [0,1,2,3,4,5,6,8,10,12,13,15,23,24,25,28,29,30,31,48,49,50,51,61,62,63,64,68,99,100,101,102] (k + 3) (fun j => [(30, .lit (.int .i64 (j : Int)))]) (fun j => accH (k + 2) 1 ((preE d 1 ++ elL (cCu d) j).map rowT) [(k + 1, ⟨1, false, [[accV (k + 2) ((preE d 1 ++ elL (cCu d) j).map rowT)]]⟩), (k, ⟨6, true, [d.cells]⟩)]) (fun j => j ≤ d.n1) (fun j => d.n1 - j) 0 ?_ (Nat.zero_le _) ?_
    · rw [elL_zero, List.append_nil]
      refine rR ?_ <;> first | exact hdT | apply zN
      exact wkF
    intro j hj
    obtain ⟨L, eL, hL⟩ : ∃ L, L = (preE d 1 ++ elL (cCu d) j).map rowT ∧ L.length ≤ 60000 := ⟨_, rfl, by rw [List.length_map, List.length_append, elL_len]; have := preE_len d 3; have := preE_len d 1; omega⟩
    rw [← eL]
    by_cases hlt : j < d.n1
    · have hsn := row_snoc (preE d 1) (cCu d) j L eL
      clear eL
      obtain ⟨a, b, hab, hra, hrb⟩ : ∃ a b, d.cu j = (a, b) ∧ I64 a ∧ I64 b := ⟨_, _, rfl, hr.cu j⟩
      have hrow : rowT (cCu d j) = [.lit (.string (ByteArray.mk (lnW wCurrent [itoa a, itoa b]).toArray))] := by
        rw [rowT, cCu, hab, lnT, lnW_jn]; rfl
      rw [hrow] at hsn
      clear hrow
      obtain ⟨X, eX⟩ : ∃ X, X = lnW wCurrent [itoa a, itoa b] := ⟨_, rfl⟩
      rw [← eX] at hsn
      rcases L with _ | ⟨x0, L⟩
      ·
        have uU := @hab
        refine rR ?_ <;> first | exact hdT | apply zN
        refine wl ?_ <;> and_intros <;> first | exact hdT | (apply zM; (repeat intro ht); apply zM; (repeat intro hg); apply zM)
        refine dl [.gen (.lit (.string (ByteArray.mk X.toArray))) (k + 5) [(k + 4, ⟨1, true, [[.lit (.int .i64 a)], [.lit (.int .i64 b)]]⟩)] [], .gen (.tup []) (k + 7) [(k + 1, ⟨1, false, [[.lit (.slice none 0 0)]]⟩)] [(k + 6, ⟨1, true, [[.lit (.string (ByteArray.mk X.toArray))]]⟩), (k + 1, ⟨1, false, [[.sl (k + 6) 0 1]]⟩)]] ?_ <;> and_intros <;> first | exact hdT | (apply zM; (repeat intro ht); apply zM; (repeat intro hg); apply zM)
        · rw [eX]; exact line_g hG (k + 5) (k + 4) wCurrent (by decide) [a, b] (by simp) (by simp [hra, hrb])
        · exact add_c (k + 5) (k + 1) (k + 2) (by omega) (by omega) (by omega) [] (by simp) X
        refine wl ?_ <;> and_intros <;> first | exact hdT | (apply zM; (repeat intro ht); apply zM; (repeat intro hg); apply zM)
        refine ⟨j + 1, by omega, by omega, ?_⟩
        rw [hsn, show ((j + 1 : Nat) : Int) = (j : Int) + 1 by omega]
        refine rR ?_ <;> first | exact hdT | apply zN
        exact Mv.app (k + 6) (k + 2) ⟨by omega, by omega⟩ ⟨by omega, by omega⟩ (wk_low (by omega) (by simp -dsimp -implicitDefEqProofs only [go_sem, hab, List.map_append, Flt.row, eq_self, ↓reduceIte]) (by simp -dsimp -implicitDefEqProofs only [go_sem, hab, List.map_append, Flt.row, eq_self, ↓reduceIte]) (by simp -dsimp -implicitDefEqProofs only [go_sem, hab, List.map_append, Flt.row, eq_self, ↓reduceIte]) (by simp -dsimp -implicitDefEqProofs only [go_sem, hab, List.map_append, Flt.row, eq_self, ↓reduceIte]))
      · have hLl : L.length ≤ 60000 := by simp at hL; omega
        have uU := @hab
        refine rR ?_ <;> first | exact hdT | apply zN
        refine wl ?_ <;> and_intros <;> first | exact hdT | (apply zM; (repeat intro ht); apply zM; (repeat intro hg); apply zM)
        refine dl [.gen (.lit (.string (ByteArray.mk X.toArray))) (k + 5) [(k + 4, ⟨1, true, [[.lit (.int .i64 a)], [.lit (.int .i64 b)]]⟩)] [], .gen (.tup []) (k + 7) [(k + 2, ⟨1, true, x0 :: L⟩), (k + 1, ⟨1, false, [[.sl (k + 2) 0 (L.length + 1)]]⟩)] [(k + 6, ⟨1, true, (x0 :: L) ++ [[.lit (.string (ByteArray.mk X.toArray))]]⟩), (k + 1, ⟨1, false, [[.sl (k + 6) 0 (L.length + 1 + 1)]]⟩)]] ?_ <;> and_intros <;> first | exact hdT | (apply zM; (repeat intro ht); apply zM; (repeat intro hg); apply zM)
        · rw [eX]; exact line_g hG (k + 5) (k + 4) wCurrent (by decide) [a, b] (by simp) (by simp [hra, hrb])
        · exact add_c (k + 5) (k + 1) (k + 2) (by omega) (by omega) (by omega) (x0 :: L) (by simp at hL ⊢; omega) X
        refine wl ?_ <;> and_intros <;> first | exact hdT | (apply zM; (repeat intro ht); apply zM; (repeat intro hg); apply zM)
        refine ⟨j + 1, by omega, by omega, ?_⟩
        rw [hsn, show ((j + 1 : Nat) : Int) = (j : Int) + 1 by omega]
        refine rR ?_ <;> first | exact hdT | apply zN
        exact Mv.app (k + 6) (k + 2) ⟨by omega, by omega⟩ ⟨by omega, by omega⟩ (wk_low (by omega) (by simp -dsimp -implicitDefEqProofs only [go_sem, hab, List.map_append, Flt.row, eq_self, ↓reduceIte]) (by simp -dsimp -implicitDefEqProofs only [go_sem, hab, List.map_append, Flt.row, eq_self, ↓reduceIte]) (by simp -dsimp -implicitDefEqProofs only [go_sem, hab, List.map_append, Flt.row, eq_self, ↓reduceIte]) (by simp -dsimp -implicitDefEqProofs only [go_sem, hab, List.map_append, Flt.row, eq_self, ↓reduceIte]))
    · have hje : j = d.n1 := by omega
      rw [hje] at eL
      refine rR ?_ <;> first | exact hdT | apply zN
      refine wl ?_ <;> and_intros <;> first | exact hdT | (apply zM; (repeat intro ht); apply zM; (repeat intro hg); apply zM)
      refine ⟨2, by omega, by omega, ?_⟩
      rw [show (preE d 2).map rowT = L by rw [eL]; rfl]
      refine rR ?_ <;> first | exact hdT | apply zN
      exact wkF
  · refine wl ?_ <;> and_intros <;> first | exact hdT | (apply zM; (repeat intro ht); apply zM; (repeat intro hg); apply zM)
    refine M_forO (X := Nat) rfl [0,1,2,3,4,5,6,8,10,12,13,15,23,24,25,28,29,30,31,48,49,50,51,61,62,63,64,68,99,100,101,102] (k + 3) (fun j => [(30, .lit (.int .i64 (j : Int)))]) (fun j => accH (k + 2) 1 ((preE d 2 ++ elL (cWg d) j).map rowT) [(k + 1, ⟨1, false, [[accV (k + 2) ((preE d 2 ++ elL (cWg d) j).map rowT)]]⟩), (k, ⟨6, true, [d.cells]⟩)]) (fun j => j ≤ d.n2) (fun j => d.n2 - j) 0 ?_ (Nat.zero_le _) ?_
    · rw [elL_zero, List.append_nil]
      refine rR ?_ <;> first | exact hdT | apply zN
      exact wkF
    intro j hj
    obtain ⟨L, eL, hL⟩ : ∃ L, L = (preE d 2 ++ elL (cWg d) j).map rowT ∧ L.length ≤ 60000 := ⟨_, rfl, by rw [List.length_map, List.length_append, elL_len]; have := preE_len d 3; have := preE_len d 2; omega⟩
    rw [← eL]
    by_cases hlt : j < d.n2
    · have hsn := row_snoc (preE d 2) (cWg d) j L eL
      clear eL
      obtain ⟨a, b, hab, hra, hrb⟩ : ∃ a b, d.wg j = (a, b) ∧ I64 a ∧ I64 b := ⟨_, _, rfl, hr.wg j⟩
      have hrow : rowT (cWg d j) = [.lit (.string (ByteArray.mk (lnW wWeight [itoa a, itoa b]).toArray))] := by
        rw [rowT, cWg, hab, lnT, lnW_jn]; rfl
      rw [hrow] at hsn
      clear hrow
      obtain ⟨X, eX⟩ : ∃ X, X = lnW wWeight [itoa a, itoa b] := ⟨_, rfl⟩
      rw [← eX] at hsn
      rcases L with _ | ⟨x0, L⟩
      ·
        have uU := @hab
        refine rR ?_ <;> first | exact hdT | apply zN
        refine wl ?_ <;> and_intros <;> first | exact hdT | (apply zM; (repeat intro ht); apply zM; (repeat intro hg); apply zM)
        refine dl [.gen (.lit (.string (ByteArray.mk X.toArray))) (k + 5) [(k + 4, ⟨1, true, [[.lit (.int .i64 a)], [.lit (.int .i64 b)]]⟩)] [], .gen (.tup []) (k + 7) [(k + 1, ⟨1, false, [[.lit (.slice none 0 0)]]⟩)] [(k + 6, ⟨1, true, [[.lit (.string (ByteArray.mk X.toArray))]]⟩), (k + 1, ⟨1, false, [[.sl (k + 6) 0 1]]⟩)]] ?_ <;> and_intros <;> first | exact hdT | (apply zM; (repeat intro ht); apply zM; (repeat intro hg); apply zM)
        · rw [eX]; exact line_g hG (k + 5) (k + 4) wWeight (by decide) [a, b] (by simp) (by simp [hra, hrb])
        · exact add_c (k + 5) (k + 1) (k + 2) (by omega) (by omega) (by omega) [] (by simp) X
        refine wl ?_ <;> and_intros <;> first | exact hdT | (apply zM; (repeat intro ht); apply zM; (repeat intro hg); apply zM)
        refine ⟨j + 1, by omega, by omega, ?_⟩
        rw [hsn, show ((j + 1 : Nat) : Int) = (j : Int) + 1 by omega]
        refine rR ?_ <;> first | exact hdT | apply zN
        exact Mv.app (k + 6) (k + 2) ⟨by omega, by omega⟩ ⟨by omega, by omega⟩ (wk_low (by omega) (by simp -dsimp -implicitDefEqProofs only [go_sem, hab, List.map_append, Flt.row, eq_self, ↓reduceIte]) (by simp -dsimp -implicitDefEqProofs only [go_sem, hab, List.map_append, Flt.row, eq_self, ↓reduceIte]) (by simp -dsimp -implicitDefEqProofs only [go_sem, hab, List.map_append, Flt.row, eq_self, ↓reduceIte]) (by simp -dsimp -implicitDefEqProofs only [go_sem, hab, List.map_append, Flt.row, eq_self, ↓reduceIte]))
      · have hLl : L.length ≤ 60000 := by simp at hL; omega
        have uU := @hab
        refine rR ?_ <;> first | exact hdT | apply zN
        refine wl ?_ <;> and_intros <;> first | exact hdT | (apply zM; (repeat intro ht); apply zM; (repeat intro hg); apply zM)
        refine dl [.gen (.lit (.string (ByteArray.mk X.toArray))) (k + 5) [(k + 4, ⟨1, true, [[.lit (.int .i64 a)], [.lit (.int .i64 b)]]⟩)] [], .gen (.tup []) (k + 7) [(k + 2, ⟨1, true, x0 :: L⟩), (k + 1, ⟨1, false, [[.sl (k + 2) 0 (L.length + 1)]]⟩)] [(k + 6, ⟨1, true, (x0 :: L) ++ [[.lit (.string (ByteArray.mk X.toArray))]]⟩), (k + 1, ⟨1, false, [[.sl (k + 6) 0 (L.length + 1 + 1)]]⟩)]] ?_ <;> and_intros <;> first | exact hdT | (apply zM; (repeat intro ht); apply zM; (repeat intro hg); apply zM)
        · rw [eX]; exact line_g hG (k + 5) (k + 4) wWeight (by decide) [a, b] (by simp) (by simp [hra, hrb])
        · exact add_c (k + 5) (k + 1) (k + 2) (by omega) (by omega) (by omega) (x0 :: L) (by simp at hL ⊢; omega) X
        refine wl ?_ <;> and_intros <;> first | exact hdT | (apply zM; (repeat intro ht); apply zM; (repeat intro hg); apply zM)
        refine ⟨j + 1, by omega, by omega, ?_⟩
        rw [hsn, show ((j + 1 : Nat) : Int) = (j : Int) + 1 by omega]
        refine rR ?_ <;> first | exact hdT | apply zN
        exact Mv.app (k + 6) (k + 2) ⟨by omega, by omega⟩ ⟨by omega, by omega⟩ (wk_low (by omega) (by simp -dsimp -implicitDefEqProofs only [go_sem, hab, List.map_append, Flt.row, eq_self, ↓reduceIte]) (by simp -dsimp -implicitDefEqProofs only [go_sem, hab, List.map_append, Flt.row, eq_self, ↓reduceIte]) (by simp -dsimp -implicitDefEqProofs only [go_sem, hab, List.map_append, Flt.row, eq_self, ↓reduceIte]) (by simp -dsimp -implicitDefEqProofs only [go_sem, hab, List.map_append, Flt.row, eq_self, ↓reduceIte]))
    · have hje : j = d.n2 := by omega
      rw [hje] at eL
      refine rR ?_ <;> first | exact hdT | apply zN
      refine wl ?_ <;> and_intros <;> first | exact hdT | (apply zM; (repeat intro ht); apply zM; (repeat intro hg); apply zM)
      refine ⟨3, by omega, by omega, ?_⟩
      rw [show (preE d 3).map rowT = L by rw [eL]; rfl]
      refine rR ?_ <;> first | exact hdT | apply zN
      exact wkF
  · obtain ⟨LP, eLP⟩ : ∃ LP, LP = preE d 3 := ⟨_, rfl⟩
    have hLP : LP.length ≤ 20000 := by rw [eLP]; have := preE_len d 3; omega
    rw [← eLP]
    refine wl ?_ <;> and_intros <;> first | exact hdT | (apply zM; (repeat intro ht); apply zM; (repeat intro hg); apply zM)
    refine M_forO (X := Nat) rfl [0,1,2,3,4,5,6,8,10,12,13,15,23,24,25,28,29,30,31,48,49,50,51,61,62,63,64,68,99,100,101,102] (k + 3) (fun j => [(50, .lit (.int .i64 (j : Int)))]) (fun j => accH (k + 2) 1 ((LP ++ elL (cGn d) j).map rowT) [(k + 1, ⟨1, false, [[accV (k + 2) ((LP ++ elL (cGn d) j).map rowT)]]⟩), (k, ⟨6, true, [d.cells]⟩)]) (fun j => j ≤ d.n3) (fun j => d.n3 - j) 0 ?_ (Nat.zero_le _) ?_
    · rw [elL_zero, List.append_nil]
      refine rR ?_ <;> first | exact hdT | apply zN
      exact wkF
    intro j hj
    obtain ⟨L, eL, hL⟩ : ∃ L, L = (LP ++ elL (cGn d) j).map rowT ∧ L.length ≤ 60000 := ⟨_, rfl, by rw [List.length_map, List.length_append, elL_len]; have := preE_len d 3; skip; omega⟩
    rw [← eL]
    by_cases hlt : j < d.n3
    · have hsn := row_snoc (LP) (cGn d) j L eL
      clear eL
      obtain ⟨a, hab, hra⟩ : ∃ a, d.gn j = a ∧ I64 a := ⟨_, rfl, hr.gn j⟩
      have hrow : rowT (cGn d j) = [.lit (.string (ByteArray.mk (lnW wGone [itoa a]).toArray))] := by
        rw [rowT, cGn, hab, lnT, lnW_jn]; rfl
      rw [hrow] at hsn
      clear hrow
      obtain ⟨X, eX⟩ : ∃ X, X = lnW wGone [itoa a] := ⟨_, rfl⟩
      rw [← eX] at hsn
      rcases L with _ | ⟨x0, L⟩
      ·
        have uU := @hab
        refine rR ?_ <;> first | exact hdT | apply zN
        refine wl ?_ <;> and_intros <;> first | exact hdT | (apply zM; (repeat intro ht); apply zM; (repeat intro hg); apply zM)
        refine cl [.gen (.lit (.string (ByteArray.mk X.toArray))) (k + 4) [(k + 3, ⟨1, true, [[.lit (.int .i64 a)]]⟩)] [], .gen (.tup []) (k + 6) [(k + 1, ⟨1, false, [[.lit (.slice none 0 0)]]⟩)] [(k + 5, ⟨1, true, [[.lit (.string (ByteArray.mk X.toArray))]]⟩), (k + 1, ⟨1, false, [[.sl (k + 5) 0 1]]⟩)]] ?_ <;> and_intros <;> first | exact hdT | (apply zM; (repeat intro ht); apply zM; (repeat intro hg); apply zM)
        · rw [eX]; exact line_g hG (k + 4) (k + 3) wGone (by decide) [a] (by simp) (by simp [hra])
        · exact add_c (k + 4) (k + 1) (k + 2) (by omega) (by omega) (by omega) [] (by simp) X
        refine wl ?_ <;> and_intros <;> first | exact hdT | (apply zM; (repeat intro ht); apply zM; (repeat intro hg); apply zM)
        refine ⟨j + 1, by omega, by omega, ?_⟩
        rw [hsn, show ((j + 1 : Nat) : Int) = (j : Int) + 1 by omega]
        refine rR ?_ <;> first | exact hdT | apply zN
        exact Mv.app (k + 5) (k + 2) ⟨by omega, by omega⟩ ⟨by omega, by omega⟩ (wk_low (by omega) (by simp -dsimp -implicitDefEqProofs only [go_sem, hab, List.map_append, Flt.row, eq_self, ↓reduceIte]) (by simp -dsimp -implicitDefEqProofs only [go_sem, hab, List.map_append, Flt.row, eq_self, ↓reduceIte]) (by simp -dsimp -implicitDefEqProofs only [go_sem, hab, List.map_append, Flt.row, eq_self, ↓reduceIte]) (by simp -dsimp -implicitDefEqProofs only [go_sem, hab, List.map_append, Flt.row, eq_self, ↓reduceIte]))
      · have hLl : L.length ≤ 60000 := by simp at hL; omega
        have uU := @hab
        refine rR ?_ <;> first | exact hdT | apply zN
        refine wl ?_ <;> and_intros <;> first | exact hdT | (apply zM; (repeat intro ht); apply zM; (repeat intro hg); apply zM)
        refine cl [.gen (.lit (.string (ByteArray.mk X.toArray))) (k + 4) [(k + 3, ⟨1, true, [[.lit (.int .i64 a)]]⟩)] [], .gen (.tup []) (k + 6) [(k + 2, ⟨1, true, x0 :: L⟩), (k + 1, ⟨1, false, [[.sl (k + 2) 0 (L.length + 1)]]⟩)] [(k + 5, ⟨1, true, (x0 :: L) ++ [[.lit (.string (ByteArray.mk X.toArray))]]⟩), (k + 1, ⟨1, false, [[.sl (k + 5) 0 (L.length + 1 + 1)]]⟩)]] ?_ <;> and_intros <;> first | exact hdT | (apply zM; (repeat intro ht); apply zM; (repeat intro hg); apply zM)
        · rw [eX]; exact line_g hG (k + 4) (k + 3) wGone (by decide) [a] (by simp) (by simp [hra])
        · exact add_c (k + 4) (k + 1) (k + 2) (by omega) (by omega) (by omega) (x0 :: L) (by simp at hL ⊢; omega) X
        refine wl ?_ <;> and_intros <;> first | exact hdT | (apply zM; (repeat intro ht); apply zM; (repeat intro hg); apply zM)
        refine ⟨j + 1, by omega, by omega, ?_⟩
        rw [hsn, show ((j + 1 : Nat) : Int) = (j : Int) + 1 by omega]
        refine rR ?_ <;> first | exact hdT | apply zN
        exact Mv.app (k + 5) (k + 2) ⟨by omega, by omega⟩ ⟨by omega, by omega⟩ (wk_low (by omega) (by simp -dsimp -implicitDefEqProofs only [go_sem, hab, List.map_append, Flt.row, eq_self, ↓reduceIte]) (by simp -dsimp -implicitDefEqProofs only [go_sem, hab, List.map_append, Flt.row, eq_self, ↓reduceIte]) (by simp -dsimp -implicitDefEqProofs only [go_sem, hab, List.map_append, Flt.row, eq_self, ↓reduceIte]) (by simp -dsimp -implicitDefEqProofs only [go_sem, hab, List.map_append, Flt.row, eq_self, ↓reduceIte]))
    · have hje : j = d.n3 := by omega
      rw [hje] at eL
      refine rR ?_ <;> first | exact hdT | apply zN
      obtain ⟨LQ, eLQ⟩ : ∃ LQ, LQ = LP ++ elL (cGn d) d.n3 := ⟨_, rfl⟩
      have hLQ : LQ.length ≤ 40000 := by rw [eLQ, List.length_append, elL_len]; omega
      rw [← eLQ] at eL
      rw [eL]
      clear eL hL L
      refine wl ?_ <;> and_intros <;> first | exact hdT | (apply zM; (repeat intro ht); apply zM; (repeat intro hg); apply zM)
      refine M_forO (X := Nat) rfl [0,1,2,3,4,5,6,8,10,12,13,15,23,24,25,28,29,30,31,48,49,50,51,61,62,63,64,68,99,100,101,102] (k + 3) (fun j => [(63, .lit (.int .i64 (j : Int)))]) (fun j => accH (k + 2) 1 ((LQ ++ elL (cTk d) j).map rowT) [(k + 1, ⟨1, false, [[accV (k + 2) ((LQ ++ elL (cTk d) j).map rowT)]]⟩), (k, ⟨6, true, [d.cells]⟩)]) (fun j => j ≤ d.n4) (fun j => d.n4 - j) 0 ?_ (Nat.zero_le _) ?_
      · rw [elL_zero, List.append_nil]
        refine rR ?_ <;> first | exact hdT | apply zN
        exact wkF
      intro j hj
      obtain ⟨L, eL, hL⟩ : ∃ L, L = (LQ ++ elL (cTk d) j).map rowT ∧ L.length ≤ 60000 := ⟨_, rfl, by rw [List.length_map, List.length_append, elL_len]; have := hLQ; skip; omega⟩
      rw [← eL]
      by_cases hlt : j < d.n4
      · have hsn := row_snoc (LQ) (cTk d) j L eL
        clear eL
        obtain ⟨x, hx, hrx⟩ : ∃ x, d.tk j = x ∧ (El.tk x).rng := ⟨_, rfl, hr.tk j⟩
        obtain ⟨i1, i2, i3, i4, m, rd, v, r⟩ := x
        obtain ⟨g1, g2, g3, g4, g5, g6, g7⟩ := hrx
        simp only at g1 g2 g3 g4 g5 g6 g7
        have g8 : U64 r := ⟨g7.1, by have := g7.2; omega⟩
        obtain ⟨S, eS, hS⟩ : ∃ S : List UInt8, S = 32 :: (if rd = true then wReady else wAsleep) ∧ S.length ≤ 10 := ⟨_, rfl, by cases rd <;> decide⟩
        obtain ⟨M, eM, hM⟩ : ∃ M, M = mT m ∧ M.length ≤ 400 := ⟨_, rfl, mT_len g5⟩
        obtain ⟨V, eV, hV⟩ : ∃ V, V = 32 :: fmt v ∧ V.length ≤ 30 := ⟨_, rfl, by have := fmt_len g6; simp; omega⟩
        obtain ⟨Z, eZ, hZ⟩ : ∃ Z, Z = 32 :: fmt r ∧ Z.length ≤ 30 := ⟨_, rfl, by have := fmt_len g8; simp; omega⟩
        obtain ⟨A, eA, hA⟩ : ∃ A, A = lnW wTask [itoa i1, itoa i2, itoa i3, itoa i4] ∧ A.length ≤ 1000 := ⟨_, rfl, by
          have := itoa_len' g1
          have := itoa_len' g2
          have := itoa_len' g3
          have := itoa_len' g4
          have h1 : wTask.length = 4 := rfl
          simp only [lnW, List.foldl, List.length_append, List.length_cons]; omega⟩
        obtain ⟨X, eX⟩ : ∃ X, X = A ++ [32] ++ M ++ S ++ V ++ Z := ⟨_, rfl⟩
        have hrow : rowT (cTk d j) = [.lit (.string (ByteArray.mk X.toArray))] := by
          have h2 : lnT (.tk ⟨i1, i2, i3, i4, m, rd, v, r⟩) = X := by
            have h3 : lnT (.tk ⟨i1, i2, i3, i4, m, rd, v, r⟩) = lnW wTask [itoa i1, itoa i2, itoa i3, itoa i4, mT m, if rd = true then wReady else wAsleep, fmt v, fmt r] := by rw [lnW_jn]; rfl
            rw [h3, eX, eA, eM, eS, eV, eZ]
            simp [lnW]
          rw [rowT, cTk, hx, h2]
        rw [hrow] at hsn
        clear hrow
        have hmt := mText_c hG m g5
        rw [← eM] at hmt
        have hlv := long_c hG v g6
        rw [← eV] at hlv
        have hlr := long_c hG r g8
        rw [← eZ] at hlr
        rcases L with _ | ⟨x0, L⟩
        ·
          cases rd
          · have eS' : S = [32, 97, 115, 108, 101, 101, 112] := by rw [eS]; rfl
            have uU := @hx
            refine rR ?_ <;> first | exact hdT | apply zN
            refine wl ?_ <;> and_intros <;> first | exact hdT | (apply zM; (repeat intro ht); apply zM; (repeat intro hg); apply zM)
            rw [← eS']
            refine dl [.gen (.lit (.string (ByteArray.mk A.toArray))) (k + 5) [(k + 4, ⟨1, true, [[.lit (.int .i64 i1)], [.lit (.int .i64 i2)], [.lit (.int .i64 i3)], [.lit (.int .i64 i4)]]⟩)] [], .ret (.lit (.string (ByteArray.mk M.toArray))), .ret (.lit (.string (ByteArray.mk V.toArray))), .ret (.lit (.string (ByteArray.mk Z.toArray))), .gen (.tup []) (k + 7) [(k + 1, ⟨1, false, [[.lit (.slice none 0 0)]]⟩)] [(k + 6, ⟨1, true, [[.lit (.string (ByteArray.mk X.toArray))]]⟩), (k + 1, ⟨1, false, [[.sl (k + 6) 0 1]]⟩)]] ?_ <;> and_intros <;> first | exact hdT | (apply zM; (repeat intro ht); apply zM; (repeat intro hg); apply zM)
            · rw [eA]; exact line_g hG (k + 5) (k + 4) wTask (by decide) [i1, i2, i3, i4] (by simp) (by simp [g1, g2, g3, g4])
            · rw [wrap_u64' g8.1 g8.2]; exact hlr
            · rw [← eX]; exact add_c (k + 5) (k + 1) (k + 2) (by omega) (by omega) (by omega) [] (by simp) X
            refine wl ?_ <;> and_intros <;> first | exact hdT | (apply zM; (repeat intro ht); apply zM; (repeat intro hg); apply zM)
            refine ⟨j + 1, by omega, by omega, ?_⟩
            rw [hsn, show ((j + 1 : Nat) : Int) = (j : Int) + 1 by omega]
            refine rR ?_ <;> first | exact hdT | apply zN
            exact Mv.app (k + 6) (k + 2) ⟨by omega, by omega⟩ ⟨by omega, by omega⟩ (wk_low (by omega) (by simp -dsimp -implicitDefEqProofs only [go_sem, hx, List.map_append, Flt.row, eq_self, ↓reduceIte]) (by simp -dsimp -implicitDefEqProofs only [go_sem, hx, List.map_append, Flt.row, eq_self, ↓reduceIte]) (by simp -dsimp -implicitDefEqProofs only [go_sem, hx, List.map_append, Flt.row, eq_self, ↓reduceIte]) (by simp -dsimp -implicitDefEqProofs only [go_sem, hx, List.map_append, Flt.row, eq_self, ↓reduceIte]))
          · have eS' : S = [32, 114, 101, 97, 100, 121] := by rw [eS]; rfl
            have uU := @hx
            refine rR ?_ <;> first | exact hdT | apply zN
            refine wl ?_ <;> and_intros <;> first | exact hdT | (apply zM; (repeat intro ht); apply zM; (repeat intro hg); apply zM)
            rw [← eS']
            refine dl [.gen (.lit (.string (ByteArray.mk A.toArray))) (k + 5) [(k + 4, ⟨1, true, [[.lit (.int .i64 i1)], [.lit (.int .i64 i2)], [.lit (.int .i64 i3)], [.lit (.int .i64 i4)]]⟩)] [], .ret (.lit (.string (ByteArray.mk M.toArray))), .ret (.lit (.string (ByteArray.mk V.toArray))), .ret (.lit (.string (ByteArray.mk Z.toArray))), .gen (.tup []) (k + 7) [(k + 1, ⟨1, false, [[.lit (.slice none 0 0)]]⟩)] [(k + 6, ⟨1, true, [[.lit (.string (ByteArray.mk X.toArray))]]⟩), (k + 1, ⟨1, false, [[.sl (k + 6) 0 1]]⟩)]] ?_ <;> and_intros <;> first | exact hdT | (apply zM; (repeat intro ht); apply zM; (repeat intro hg); apply zM)
            · rw [eA]; exact line_g hG (k + 5) (k + 4) wTask (by decide) [i1, i2, i3, i4] (by simp) (by simp [g1, g2, g3, g4])
            · rw [wrap_u64' g8.1 g8.2]; exact hlr
            · rw [← eX]; exact add_c (k + 5) (k + 1) (k + 2) (by omega) (by omega) (by omega) [] (by simp) X
            refine wl ?_ <;> and_intros <;> first | exact hdT | (apply zM; (repeat intro ht); apply zM; (repeat intro hg); apply zM)
            refine ⟨j + 1, by omega, by omega, ?_⟩
            rw [hsn, show ((j + 1 : Nat) : Int) = (j : Int) + 1 by omega]
            refine rR ?_ <;> first | exact hdT | apply zN
            exact Mv.app (k + 6) (k + 2) ⟨by omega, by omega⟩ ⟨by omega, by omega⟩ (wk_low (by omega) (by simp -dsimp -implicitDefEqProofs only [go_sem, hx, List.map_append, Flt.row, eq_self, ↓reduceIte]) (by simp -dsimp -implicitDefEqProofs only [go_sem, hx, List.map_append, Flt.row, eq_self, ↓reduceIte]) (by simp -dsimp -implicitDefEqProofs only [go_sem, hx, List.map_append, Flt.row, eq_self, ↓reduceIte]) (by simp -dsimp -implicitDefEqProofs only [go_sem, hx, List.map_append, Flt.row, eq_self, ↓reduceIte]))
        · have hLl : L.length ≤ 60000 := by simp at hL; omega
          cases rd
          · have eS' : S = [32, 97, 115, 108, 101, 101, 112] := by rw [eS]; rfl
            have uU := @hx
            refine rR ?_ <;> first | exact hdT | apply zN
            refine wl ?_ <;> and_intros <;> first | exact hdT | (apply zM; (repeat intro ht); apply zM; (repeat intro hg); apply zM)
            rw [← eS']
            refine dl [.gen (.lit (.string (ByteArray.mk A.toArray))) (k + 5) [(k + 4, ⟨1, true, [[.lit (.int .i64 i1)], [.lit (.int .i64 i2)], [.lit (.int .i64 i3)], [.lit (.int .i64 i4)]]⟩)] [], .ret (.lit (.string (ByteArray.mk M.toArray))), .ret (.lit (.string (ByteArray.mk V.toArray))), .ret (.lit (.string (ByteArray.mk Z.toArray))), .gen (.tup []) (k + 7) [(k + 2, ⟨1, true, x0 :: L⟩), (k + 1, ⟨1, false, [[.sl (k + 2) 0 (L.length + 1)]]⟩)] [(k + 6, ⟨1, true, (x0 :: L) ++ [[.lit (.string (ByteArray.mk X.toArray))]]⟩), (k + 1, ⟨1, false, [[.sl (k + 6) 0 (L.length + 1 + 1)]]⟩)]] ?_ <;> and_intros <;> first | exact hdT | (apply zM; (repeat intro ht); apply zM; (repeat intro hg); apply zM)
            · rw [eA]; exact line_g hG (k + 5) (k + 4) wTask (by decide) [i1, i2, i3, i4] (by simp) (by simp [g1, g2, g3, g4])
            · rw [wrap_u64' g8.1 g8.2]; exact hlr
            · rw [← eX]; exact add_c (k + 5) (k + 1) (k + 2) (by omega) (by omega) (by omega) (x0 :: L) (by simp at hL ⊢; omega) X
            refine wl ?_ <;> and_intros <;> first | exact hdT | (apply zM; (repeat intro ht); apply zM; (repeat intro hg); apply zM)
            refine ⟨j + 1, by omega, by omega, ?_⟩
            rw [hsn, show ((j + 1 : Nat) : Int) = (j : Int) + 1 by omega]
            refine rR ?_ <;> first | exact hdT | apply zN
            exact Mv.app (k + 6) (k + 2) ⟨by omega, by omega⟩ ⟨by omega, by omega⟩ (wk_low (by omega) (by simp -dsimp -implicitDefEqProofs only [go_sem, hx, List.map_append, Flt.row, eq_self, ↓reduceIte]) (by simp -dsimp -implicitDefEqProofs only [go_sem, hx, List.map_append, Flt.row, eq_self, ↓reduceIte]) (by simp -dsimp -implicitDefEqProofs only [go_sem, hx, List.map_append, Flt.row, eq_self, ↓reduceIte]) (by simp -dsimp -implicitDefEqProofs only [go_sem, hx, List.map_append, Flt.row, eq_self, ↓reduceIte]))
          · have eS' : S = [32, 114, 101, 97, 100, 121] := by rw [eS]; rfl
            have uU := @hx
            refine rR ?_ <;> first | exact hdT | apply zN
            refine wl ?_ <;> and_intros <;> first | exact hdT | (apply zM; (repeat intro ht); apply zM; (repeat intro hg); apply zM)
            rw [← eS']
            refine dl [.gen (.lit (.string (ByteArray.mk A.toArray))) (k + 5) [(k + 4, ⟨1, true, [[.lit (.int .i64 i1)], [.lit (.int .i64 i2)], [.lit (.int .i64 i3)], [.lit (.int .i64 i4)]]⟩)] [], .ret (.lit (.string (ByteArray.mk M.toArray))), .ret (.lit (.string (ByteArray.mk V.toArray))), .ret (.lit (.string (ByteArray.mk Z.toArray))), .gen (.tup []) (k + 7) [(k + 2, ⟨1, true, x0 :: L⟩), (k + 1, ⟨1, false, [[.sl (k + 2) 0 (L.length + 1)]]⟩)] [(k + 6, ⟨1, true, (x0 :: L) ++ [[.lit (.string (ByteArray.mk X.toArray))]]⟩), (k + 1, ⟨1, false, [[.sl (k + 6) 0 (L.length + 1 + 1)]]⟩)]] ?_ <;> and_intros <;> first | exact hdT | (apply zM; (repeat intro ht); apply zM; (repeat intro hg); apply zM)
            · rw [eA]; exact line_g hG (k + 5) (k + 4) wTask (by decide) [i1, i2, i3, i4] (by simp) (by simp [g1, g2, g3, g4])
            · rw [wrap_u64' g8.1 g8.2]; exact hlr
            · rw [← eX]; exact add_c (k + 5) (k + 1) (k + 2) (by omega) (by omega) (by omega) (x0 :: L) (by simp at hL ⊢; omega) X
            refine wl ?_ <;> and_intros <;> first | exact hdT | (apply zM; (repeat intro ht); apply zM; (repeat intro hg); apply zM)
            refine ⟨j + 1, by omega, by omega, ?_⟩
            rw [hsn, show ((j + 1 : Nat) : Int) = (j : Int) + 1 by omega]
            refine rR ?_ <;> first | exact hdT | apply zN
            exact Mv.app (k + 6) (k + 2) ⟨by omega, by omega⟩ ⟨by omega, by omega⟩ (wk_low (by omega) (by simp -dsimp -implicitDefEqProofs only [go_sem, hx, List.map_append, Flt.row, eq_self, ↓reduceIte]) (by simp -dsimp -implicitDefEqProofs only [go_sem, hx, List.map_append, Flt.row, eq_self, ↓reduceIte]) (by simp -dsimp -implicitDefEqProofs only [go_sem, hx, List.map_append, Flt.row, eq_self, ↓reduceIte]) (by simp -dsimp -implicitDefEqProofs only [go_sem, hx, List.map_append, Flt.row, eq_self, ↓reduceIte]))
      · have hje : j = d.n4 := by omega
        rw [hje] at eL
        refine rR ?_ <;> first | exact hdT | apply zN
        obtain ⟨LR, eLR⟩ : ∃ LR, LR = LQ ++ elL (cTk d) d.n4 := ⟨_, rfl⟩
        have hLR : LR.length ≤ 60000 := by rw [eLR, List.length_append, elL_len]; omega
        rw [← eLR] at eL
        rw [eL]
        clear eL hL L
        refine wl ?_ <;> and_intros <;> first | exact hdT | (apply zM; (repeat intro ht); apply zM; (repeat intro hg); apply zM)
        refine M_forO (X := Nat) rfl [0,1,2,3,4,5,6,8,10,12,13,15,23,24,25,28,29,30,31,48,49,50,51,61,62,63,64,68,99,100,101,102] (k + 3) (fun j => [(101, .lit (.int .i64 (j : Int)))]) (fun j => accH (k + 2) 1 ((LR ++ elL (cSp d) j).map rowT) [(k + 1, ⟨1, false, [[accV (k + 2) ((LR ++ elL (cSp d) j).map rowT)]]⟩), (k, ⟨6, true, [d.cells]⟩)]) (fun j => j ≤ d.n5) (fun j => d.n5 - j) 0 ?_ (Nat.zero_le _) ?_
        · rw [elL_zero, List.append_nil]
          refine rR ?_ <;> first | exact hdT | apply zN
          exact wkF
        intro j hj
        obtain ⟨L, eL, hL⟩ : ∃ L, L = (LR ++ elL (cSp d) j).map rowT ∧ L.length ≤ 90000 := ⟨_, rfl, by rw [List.length_map, List.length_append, elL_len]; have := hLR; skip; omega⟩
        rw [← eL]
        by_cases hlt : j < d.n5
        · have hsn := row_snoc (LR) (cSp d) j L eL
          clear eL
          obtain ⟨g, c, p, hx, g1, g2, g3, g4, g5⟩ : ∃ g c p, d.sp j = (g, c, p) ∧ I64 g ∧ I64 c ∧ U64 p.v ∧ U32 p.r ∧ U64 p.floor := ⟨_, _, _, rfl, hr.sp j⟩
          obtain ⟨v, r, f⟩ := p
          simp only at g3 g4 g5
          have g8 : U64 r := ⟨g4.1, by have := g4.2; omega⟩
          obtain ⟨V, eV, hV⟩ : ∃ V, V = 32 :: fmt v ∧ V.length ≤ 30 := ⟨_, rfl, by have := fmt_len g3; simp; omega⟩
          obtain ⟨Z, eZ, hZ⟩ : ∃ Z, Z = 32 :: fmt r ∧ Z.length ≤ 30 := ⟨_, rfl, by have := fmt_len g8; simp; omega⟩
          obtain ⟨Y, eY, hY⟩ : ∃ Y, Y = 32 :: fmt f ∧ Y.length ≤ 30 := ⟨_, rfl, by have := fmt_len g5; simp; omega⟩
          obtain ⟨A, eA, hA⟩ : ∃ A, A = lnW wSpot [itoa g, itoa c] ∧ A.length ≤ 1000 := ⟨_, rfl, by
            have := itoa_len' g1
            have := itoa_len' g2
            have h1 : wSpot.length = 4 := rfl
            simp only [lnW, List.foldl, List.length_append, List.length_cons]; omega⟩
          obtain ⟨X, eX⟩ : ∃ X, X = A ++ V ++ Z ++ Y := ⟨_, rfl⟩
          have hrow : rowT (cSp d j) = [.lit (.string (ByteArray.mk X.toArray))] := by
            have h2 : lnT (.sp g c ⟨v, r, f⟩) = X := by
              have h3 : lnT (.sp g c ⟨v, r, f⟩) = lnW wSpot [itoa g, itoa c, fmt v, fmt r, fmt f] := by rw [lnW_jn]; rfl
              rw [h3, eX, eA, eV, eZ, eY]
              simp [lnW]
            rw [rowT, cSp, hx, h2]
          rw [hrow] at hsn
          clear hrow
          have hlv := long_c hG v g3
          rw [← eV] at hlv
          have hlr := long_c hG r g8
          rw [← eZ] at hlr
          have hlf := long_c hG f g5
          rw [← eY] at hlf
          rcases L with _ | ⟨x0, L⟩
          ·
            have uU := @hx
            refine rR ?_ <;> first | exact hdT | apply zN
            refine wl ?_ <;> and_intros <;> first | exact hdT | (apply zM; (repeat intro ht); apply zM; (repeat intro hg); apply zM)
            refine dl [.gen (.lit (.string (ByteArray.mk A.toArray))) (k + 5) [(k + 4, ⟨1, true, [[.lit (.int .i64 g)], [.lit (.int .i64 c)]]⟩)] [], .ret (.lit (.string (ByteArray.mk V.toArray))), .ret (.lit (.string (ByteArray.mk Z.toArray))), .ret (.lit (.string (ByteArray.mk Y.toArray))), .gen (.tup []) (k + 7) [(k + 1, ⟨1, false, [[.lit (.slice none 0 0)]]⟩)] [(k + 6, ⟨1, true, [[.lit (.string (ByteArray.mk X.toArray))]]⟩), (k + 1, ⟨1, false, [[.sl (k + 6) 0 1]]⟩)]] ?_ <;> and_intros <;> first | exact hdT | (apply zM; (repeat intro ht); apply zM; (repeat intro hg); apply zM)
            · rw [eA]; exact line_g hG (k + 5) (k + 4) wSpot (by decide) [g, c] (by simp) (by simp [g1, g2])
            · rw [wrap_u64' g8.1 g8.2]; exact hlr
            · rw [← eX]; exact add_c (k + 5) (k + 1) (k + 2) (by omega) (by omega) (by omega) [] (by simp) X
            refine wl ?_ <;> and_intros <;> first | exact hdT | (apply zM; (repeat intro ht); apply zM; (repeat intro hg); apply zM)
            refine ⟨j + 1, by omega, by omega, ?_⟩
            rw [hsn, show ((j + 1 : Nat) : Int) = (j : Int) + 1 by omega]
            refine rR ?_ <;> first | exact hdT | apply zN
            exact Mv.app (k + 6) (k + 2) ⟨by omega, by omega⟩ ⟨by omega, by omega⟩ (wk_low (by omega) (by simp -dsimp -implicitDefEqProofs only [go_sem, hx, List.map_append, Flt.row, eq_self, ↓reduceIte]) (by simp -dsimp -implicitDefEqProofs only [go_sem, hx, List.map_append, Flt.row, eq_self, ↓reduceIte]) (by simp -dsimp -implicitDefEqProofs only [go_sem, hx, List.map_append, Flt.row, eq_self, ↓reduceIte]) (by simp -dsimp -implicitDefEqProofs only [go_sem, hx, List.map_append, Flt.row, eq_self, ↓reduceIte]))
          · have hLl : L.length ≤ 90000 := by simp at hL; omega
            have uU := @hx
            refine rR ?_ <;> first | exact hdT | apply zN
            refine wl ?_ <;> and_intros <;> first | exact hdT | (apply zM; (repeat intro ht); apply zM; (repeat intro hg); apply zM)
            refine dl [.gen (.lit (.string (ByteArray.mk A.toArray))) (k + 5) [(k + 4, ⟨1, true, [[.lit (.int .i64 g)], [.lit (.int .i64 c)]]⟩)] [], .ret (.lit (.string (ByteArray.mk V.toArray))), .ret (.lit (.string (ByteArray.mk Z.toArray))), .ret (.lit (.string (ByteArray.mk Y.toArray))), .gen (.tup []) (k + 7) [(k + 2, ⟨1, true, x0 :: L⟩), (k + 1, ⟨1, false, [[.sl (k + 2) 0 (L.length + 1)]]⟩)] [(k + 6, ⟨1, true, (x0 :: L) ++ [[.lit (.string (ByteArray.mk X.toArray))]]⟩), (k + 1, ⟨1, false, [[.sl (k + 6) 0 (L.length + 1 + 1)]]⟩)]] ?_ <;> and_intros <;> first | exact hdT | (apply zM; (repeat intro ht); apply zM; (repeat intro hg); apply zM)
            · rw [eA]; exact line_g hG (k + 5) (k + 4) wSpot (by decide) [g, c] (by simp) (by simp [g1, g2])
            · rw [wrap_u64' g8.1 g8.2]; exact hlr
            · rw [← eX]; exact add_c (k + 5) (k + 1) (k + 2) (by omega) (by omega) (by omega) (x0 :: L) (by simp at hL ⊢; omega) X
            refine wl ?_ <;> and_intros <;> first | exact hdT | (apply zM; (repeat intro ht); apply zM; (repeat intro hg); apply zM)
            refine ⟨j + 1, by omega, by omega, ?_⟩
            rw [hsn, show ((j + 1 : Nat) : Int) = (j : Int) + 1 by omega]
            refine rR ?_ <;> first | exact hdT | apply zN
            exact Mv.app (k + 6) (k + 2) ⟨by omega, by omega⟩ ⟨by omega, by omega⟩ (wk_low (by omega) (by simp -dsimp -implicitDefEqProofs only [go_sem, hx, List.map_append, Flt.row, eq_self, ↓reduceIte]) (by simp -dsimp -implicitDefEqProofs only [go_sem, hx, List.map_append, Flt.row, eq_self, ↓reduceIte]) (by simp -dsimp -implicitDefEqProofs only [go_sem, hx, List.map_append, Flt.row, eq_self, ↓reduceIte]) (by simp -dsimp -implicitDefEqProofs only [go_sem, hx, List.map_append, Flt.row, eq_self, ↓reduceIte]))
        · have hje : j = d.n5 := by omega
          rw [hje] at eL
          refine rR ?_ <;> first | exact hdT | apply zN
          refine wl ?_ <;> and_intros <;> first | exact hdT | (apply zM; (repeat intro ht); apply zM; (repeat intro hg); apply zM)
          refine W_mv (Mv.frz_acc (id := k + 2) (s := 1) (l := L) 2 rfl (by simp only [accIn_self])) ?_
          refine C_ret rfl ⟨_, rfl, ?_⟩
          rw [eRES, elsD_eq, show rows 1 L = rows 1 ((elL (cCk d) d.n0 ++ (elL (cCu d) d.n1 ++ (elL (cWg d) d.n2 ++ (elL (cGn d) d.n3 ++ (elL (cTk d) d.n4 ++ elL (cSp d) d.n5))))).map rowT) by rw [eL, eLR, eLQ, eLP]; simp only [preE, List.append_assoc]]
          exact VLe.refl _
end Go.Proofs.T
end
section
namespace Go.Proofs.T
open Go Go.AM Go.Proofs Go.Lib
set_option maxRecDepth 20000
variable {Γ : List (Nat × List AVal)}
attribute [local irreducible] putO del
attribute [local go_sem] strs
theorem lines_s (hG : GT Γ) (d : DE) (hr : DRng d) (hd : d.size ≤ 20000) : AM.Pure Tryz.prog Γ 84 [.agg d.cells] (strs ((elsD d).map lnT)) := Pure_leD (lines_c hG d hr hd) (rowT_strs _)
theorem negW_iff {w : List UInt8} : negW w = true ↔ 1 < w.length ∧ (w.getD 0 0).toNat = 45 := by
  unfold negW
  rw [Bool.and_eq_true, decide_eq_true_eq, decide_eq_true_eq]
  refine and_congr_right fun h => ?_
  cases w with
  | nil => simp at h
  | cons c r =>
    simp only [List.head?_cons, Option.some.injEq, List.getD_cons_zero]
    exact ⟨fun h => by rw [h]; rfl, fun h => UInt8.toNat_inj.1 (by rw [h]; rfl)⟩
theorem words_len {e : El} (h : e.rng) : (wds e).length ≤ 9 := by cases e <;> simp [wds, El.words]
theorem jn_mem {w : List UInt8} : ∀ {ws : List (List UInt8)}, w ∈ ws → w.length ≤ (jn ws).length
  | [], h => by cases h
  | [x], h => by simp at h; rw [h, jn]; exact Nat.le_refl _
  | x :: y :: r, h => by
    rw [jn, List.length_append, List.length_cons]
    rcases List.mem_cons.1 h with h | h
    · rw [h]; omega
    · have := jn_mem h; omega
theorem word_len {e : El} (h : e.rng) {w : List UInt8} (hw : w ∈ wds e) : w.length ≤ 1000 := by
  have h1 := jn_mem hw
  have h2 := lnT_len h
  rw [lnT] at h2
  omega
theorem plain_c (hG : GT Γ) (d : DE) (hr : DRng d) (hd : d.size ≤ 20000) : AM.Pure Tryz.prog Γ 83 [.agg d.cells] (.lit (.bool (wrOk (elsD d)))) := by
  obtain ⟨E, eE, hE, hEr⟩ : ∃ E, E = elsD d ∧ E.length ≤ 20000 ∧ ∀ e ∈ E, e.rng := ⟨_, rfl, by rw [elsD_len]; exact hd, elsD_rng hr⟩
  have hl := lines_s hG d hr hd
  rw [← eE] at hl ⊢
  obtain ⟨B, eB⟩ : ∃ B, B = wrOk E := ⟨_, rfl⟩
  rw [← eB]
  obtain ⟨Ls, eLs, hLs⟩ : ∃ Ls, Ls = E.map lnT ∧ Ls.length = E.length := ⟨_, rfl, by simp⟩
  rw [← eLs] at hl
  refine Pure_at Tryz.func83 rfl 31 rfl (Nat.le_of_ble_eq_true rfl) rfl fun k => ?_
  have kp : Kp [0,1,2,4,6,8,9,10,11,15,16,17,18,28] (fun i => i - k) := kpI
  refine wl ?_ <;> and_intros <;> first | exact hdT | (apply zM; (repeat intro ht); apply zM; (repeat intro hg); apply zM)
  refine cl [.ret (strs Ls)] ?_ <;> and_intros <;> first | exact hdT | (apply zM; (repeat intro ht); apply zM; (repeat intro hg); apply zM)
  · exact hl
  refine wl ?_ <;> and_intros <;> first | exact hdT | (apply zM; (repeat intro ht); apply zM; (repeat intro hg); apply zM)
  refine M_forO (X := Nat) rfl [0,1,2,4,6,8,9,10,11,15,16,17,18,28] (k + 1) (fun i => [(10, .lit (.int .i64 (i : Int)))]) (fun i => [(k, ⟨6, true, [d.cells]⟩)]) (fun i => i ≤ E.length ∧ ∀ e ∈ E.take i, e.plain) (fun i => E.length - i) 0 ?_ ⟨Nat.zero_le _, by simp⟩ ?_
  · refine rR ?_ <;> first | exact hdT | apply zN
    exact wkF
  rintro i ⟨hi, hall⟩
  refine rR ?_ <;> first | exact hdT | apply zN
  by_cases hlt : i < E.length
  · obtain ⟨e, ee⟩ : ∃ e, e = E[i] := ⟨_, rfl⟩
    have hem : e ∈ E := by rw [ee]; exact List.getElem_mem hlt
    have her := hEr e hem
    have hs : Ls.getD i [] = lnT e := by rw [eLs, List.getD_eq_getElem?_getD, List.getElem?_map, List.getElem?_eq_getElem hlt, ee]; rfl
    have htk : E.take (i + 1) = E.take i ++ [e] := by rw [ee, List.take_append_getElem hlt]
    obtain ⟨S, eS, hS⟩ : ∃ S, S = lnT e ∧ S.length ≤ 1000 := ⟨_, rfl, lnT_len her⟩
    rw [← eS] at hs
    obtain ⟨ws, ews, hws⟩ : ∃ ws, ws = wds e ∧ ws.length ≤ 9 := ⟨_, rfl, words_len her⟩
    have hsp := split_c hG S (by omega)
    rw [eS, split_lnT, ← ews] at hsp
    rw [← eS] at hsp
    have hneg := wds_neg e
    have hwl : ∀ w ∈ ws, w.length ≤ 1000 := fun w hw => by rw [ews] at hw; exact word_len her hw
    rw [← ews] at hneg
    have uU := @hs
    refine wl ?_ <;> and_intros <;> first | exact hdT | (apply zM; (repeat intro ht); apply zM; (repeat intro hg); apply zM)
    refine cl [.ret (strs ws)] ?_ <;> and_intros <;> first | exact hdT | (apply zM; (repeat intro ht); apply zM; (repeat intro hg); apply zM)
    · exact hsp
    refine wl ?_ <;> and_intros <;> first | exact hdT | (apply zM; (repeat intro ht); apply zM; (repeat intro hg); apply zM)
    refine M_forO (X := Nat) rfl [0,1,2,4,6,8,9,10,11,15,16,17,18,28] (k + 1) (fun j => [(17, .lit (.int .i64 (j : Int)))]) (fun j => [(k, ⟨6, true, [d.cells]⟩)]) (fun j => j ≤ ws.length ∧ (ws.take j).any negW = false) (fun j => ws.length - j) 0 ?_ ⟨Nat.zero_le _, rfl⟩ ?_
    · refine rR ?_ <;> first | exact hdT | apply zN
      (have uU := @hs; exact wkU)
    rintro j ⟨hj, hno⟩
    refine rR ?_ <;> first | exact hdT | apply zN
    by_cases hjl : j < ws.length
    · obtain ⟨w, ew, hw⟩ : ∃ w, w = ws.getD j [] ∧ w ∈ ws := ⟨_, rfl, by rw [List.getD_eq_getElem?_getD, List.getElem?_eq_getElem hjl]; exact List.getElem_mem hjl⟩
      have hwl' := hwl w hw
      have htk' : ws.take (j + 1) = ws.take j ++ [w] := by rw [ew, List.getD_eq_getElem?_getD, List.getElem?_eq_getElem hjl]; exact (List.take_append_getElem hjl).symm
      have hiff := negW_iff (w := w)
      obtain ⟨q, eq⟩ : ∃ q, q = (w.getD 0 0).toNat := ⟨_, rfl⟩
      rw [← eq] at hiff
      have uU := And.intro (Eq.symm (ew)) (Eq.symm (eq))
      refine wl ?_ <;> and_intros <;> first | exact hdT | (apply zM; (repeat intro ht); apply zM; (repeat intro hg); apply zM)
      · have hn : ¬ e.plain := fun hp => by
          have h1 : ws.any negW = true := List.any_eq_true.2 ⟨w, hw, hiff.2 ⟨by omega, by omega⟩⟩
          rw [h1, decide_eq_true hp] at hneg
          exact absurd hneg (by decide)
        refine wl ?_ <;> and_intros <;> first | exact hdT | (apply zM; (repeat intro ht); apply zM; (repeat intro hg); apply zM)
        refine C_ret rfl ⟨_, rfl, VLe.of_eq ?_⟩
        rw [eB, wrOk_no hem hn]
      all_goals
        refine ⟨j + 1, ⟨by omega, ?_⟩, by omega, ?_⟩
        · have h1 : negW w = false := by
            rw [Bool.eq_false_iff]; intro h
            have := hiff.1 h
            omega
          rw [htk', List.any_append, hno]
          simp [h1]
        · rw [show ((j + 1 : Nat) : Int) = (j : Int) + 1 by omega]
          exact Mv.wk (wk_low (by omega) (by simp -dsimp -implicitDefEqProofs only [go_sem, ← ew, ← eq, List.map_append, Flt.row, eq_self, ↓reduceIte]) (by simp -dsimp -implicitDefEqProofs only [go_sem, ← ew, ← eq, List.map_append, Flt.row, eq_self, ↓reduceIte]) (by simp -dsimp -implicitDefEqProofs only [go_sem, ← ew, ← eq, List.map_append, Flt.row, eq_self, ↓reduceIte]) (by simp -dsimp -implicitDefEqProofs only [go_sem, ← ew, ← eq, List.map_append, Flt.row, eq_self, ↓reduceIte]))
    · have hpl : e.plain := by
        rw [List.take_of_length_le (by omega)] at hno
        rw [hno] at hneg
        cases hd' : decide e.plain with
        | true => exact of_decide_eq_true hd'
        | false => rw [hd'] at hneg; exact absurd hneg (by decide)
      have uU := Go.AM.uU
      refine wl ?_ <;> and_intros <;> first | exact hdT | (apply zM; (repeat intro ht); apply zM; (repeat intro hg); apply zM)
      refine ⟨i + 1, ⟨by omega, fun e' he' => ?_⟩, by omega, ?_⟩
      · rw [htk, List.mem_append, List.mem_singleton] at he'
        rcases he' with he' | he'
        · exact hall e' he'
        · rw [he']; exact hpl
      · rw [show ((i + 1 : Nat) : Int) = (i : Int) + 1 by omega]
        exact wkF
  ·
    refine wl ?_ <;> and_intros <;> first | exact hdT | (apply zM; (repeat intro ht); apply zM; (repeat intro hg); apply zM)
    refine C_ret rfl ⟨_, rfl, VLe.of_eq ?_⟩
    rw [eB, wrOk_yes (fun e he => hall e (by rw [List.take_of_length_le (by omega)]; exact he))]
theorem write_c (hG : GT Γ) (d : DE) (hr : DRng d) (hd : d.size ≤ 20000) : AM.Pure Tryz.prog Γ 27 [.agg d.cells] (.tup [strs (wrL (elsD d)), .lit (.int .i64 (wrE (elsD d)))]) := by
  obtain ⟨E, eE⟩ : ∃ E, E = elsD d := ⟨_, rfl⟩
  have hp := plain_c hG d hr hd
  have hl := lines_s hG d hr hd
  rw [← eE] at hp hl ⊢
  obtain ⟨B, eB⟩ : ∃ B, B = wrOk E := ⟨_, rfl⟩
  rw [← eB] at hp
  unfold wrL wrE
  rw [← eB]
  obtain ⟨Ls, eLs⟩ : ∃ Ls, Ls = E.map lnT := ⟨_, rfl⟩
  rw [← eLs] at hl ⊢
  cases B
  · rw [if_neg (by simp), if_neg (by simp)]
    refine Pure_at Tryz.func27 rfl 9 rfl (Nat.le_of_ble_eq_true rfl) rfl fun k => ?_
    have kp : Kp [0,1,2,3,6] (fun i => i - k) := kpI
    refine wl ?_ <;> and_intros <;> first | exact hdT | (apply zM; (repeat intro ht); apply zM; (repeat intro hg); apply zM)
    refine cl [.ret (.lit (.bool false))] ?_ <;> and_intros <;> first | exact hdT | (apply zM; (repeat intro ht); apply zM; (repeat intro hg); apply zM)
    · exact hp
    refine wl ?_ <;> and_intros <;> first | exact hdT | (apply zM; (repeat intro ht); apply zM; (repeat intro hg); apply zM)
    refine wl ?_ <;> and_intros <;> first | exact hdT | (apply zM; (repeat intro ht); apply zM; (repeat intro hg); apply zM)
    exact C_ret rfl ⟨_, rfl, VLe.tups (.cons (VLe.nil _ _) (.cons (VLe.refl _) .nil))⟩
  · rw [if_pos rfl, if_pos rfl]
    refine Pure_at Tryz.func27 rfl 9 rfl (Nat.le_of_ble_eq_true rfl) rfl fun k => ?_
    have kp : Kp [0,1,2,3,6] (fun i => i - k) := kpI
    refine wl ?_ <;> and_intros <;> first | exact hdT | (apply zM; (repeat intro ht); apply zM; (repeat intro hg); apply zM)
    refine cl [.ret (.lit (.bool true))] ?_ <;> and_intros <;> first | exact hdT | (apply zM; (repeat intro ht); apply zM; (repeat intro hg); apply zM)
    · exact hp
    refine wl ?_ <;> and_intros <;> first | exact hdT | (apply zM; (repeat intro ht); apply zM; (repeat intro hg); apply zM)
    refine cl [.ret (strs Ls)] ?_ <;> and_intros <;> first | exact hdT | (apply zM; (repeat intro ht); apply zM; (repeat intro hg); apply zM)
    · exact hl
    exact C_ret rfl ⟨_, rfl, VLe.refl _⟩
end Go.Proofs.T
end
section
namespace Go.Proofs.T
open Go Go.AM Go.Proofs Go.Lib
set_option maxRecDepth 20000
variable {Γ : List (Nat × List AVal)}
theorem dec35_c (x : Int) (hx : U64 x) : AM.Pure Tryz.prog Γ 174 [.lit (.int .u64 x)] (.lit (.string (ByteArray.mk (fmt x).toArray))) := by
  have h1 := hx.1
  have h2 := hx.2
  have h := decU_c (Γ := Γ) x.toNat (by omega)
  rw [show ((x.toNat : Nat) : Int) = x by omega] at h
  exact h
theorem words_c (w : List UInt8) (hw : w.length ≤ 10000) (vs : List Int) (hv : vs.length ≤ 100) (hr : ∀ x ∈ vs, U64 x) : AM.Pure Tryz.prog Γ 102 [.lit (.string (ByteArray.mk w.toArray)), .rd 1 vs.length (fun i => [.lit (.int .u64 (vs.getD i 0))])] (.lit (.string (ByteArray.mk (lnW w (vs.map fmt)).toArray))) := by
  obtain ⟨X, eX⟩ : ∃ X, X = lnW w (vs.map fmt) := ⟨_, rfl⟩
  rw [← eX]
  refine Pure_at Tryz.func102 rfl 21 rfl (Nat.le_of_ble_eq_true rfl) rfl fun k => ?_
  have kp : Kp [0,1,4,5,9] (fun i => i - k) := kpI
  refine wl ?_ <;> and_intros <;> first | exact hdT | (apply zM; (repeat intro ht); apply zM; (repeat intro hg); apply zM)
  refine M_forO (X := Nat) rfl [0,1,4,5,9] k (fun j => [(5, .lit (.int .i64 (j : Int))), (0, .lit (.string (ByteArray.mk (lnW w ((vs.take j).map fmt)).toArray)))]) (fun j => []) (fun j => j ≤ vs.length) (fun j => vs.length - j) 0 ?_ (Nat.zero_le _) ?_
  · rw [show lnW w ((vs.take 0).map fmt) = w from rfl]
    refine rR ?_ <;> first | exact hdT | apply zN
    exact wkF
  intro j hj
  obtain ⟨A, eA, hA⟩ : ∃ A, A = lnW w ((vs.take j).map fmt) ∧ A.length ≤ 20000 := ⟨_, rfl, by
    have := lnW_len ((vs.take j).map fmt) w 20 (fun x hx => by
      obtain ⟨y, hy, rfl⟩ := List.mem_map.1 hx
      exact fmt_len (hr y (List.mem_of_mem_take hy)))
    rw [List.length_map, List.length_take] at this
    have h2 : min j vs.length * (20 + 1) ≤ 100 * 21 := Nat.mul_le_mul (by omega) (by omega)
    omega⟩
  rw [← eA]
  refine rR ?_ <;> first | exact hdT | apply zN
  by_cases hlt : j < vs.length
  · obtain ⟨x, ex, hx⟩ : ∃ x, x = vs.getD j 0 ∧ U64 x := ⟨_, rfl, hr _ (by rw [List.getD_eq_getElem?_getD, List.getElem?_eq_getElem hlt]; exact List.getElem_mem hlt)⟩
    have hi := dec35_c (Γ := Γ) x hx
    have hil := fmt_len hx
    obtain ⟨I, eI⟩ : ∃ I, I = fmt x := ⟨_, rfl⟩
    rw [← eI] at hi hil
    have uU := Eq.symm (ex)
    refine wl ?_ <;> and_intros <;> first | exact hdT | (apply zM; (repeat intro ht); apply zM; (repeat intro hg); apply zM)
    refine cl [.ret (.lit (.string (ByteArray.mk I.toArray)))] ?_ <;> and_intros <;> first | exact hdT | (apply zM; (repeat intro ht); apply zM; (repeat intro hg); apply zM)
    refine wl ?_ <;> and_intros <;> first | exact hdT | (apply zM; (repeat intro ht); apply zM; (repeat intro hg); apply zM)
    refine ⟨j + 1, by omega, by omega, ?_⟩
    rw [take_succ_map fmt 0 vs hlt, lnW_snoc, ← eA, ← ex, ← eI, show ((j + 1 : Nat) : Int) = (j : Int) + 1 by omega]
    have hs : A ++ [32] ++ I = A ++ 32 :: I := by simp
    try rw [hs]
    exact Mv.wk (wk_low (by omega) (by simp -dsimp -implicitDefEqProofs only [go_sem, ← ex, List.map_append, Flt.row, eq_self, ↓reduceIte]) (by simp -dsimp -implicitDefEqProofs only [go_sem, ← ex, List.map_append, Flt.row, eq_self, ↓reduceIte]) (by simp -dsimp -implicitDefEqProofs only [go_sem, ← ex, List.map_append, Flt.row, eq_self, ↓reduceIte]) (by simp -dsimp -implicitDefEqProofs only [go_sem, ← ex, List.map_append, Flt.row, eq_self, ↓reduceIte]))
  ·
    refine wl ?_ <;> and_intros <;> first | exact hdT | (apply zM; (repeat intro ht); apply zM; (repeat intro hg); apply zM)
    refine C_ret rfl ⟨_, rfl, VLe.of_eq ?_⟩
    rw [eA, eX, List.take_of_length_le (by omega)]
theorem words_g (k id : Nat) (w : List UInt8) (hw : w.length ≤ 10000) (vs : List Int) (hv : vs.length ≤ 100) (hr : ∀ x ∈ vs, U64 x) : AM.Tr Tryz.prog Γ 102 k [.lit (.string (ByteArray.mk w.toArray)), .sl id 0 vs.length] [(id, ⟨1, true, vs.map fun x => [.lit (.int .u64 x)]⟩)]
    (fun k1 r1 H1 => k1 = k ∧ r1 = .lit (.string (ByteArray.mk (lnW w (vs.map fmt)).toArray)) ∧ H1 = []) := by
  refine Tr_lend (.cons Bor.lit0 (.cons ?_ .nil)) (words_c w hw vs hv hr)
  refine Bor.sl (B := ⟨1, true, vs.map fun x => [.lit (.int .u64 x)]⟩) (by simp [AM.look]) (by simp) (fun i hi => rfl) (fun i row j v v' hi h1 h2 h3 => ?_)
  rw [Nat.zero_add, List.getElem?_map, List.getElem?_eq_getElem hi] at h1
  simp only [Option.map_some, Option.some.injEq] at h1
  rw [← h1] at h2
  have e : vs.getD i 0 = vs[i] := by simp [List.getD, hi]
  rw [e, h2] at h3
  cases h3
  match j with
  | 0 => cases h2; exact Bor.lit0
  | j + 1 => simp at h2
end Go.Proofs.T
end
section
namespace Go.Proofs.T
open Go Go.AM Go.Proofs Go.Lib
set_option maxRecDepth 20000
variable {Γ : List (Nat × List AVal)}
attribute [local irreducible] putO del
def rwN (l : List El) : List (List AVal) := (l.flatMap El.ints).map nR
theorem rwN_len (l : List El) : (rwN l).length ≤ 4 * l.length := by
  unfold rwN
  rw [List.length_map]
  induction l with
  | nil => simp
  | cons e r ih =>
    have : e.ints.length ≤ 4 := by cases e <;> simp [El.ints]
    rw [List.flatMap_cons, List.length_append, List.length_cons]; omega
theorem f3_oneN (d : DE) (n : Nat) : (((List.range n).map d.f3).all fun row => row.all AM.one) = true := by
  rw [List.all_eq_true]; intro row hr; obtain ⟨i, _, rfl⟩ := List.mem_map.1 hr; rfl
theorem f3_cleanN (d : DE) (n : Nat) : (((List.range n).map d.f3).all fun row => row.all clean) = true := by
  rw [List.all_eq_true]; intro row hr; obtain ⟨i, _, rfl⟩ := List.mem_map.1 hr; rfl
theorem rwN_snoc (l : List El) (c : Nat → El) (j : Nat) (L : List (List AVal)) (h : L = rwN (l ++ elL c j)) : rwN (l ++ elL c (j + 1)) = L ++ (c j).ints.map nR := by
  rw [h, rwN, rwN, elL_succ, ← List.append_assoc, List.flatMap_append, List.map_append]; simp
theorem rwN_gn (l : List El) (d : DE) : rwN (l ++ elL (cGn d) d.n3) = rwN l ++ (List.range d.n3).map d.f3 := by
  rw [rwN, rwN, List.flatMap_append, List.map_append]
  congr 1
  unfold elL
  rw [List.flatMap_map]
  induction (List.range d.n3) with
  | nil => rfl
  | cons a r ih => rw [List.flatMap_cons, List.map_append, ih]; rfl
set_option maxHeartbeats 8000000 in
theorem numbers_c (d : DE) (hd : d.size ≤ 20000) : AM.Pure Tryz.prog Γ 101 [.agg d.cells] (rows 1 (rwN (elsD d))) := by
  have hsz : d.n0 + d.n1 + d.n2 + d.n3 + d.n4 + d.n5 ≤ 20000 := hd
  obtain ⟨RES, eRES⟩ : ∃ RES, RES = rows 1 (rwN (elsD d)) := ⟨_, rfl⟩
  have hRES : bd (fun _ => false) RES = true := by rw [eRES]; rfl
  rw [← eRES]
  refine Pure_at Tryz.func101 rfl 102 rfl (Nat.le_of_ble_eq_true rfl) (by exact hRES) fun k => ?_
  have kp : Kp [0,1,2,3,5,6,7,8,15,16,17,18,24,49,83] (fun i => i - k) := kpI
  refine wl ?_ <;> and_intros <;> first | exact hdT | (apply zM; (repeat intro ht); apply zM; (repeat intro hg); apply zM)
  refine M_forO (X := Nat) rfl [0,1,2,3,5,6,7,8,15,16,17,18,24,49,83] (k + 3) (fun i => [(17, .lit (.int .i64 (i : Int))), (3, accV (k + 2) (rwN (preE d i)))]) (fun i => accH (k + 2) 1 (rwN (preE d i)) [(k + 1, ⟨1, true, [[.rd 2 d.n0 d.f0], [.rd 2 d.n1 d.f1], [.rd 2 d.n2 d.f2]]⟩), (k, ⟨6, true, [d.cells]⟩)]) (fun i => i ≤ 3) (fun i => 3 - i) 0 ?_ (Nat.zero_le _) ?_
  · rw [show rwN (preE d 0) = [] from rfl]
    refine rR ?_ <;> first | exact hdT | apply zN
    exact wkF
  intro i hi
  rcases (show i = 0 ∨ i = 1 ∨ i = 2 ∨ i = 3 by omega) with rfl | rfl | rfl | rfl
  · refine wl ?_ <;> and_intros <;> first | exact hdT | (apply zM; (repeat intro ht); apply zM; (repeat intro hg); apply zM)
    refine M_forO (X := Nat) rfl [0,1,2,3,5,6,7,8,15,16,17,18,24,49,83] (k + 3) (fun j => [(6, .lit (.int .i64 (j : Int))), (3, accV (k + 2) (rwN (preE d 0 ++ elL (cCk d) j)))]) (fun j => accH (k + 2) 1 (rwN (preE d 0 ++ elL (cCk d) j)) [(k + 1, ⟨1, true, [[.rd 2 d.n0 d.f0], [.rd 2 d.n1 d.f1], [.rd 2 d.n2 d.f2]]⟩), (k, ⟨6, true, [d.cells]⟩)]) (fun j => j ≤ d.n0) (fun j => d.n0 - j) 0 ?_ (Nat.zero_le _) ?_
    · rw [elL_zero, List.append_nil]
      refine rR ?_ <;> first | exact hdT | apply zN
      exact wkF
    intro j hj
    obtain ⟨L, eL, hL⟩ : ∃ L, L = rwN (preE d 0 ++ elL (cCk d) j) ∧ L.length ≤ 400000 := ⟨_, rfl, by have := rwN_len (preE d 0 ++ elL (cCk d) j); rw [List.length_append, elL_len] at this; have := preE_len d 0; omega⟩
    rw [← eL]
    by_cases hlt : j < d.n0
    · have hsn := rwN_snoc (preE d 0) (cCk d) j L eL
      clear eL
      obtain ⟨a, b, hab⟩ : ∃ a b, d.ck j = (a, b) := ⟨_, _, rfl⟩
      have hrow : (cCk d j).ints.map nR = [[.lit (.int .i64 a)], [.lit (.int .i64 b)]] := by rw [cCk, hab]; rfl
      rw [hrow] at hsn
      clear hrow
      rcases L with _ | ⟨x0, L⟩
      ·
        have uU := @hab
        refine rR ?_ <;> first | exact hdT | apply zN
        refine wl ?_ <;> and_intros <;> first | exact hdT | (apply zM; (repeat intro ht); apply zM; (repeat intro hg); apply zM)
        refine ⟨j + 1, by omega, by omega, ?_⟩
        rw [hsn, show ((j + 1 : Nat) : Int) = (j : Int) + 1 by omega]
        refine rR ?_ <;> first | exact hdT | apply zN
        exact Mv.app (k + 4) (k + 2) ⟨by omega, by omega⟩ ⟨by omega, by omega⟩ (wk_low (by omega) (by simp -dsimp -implicitDefEqProofs only [go_sem, hab, List.map_append, Flt.row, eq_self, ↓reduceIte]) (by simp -dsimp -implicitDefEqProofs only [go_sem, hab, List.map_append, Flt.row, eq_self, ↓reduceIte]) (by simp -dsimp -implicitDefEqProofs only [go_sem, hab, List.map_append, Flt.row, eq_self, ↓reduceIte]) (by simp -dsimp -implicitDefEqProofs only [go_sem, hab, List.map_append, Flt.row, eq_self, ↓reduceIte]))
      · have hLl : L.length ≤ 400000 := by simp at hL; omega
        have uU := @hab
        refine rR ?_ <;> first | exact hdT | apply zN
        refine wl ?_ <;> and_intros <;> first | exact hdT | (apply zM; (repeat intro ht); apply zM; (repeat intro hg); apply zM)
        refine ⟨j + 1, by omega, by omega, ?_⟩
        rw [hsn, show ((j + 1 : Nat) : Int) = (j : Int) + 1 by omega]
        refine rR ?_ <;> first | exact hdT | apply zN
        exact Mv.app (k + 4) (k + 2) ⟨by omega, by omega⟩ ⟨by omega, by omega⟩ (wk_low (by omega) (by simp -dsimp -implicitDefEqProofs only [go_sem, hab, List.map_append, Flt.row, eq_self, ↓reduceIte]) (by simp -dsimp -implicitDefEqProofs only [go_sem, hab, List.map_append, Flt.row, eq_self, ↓reduceIte]) (by simp -dsimp -implicitDefEqProofs only [go_sem, hab, List.map_append, Flt.row, eq_self, ↓reduceIte]) (by simp -dsimp -implicitDefEqProofs only [go_sem, hab, List.map_append, Flt.row, eq_self, ↓reduceIte]))
    · have hje : j = d.n0 := by omega
      rw [hje] at eL
      refine rR ?_ <;> first | exact hdT | apply zN
      refine wl ?_ <;> and_intros <;> first | exact hdT | (apply zM; (repeat intro ht); apply zM; (repeat intro hg); apply zM)
      refine ⟨1, by omega, by omega, ?_⟩
      rw [show rwN (preE d 1) = L by rw [eL]; rfl]
      refine rR ?_ <;> first | exact hdT | apply zN
      exact wkF
  · refine wl ?_ <;> and_intros <;> first | exact hdT | (apply zM; (repeat intro ht); apply zM; (repeat intro hg); apply zM)
    refine M_forO (X := Nat) rfl [0,1,2,3,5,6,7,8,15,16,17,18,24,49,83] (k + 3) (fun j => [(6, .lit (.int .i64 (j : Int))), (3, accV (k + 2) (rwN (preE d 1 ++ elL (cCu d) j)))]) (fun j => accH (k + 2) 1 (rwN (preE d 1 ++ elL (cCu d) j)) [(k + 1, ⟨1, true, [[.rd 2 d.n0 d.f0], [.rd 2 d.n1 d.f1], [.rd 2 d.n2 d.f2]]⟩), (k, ⟨6, true, [d.cells]⟩)]) (fun j => j ≤ d.n1) (fun j => d.n1 - j) 0 ?_ (Nat.zero_le _) ?_
    · rw [elL_zero, List.append_nil]
      refine rR ?_ <;> first | exact hdT | apply zN
      exact wkF
    intro j hj
    obtain ⟨L, eL, hL⟩ : ∃ L, L = rwN (preE d 1 ++ elL (cCu d) j) ∧ L.length ≤ 400000 := ⟨_, rfl, by have := rwN_len (preE d 1 ++ elL (cCu d) j); rw [List.length_append, elL_len] at this; have := preE_len d 1; omega⟩
    rw [← eL]
    by_cases hlt : j < d.n1
    · have hsn := rwN_snoc (preE d 1) (cCu d) j L eL
      clear eL
      obtain ⟨a, b, hab⟩ : ∃ a b, d.cu j = (a, b) := ⟨_, _, rfl⟩
      have hrow : (cCu d j).ints.map nR = [[.lit (.int .i64 a)], [.lit (.int .i64 b)]] := by rw [cCu, hab]; rfl
      rw [hrow] at hsn
      clear hrow
      rcases L with _ | ⟨x0, L⟩
      ·
        have uU := @hab
        refine rR ?_ <;> first | exact hdT | apply zN
        refine wl ?_ <;> and_intros <;> first | exact hdT | (apply zM; (repeat intro ht); apply zM; (repeat intro hg); apply zM)
        refine ⟨j + 1, by omega, by omega, ?_⟩
        rw [hsn, show ((j + 1 : Nat) : Int) = (j : Int) + 1 by omega]
        refine rR ?_ <;> first | exact hdT | apply zN
        exact Mv.app (k + 4) (k + 2) ⟨by omega, by omega⟩ ⟨by omega, by omega⟩ (wk_low (by omega) (by simp -dsimp -implicitDefEqProofs only [go_sem, hab, List.map_append, Flt.row, eq_self, ↓reduceIte]) (by simp -dsimp -implicitDefEqProofs only [go_sem, hab, List.map_append, Flt.row, eq_self, ↓reduceIte]) (by simp -dsimp -implicitDefEqProofs only [go_sem, hab, List.map_append, Flt.row, eq_self, ↓reduceIte]) (by simp -dsimp -implicitDefEqProofs only [go_sem, hab, List.map_append, Flt.row, eq_self, ↓reduceIte]))
      · have hLl : L.length ≤ 400000 := by simp at hL; omega
        have uU := @hab
        refine rR ?_ <;> first | exact hdT | apply zN
        refine wl ?_ <;> and_intros <;> first | exact hdT | (apply zM; (repeat intro ht); apply zM; (repeat intro hg); apply zM)
        refine ⟨j + 1, by omega, by omega, ?_⟩
        rw [hsn, show ((j + 1 : Nat) : Int) = (j : Int) + 1 by omega]
        refine rR ?_ <;> first | exact hdT | apply zN
        exact Mv.app (k + 4) (k + 2) ⟨by omega, by omega⟩ ⟨by omega, by omega⟩ (wk_low (by omega) (by simp -dsimp -implicitDefEqProofs only [go_sem, hab, List.map_append, Flt.row, eq_self, ↓reduceIte]) (by simp -dsimp -implicitDefEqProofs only [go_sem, hab, List.map_append, Flt.row, eq_self, ↓reduceIte]) (by simp -dsimp -implicitDefEqProofs only [go_sem, hab, List.map_append, Flt.row, eq_self, ↓reduceIte]) (by simp -dsimp -implicitDefEqProofs only [go_sem, hab, List.map_append, Flt.row, eq_self, ↓reduceIte]))
    · have hje : j = d.n1 := by omega
      rw [hje] at eL
      refine rR ?_ <;> first | exact hdT | apply zN
      refine wl ?_ <;> and_intros <;> first | exact hdT | (apply zM; (repeat intro ht); apply zM; (repeat intro hg); apply zM)
      refine ⟨2, by omega, by omega, ?_⟩
      rw [show rwN (preE d 2) = L by rw [eL]; rfl]
      refine rR ?_ <;> first | exact hdT | apply zN
      exact wkF
  · refine wl ?_ <;> and_intros <;> first | exact hdT | (apply zM; (repeat intro ht); apply zM; (repeat intro hg); apply zM)
    refine M_forO (X := Nat) rfl [0,1,2,3,5,6,7,8,15,16,17,18,24,49,83] (k + 3) (fun j => [(6, .lit (.int .i64 (j : Int))), (3, accV (k + 2) (rwN (preE d 2 ++ elL (cWg d) j)))]) (fun j => accH (k + 2) 1 (rwN (preE d 2 ++ elL (cWg d) j)) [(k + 1, ⟨1, true, [[.rd 2 d.n0 d.f0], [.rd 2 d.n1 d.f1], [.rd 2 d.n2 d.f2]]⟩), (k, ⟨6, true, [d.cells]⟩)]) (fun j => j ≤ d.n2) (fun j => d.n2 - j) 0 ?_ (Nat.zero_le _) ?_
    · rw [elL_zero, List.append_nil]
      refine rR ?_ <;> first | exact hdT | apply zN
      exact wkF
    intro j hj
    obtain ⟨L, eL, hL⟩ : ∃ L, L = rwN (preE d 2 ++ elL (cWg d) j) ∧ L.length ≤ 400000 := ⟨_, rfl, by have := rwN_len (preE d 2 ++ elL (cWg d) j); rw [List.length_append, elL_len] at this; have := preE_len d 2; omega⟩
    rw [← eL]
    by_cases hlt : j < d.n2
    · have hsn := rwN_snoc (preE d 2) (cWg d) j L eL
      clear eL
      obtain ⟨a, b, hab⟩ : ∃ a b, d.wg j = (a, b) := ⟨_, _, rfl⟩
      have hrow : (cWg d j).ints.map nR = [[.lit (.int .i64 a)], [.lit (.int .i64 b)]] := by rw [cWg, hab]; rfl
      rw [hrow] at hsn
      clear hrow
      rcases L with _ | ⟨x0, L⟩
      ·
        have uU := @hab
        refine rR ?_ <;> first | exact hdT | apply zN
        refine wl ?_ <;> and_intros <;> first | exact hdT | (apply zM; (repeat intro ht); apply zM; (repeat intro hg); apply zM)
        refine ⟨j + 1, by omega, by omega, ?_⟩
        rw [hsn, show ((j + 1 : Nat) : Int) = (j : Int) + 1 by omega]
        refine rR ?_ <;> first | exact hdT | apply zN
        exact Mv.app (k + 4) (k + 2) ⟨by omega, by omega⟩ ⟨by omega, by omega⟩ (wk_low (by omega) (by simp -dsimp -implicitDefEqProofs only [go_sem, hab, List.map_append, Flt.row, eq_self, ↓reduceIte]) (by simp -dsimp -implicitDefEqProofs only [go_sem, hab, List.map_append, Flt.row, eq_self, ↓reduceIte]) (by simp -dsimp -implicitDefEqProofs only [go_sem, hab, List.map_append, Flt.row, eq_self, ↓reduceIte]) (by simp -dsimp -implicitDefEqProofs only [go_sem, hab, List.map_append, Flt.row, eq_self, ↓reduceIte]))
      · have hLl : L.length ≤ 400000 := by simp at hL; omega
        have uU := @hab
        refine rR ?_ <;> first | exact hdT | apply zN
        refine wl ?_ <;> and_intros <;> first | exact hdT | (apply zM; (repeat intro ht); apply zM; (repeat intro hg); apply zM)
        refine ⟨j + 1, by omega, by omega, ?_⟩
        rw [hsn, show ((j + 1 : Nat) : Int) = (j : Int) + 1 by omega]
        refine rR ?_ <;> first | exact hdT | apply zN
        exact Mv.app (k + 4) (k + 2) ⟨by omega, by omega⟩ ⟨by omega, by omega⟩ (wk_low (by omega) (by simp -dsimp -implicitDefEqProofs only [go_sem, hab, List.map_append, Flt.row, eq_self, ↓reduceIte]) (by simp -dsimp -implicitDefEqProofs only [go_sem, hab, List.map_append, Flt.row, eq_self, ↓reduceIte]) (by simp -dsimp -implicitDefEqProofs only [go_sem, hab, List.map_append, Flt.row, eq_self, ↓reduceIte]) (by simp -dsimp -implicitDefEqProofs only [go_sem, hab, List.map_append, Flt.row, eq_self, ↓reduceIte]))
    · have hje : j = d.n2 := by omega
      rw [hje] at eL
      refine rR ?_ <;> first | exact hdT | apply zN
      refine wl ?_ <;> and_intros <;> first | exact hdT | (apply zM; (repeat intro ht); apply zM; (repeat intro hg); apply zM)
      refine ⟨3, by omega, by omega, ?_⟩
      rw [show rwN (preE d 3) = L by rw [eL]; rfl]
      refine rR ?_ <;> first | exact hdT | apply zN
      exact wkF
  · obtain ⟨LQ, eLQ⟩ : ∃ LQ, LQ = preE d 3 ++ elL (cGn d) d.n3 := ⟨_, rfl⟩
    have hLQ : LQ.length ≤ 20000 := by rw [eLQ, List.length_append, elL_len]; have := preE_len d 3; omega
    obtain ⟨L, eL, hL⟩ : ∃ L, L = rwN (preE d 3) ∧ L.length ≤ 400000 := ⟨_, rfl, by have := rwN_len (preE d 3); have := preE_len d 3; omega⟩
    have hgn : rwN LQ = L ++ (List.range d.n3).map d.f3 := by rw [eLQ, rwN_gn, eL]
    rw [← eL]
    clear eL
    have o3 := f3_oneN d
    have c3 := f3_cleanN d
    have hGl' : ((List.range d.n3).map d.f3).length = d.n3 := by simp
    refine rR ?_ <;> first | exact hdT | apply zN
    refine wl ?_ <;> and_intros <;> first | exact hdT | (apply zM; (repeat intro ht); apply zM; (repeat intro hg); apply zM)
    refine M_cutO [0,1,2,3,5,6,7,8,15,16,17,18,24,49,83] (k + 3) [(3, accV (k + 2) (rwN LQ))] (accH (k + 2) 1 (rwN LQ) [(k + 1, ⟨1, true, [[.rd 2 d.n0 d.f0], [.rd 2 d.n1 d.f1], [.rd 2 d.n2 d.f2]]⟩), (k, ⟨6, true, [d.cells]⟩)]) ?_ ?_
    · by_cases h0 : d.n3 = 0
      ·
        have uU := @h0
        refine wl ?_ <;> and_intros <;> first | exact hdT | (apply zM; (repeat intro ht); apply zM; (repeat intro hg); apply zM)
        rw [hgn, h0]
        simp only [List.range_zero, List.map_nil, List.append_nil]
        (have uU := @h0; exact wkU)
      · have hn3 : d.n3 ≤ 20000 := by omega
        obtain ⟨g0, G1, hG1⟩ : ∃ g0 G1, (List.range d.n3).map d.f3 = g0 :: G1 := by
          rcases hq : (List.range d.n3).map d.f3 with _ | ⟨g0, G1⟩
          · rw [hq] at hGl'; simp at hGl'; omega
          · exact ⟨_, _, rfl⟩
        have hGl1 : G1.length + 1 = d.n3 := by rw [hG1] at hGl'; simpa using hGl'
        rcases L with _ | ⟨x0, L⟩
        ·
          have uU := zA @h0 (zA @o3 (zA @c3 @hn3))
          refine wl ?_ <;> and_intros <;> first | exact hdT | (apply zM; (repeat intro ht); apply zM; (repeat intro hg); apply zM)
          rw [hgn, hG1]
          have uU := zA @h0 (zA @o3 (zA @c3 (zA @hn3 (zA @hGl1 @hG1))))
          refine rR ?_ <;> first | exact hdT | apply zN
          exact Mv.app (k + 3) (k + 2) ⟨by omega, by omega⟩ ⟨by omega, by omega⟩ (wk_low (by omega) (by simp -dsimp -implicitDefEqProofs only [go_sem, h0, o3, c3, hn3, hGl1, hG1, List.map_append, Flt.row, eq_self, ↓reduceIte]) (by simp -dsimp -implicitDefEqProofs only [go_sem, h0, o3, c3, hn3, hGl1, hG1, List.map_append, Flt.row, eq_self, ↓reduceIte]) (by simp -dsimp -implicitDefEqProofs only [go_sem, h0, o3, c3, hn3, hGl1, hG1, List.map_append, Flt.row, eq_self, ↓reduceIte]) (by simp -dsimp -implicitDefEqProofs only [go_sem, h0, o3, c3, hn3, hGl1, hG1, List.map_append, Flt.row, eq_self, ↓reduceIte]))
        · have hLl : L.length ≤ 400000 := by simp at hL; omega
          have ha : 1 + d.n3 = d.n3 + 1 := Nat.add_comm _ _
          have uU := zA @h0 (zA @o3 (zA @c3 (zA @hn3 (zA @hLl @ha))))
          refine wl ?_ <;> and_intros <;> first | exact hdT | (apply zM; (repeat intro ht); apply zM; (repeat intro hg); apply zM)
          rw [hgn]
          refine rR ?_ <;> first | exact hdT | apply zN
          exact Mv.app (k + 3) (k + 2) ⟨by omega, by omega⟩ ⟨by omega, by omega⟩ (wk_low (by omega) (by simp -dsimp -implicitDefEqProofs only [go_sem, h0, o3, c3, hn3, hLl, ha, List.map_append, Flt.row, eq_self, ↓reduceIte]) (by simp -dsimp -implicitDefEqProofs only [go_sem, h0, o3, c3, hn3, hLl, ha, List.map_append, Flt.row, eq_self, ↓reduceIte]) (by simp -dsimp -implicitDefEqProofs only [go_sem, h0, o3, c3, hn3, hLl, ha, List.map_append, Flt.row, eq_self, ↓reduceIte]) (by simp -dsimp -implicitDefEqProofs only [go_sem, h0, o3, c3, hn3, hLl, ha, List.map_append, Flt.row, eq_self, ↓reduceIte]))
    refine rR ?_ <;> first | exact hdT | apply zN
    refine wl ?_ <;> and_intros <;> first | exact hdT | (apply zM; (repeat intro ht); apply zM; (repeat intro hg); apply zM)
    refine M_forO (X := Nat) rfl [0,1,2,3,5,6,7,8,15,16,17,18,24,49,83] (k + 3) (fun j => [(7, .lit (.int .i64 (j : Int))), (3, accV (k + 2) (rwN (LQ ++ elL (cTk d) j)))]) (fun j => accH (k + 2) 1 (rwN (LQ ++ elL (cTk d) j)) [(k + 1, ⟨1, true, [[.rd 2 d.n0 d.f0], [.rd 2 d.n1 d.f1], [.rd 2 d.n2 d.f2]]⟩), (k, ⟨6, true, [d.cells]⟩)]) (fun j => j ≤ d.n4) (fun j => d.n4 - j) 0 ?_ (Nat.zero_le _) ?_
    · rw [elL_zero, List.append_nil]
      refine rR ?_ <;> first | exact hdT | apply zN
      exact wkF
    intro j hj
    obtain ⟨L, eL, hL⟩ : ∃ L, L = rwN (LQ ++ elL (cTk d) j) ∧ L.length ≤ 400000 := ⟨_, rfl, by have := rwN_len (LQ ++ elL (cTk d) j); rw [List.length_append, elL_len] at this; have := hLQ; omega⟩
    rw [← eL]
    by_cases hlt : j < d.n4
    · have hsn := rwN_snoc (LQ) (cTk d) j L eL
      clear eL
      obtain ⟨x, hx⟩ : ∃ x, d.tk j = x := ⟨_, rfl⟩
      obtain ⟨i1, i2, i3, i4, m, rd, v, r⟩ := x
      have hrow : (cTk d j).ints.map nR = [[.lit (.int .i64 i1)], [.lit (.int .i64 i2)], [.lit (.int .i64 i3)], [.lit (.int .i64 i4)]] := by rw [cTk, hx]; rfl
      rw [hrow] at hsn
      clear hrow
      rcases L with _ | ⟨x0, L⟩
      ·
        have uU := @hx
        refine rR ?_ <;> first | exact hdT | apply zN
        refine wl ?_ <;> and_intros <;> first | exact hdT | (apply zM; (repeat intro ht); apply zM; (repeat intro hg); apply zM)
        refine ⟨j + 1, by omega, by omega, ?_⟩
        rw [hsn, show ((j + 1 : Nat) : Int) = (j : Int) + 1 by omega]
        refine rR ?_ <;> first | exact hdT | apply zN
        exact Mv.app (k + 4) (k + 2) ⟨by omega, by omega⟩ ⟨by omega, by omega⟩ (wk_low (by omega) (by simp -dsimp -implicitDefEqProofs only [go_sem, hx, List.map_append, Flt.row, eq_self, ↓reduceIte]) (by simp -dsimp -implicitDefEqProofs only [go_sem, hx, List.map_append, Flt.row, eq_self, ↓reduceIte]) (by simp -dsimp -implicitDefEqProofs only [go_sem, hx, List.map_append, Flt.row, eq_self, ↓reduceIte]) (by simp -dsimp -implicitDefEqProofs only [go_sem, hx, List.map_append, Flt.row, eq_self, ↓reduceIte]))
      · have hLl : L.length ≤ 400000 := by simp at hL; omega
        have uU := @hx
        refine rR ?_ <;> first | exact hdT | apply zN
        refine wl ?_ <;> and_intros <;> first | exact hdT | (apply zM; (repeat intro ht); apply zM; (repeat intro hg); apply zM)
        refine ⟨j + 1, by omega, by omega, ?_⟩
        rw [hsn, show ((j + 1 : Nat) : Int) = (j : Int) + 1 by omega]
        refine rR ?_ <;> first | exact hdT | apply zN
        exact Mv.app (k + 4) (k + 2) ⟨by omega, by omega⟩ ⟨by omega, by omega⟩ (wk_low (by omega) (by simp -dsimp -implicitDefEqProofs only [go_sem, hx, List.map_append, Flt.row, eq_self, ↓reduceIte]) (by simp -dsimp -implicitDefEqProofs only [go_sem, hx, List.map_append, Flt.row, eq_self, ↓reduceIte]) (by simp -dsimp -implicitDefEqProofs only [go_sem, hx, List.map_append, Flt.row, eq_self, ↓reduceIte]) (by simp -dsimp -implicitDefEqProofs only [go_sem, hx, List.map_append, Flt.row, eq_self, ↓reduceIte]))
    · have hje : j = d.n4 := by omega
      rw [hje] at eL
      refine rR ?_ <;> first | exact hdT | apply zN
      obtain ⟨LR, eLR⟩ : ∃ LR, LR = LQ ++ elL (cTk d) d.n4 := ⟨_, rfl⟩
      have hLR : LR.length ≤ 60000 := by rw [eLR, List.length_append, elL_len]; omega
      rw [← eLR] at eL
      rw [eL]
      clear eL hL L
      refine wl ?_ <;> and_intros <;> first | exact hdT | (apply zM; (repeat intro ht); apply zM; (repeat intro hg); apply zM)
      refine M_forO (X := Nat) rfl [0,1,2,3,5,6,7,8,15,16,17,18,24,49,83] (k + 3) (fun j => [(8, .lit (.int .i64 (j : Int))), (3, accV (k + 2) (rwN (LR ++ elL (cSp d) j)))]) (fun j => accH (k + 2) 1 (rwN (LR ++ elL (cSp d) j)) [(k + 1, ⟨1, true, [[.rd 2 d.n0 d.f0], [.rd 2 d.n1 d.f1], [.rd 2 d.n2 d.f2]]⟩), (k, ⟨6, true, [d.cells]⟩)]) (fun j => j ≤ d.n5) (fun j => d.n5 - j) 0 ?_ (Nat.zero_le _) ?_
      · rw [elL_zero, List.append_nil]
        refine rR ?_ <;> first | exact hdT | apply zN
        exact wkF
      intro j hj
      obtain ⟨L, eL, hL⟩ : ∃ L, L = rwN (LR ++ elL (cSp d) j) ∧ L.length ≤ 400000 := ⟨_, rfl, by have := rwN_len (LR ++ elL (cSp d) j); rw [List.length_append, elL_len] at this; have := hLR; omega⟩
      rw [← eL]
      by_cases hlt : j < d.n5
      · have hsn := rwN_snoc (LR) (cSp d) j L eL
        clear eL
        obtain ⟨g, c, p, hx⟩ : ∃ g c p, d.sp j = (g, c, p) := ⟨_, _, _, rfl⟩
        have hrow : (cSp d j).ints.map nR = [[.lit (.int .i64 g)], [.lit (.int .i64 c)]] := by rw [cSp, hx]; rfl
        rw [hrow] at hsn
        clear hrow
        rcases L with _ | ⟨x0, L⟩
        ·
          have uU := @hx
          refine rR ?_ <;> first | exact hdT | apply zN
          refine wl ?_ <;> and_intros <;> first | exact hdT | (apply zM; (repeat intro ht); apply zM; (repeat intro hg); apply zM)
          refine ⟨j + 1, by omega, by omega, ?_⟩
          rw [hsn, show ((j + 1 : Nat) : Int) = (j : Int) + 1 by omega]
          refine rR ?_ <;> first | exact hdT | apply zN
          exact Mv.app (k + 4) (k + 2) ⟨by omega, by omega⟩ ⟨by omega, by omega⟩ (wk_low (by omega) (by simp -dsimp -implicitDefEqProofs only [go_sem, hx, List.map_append, Flt.row, eq_self, ↓reduceIte]) (by simp -dsimp -implicitDefEqProofs only [go_sem, hx, List.map_append, Flt.row, eq_self, ↓reduceIte]) (by simp -dsimp -implicitDefEqProofs only [go_sem, hx, List.map_append, Flt.row, eq_self, ↓reduceIte]) (by simp -dsimp -implicitDefEqProofs only [go_sem, hx, List.map_append, Flt.row, eq_self, ↓reduceIte]))
        · have hLl : L.length ≤ 400000 := by simp at hL; omega
          have uU := @hx
          refine rR ?_ <;> first | exact hdT | apply zN
          refine wl ?_ <;> and_intros <;> first | exact hdT | (apply zM; (repeat intro ht); apply zM; (repeat intro hg); apply zM)
          refine ⟨j + 1, by omega, by omega, ?_⟩
          rw [hsn, show ((j + 1 : Nat) : Int) = (j : Int) + 1 by omega]
          refine rR ?_ <;> first | exact hdT | apply zN
          exact Mv.app (k + 4) (k + 2) ⟨by omega, by omega⟩ ⟨by omega, by omega⟩ (wk_low (by omega) (by simp -dsimp -implicitDefEqProofs only [go_sem, hx, List.map_append, Flt.row, eq_self, ↓reduceIte]) (by simp -dsimp -implicitDefEqProofs only [go_sem, hx, List.map_append, Flt.row, eq_self, ↓reduceIte]) (by simp -dsimp -implicitDefEqProofs only [go_sem, hx, List.map_append, Flt.row, eq_self, ↓reduceIte]) (by simp -dsimp -implicitDefEqProofs only [go_sem, hx, List.map_append, Flt.row, eq_self, ↓reduceIte]))
      · have hje : j = d.n5 := by omega
        rw [hje] at eL
        refine rR ?_ <;> first | exact hdT | apply zN
        refine wl ?_ <;> and_intros <;> first | exact hdT | (apply zM; (repeat intro ht); apply zM; (repeat intro hg); apply zM)
        refine W_mv (Mv.frz_acc (id := k + 2) (s := 1) (l := L) 2 rfl (by simp only [accIn_self])) ?_
        refine C_ret rfl ⟨_, rfl, ?_⟩
        rw [eRES, elsD_eq, show rows 1 L = rows 1 (rwN (elL (cCk d) d.n0 ++ (elL (cCu d) d.n1 ++ (elL (cWg d) d.n2 ++ (elL (cGn d) d.n3 ++ (elL (cTk d) d.n4 ++ elL (cSp d) d.n5)))))) by rw [eL, eLR, eLQ]; simp only [preE, List.append_assoc]]
        exact VLe.refl _
end Go.Proofs.T
end
