import Derived.Test.YteimiejbhhgljaaGreatDoorZAL
set_option linter.unusedVariables false
set_option linter.unusedSimpArgs false
section
namespace Go.Proofs.T
open Go Go.AM Go.Proofs
set_option maxRecDepth 20000
variable {Γ : List (Nat × List AVal)}
attribute [local irreducible] putO del
def cpL (f : Nat → List AVal) (i : Nat) : List (List AVal) := (List.range i).map f
theorem cpL_zero (f : Nat → List AVal) : cpL f 0 = [] := rfl
theorem cpL_succ (f : Nat → List AVal) (i : Nat) : cpL f (i + 1) = cpL f i ++ [f i] := range_snoc
theorem cpL_len (f : Nat → List AVal) (i : Nat) : (cpL f i).length = i := by simp [cpL]
theorem cpL_le (s : Nat) (f : Nat → List AVal) (n : Nat) : VLe (rows s (cpL f n)) (.rd s n f) := by
  rw [rows, cpL_len]; exact VLe.copy' _ _ _
attribute [go_sem] cpL_len
set_option maxHeartbeats 4000000 in
theorem turned2 (d : DE) (hd : d.size ≤ 100000) (k : Nat) (Q : AQ) (hQ : ∀ k1 fr H, AM.look fr 2 = some (.ptr (k + 1) 0 0) → AM.look H (k + 1) = some ⟨6, true, [d.cells]⟩ → Q .ret k1 fr H) :
    W Tryz.prog Γ 78 k (cat (bodyOf Tryz.f19) [0, 1, 0, 1, 1]) (blockQ 0 (thenQ (W Tryz.prog Γ 78 k (cat (bodyOf Tryz.f19) [1, 1, 1]) Q) Q)) (k + 7) [(24, .lit (.int .i64 0)), (23, .lit (.int .i64 (d.n0 : Int))), (22, .rd 2 d.n0 d.f0), (3, .ptr (k + 4) 0 0), (2, .ptr (k + 1) 0 0), (1, .ptr k 0 0)] [(k + 4, ⟨6, true, [[.lit (.slice none 0 0), .lit (.slice none 0 0), .lit (.slice none 0 0), .rd 1 d.n3 d.f3, .rd 8 d.n4 d.f4, .lit (.slice none 0 0)]]⟩), (k + 1, ⟨6, true, [[.lit (.slice none 0 0), .lit (.slice none 0 0), .lit (.slice none 0 0), .lit (.slice none 0 0), .lit (.slice none 0 0), .lit (.slice none 0 0)]]⟩), (k, ⟨6, true, [d.cells]⟩)] := by
  unfold DE.size at hd
  refine W_mv (Mv.impure (k + 4) (by simp -dsimp -implicitDefEqProofs only [go_sem, eq_self, ↓reduceIte]; rfl)) ?_
  refine rR ?_ <;> first | exact hdT | apply zN
  refine M_forO (X := Nat) rfl [0,1,2,3,5,7,9,11,22,23,24,25,36,37,38,39,50,51,52,53,64,65,66,67] (k + 8) (fun i => [(24, .lit (.int .i64 (i : Int)))]) (fun i => accH (k + 7) 2 (cpL d.f0 i) [(k + 4, ⟨6, false, [[accV (k + 7) (cpL d.f0 i), .lit (.slice none 0 0), .lit (.slice none 0 0), .rd 1 d.n3 d.f3, .rd 8 d.n4 d.f4, .lit (.slice none 0 0)]]⟩), (k + 1, ⟨6, true, [[.lit (.slice none 0 0), .lit (.slice none 0 0), .lit (.slice none 0 0), .lit (.slice none 0 0), .lit (.slice none 0 0), .lit (.slice none 0 0)]]⟩), (k, ⟨6, true, [d.cells]⟩)]) (fun i => i ≤ d.n0) (fun i => d.n0 - i) 0 ?_ (Nat.zero_le _) ?_
  · rw [cpL_zero]
    refine rR ?_ <;> first | exact hdT | apply zN
    exact wkF
  intro i hi
  obtain ⟨l, el, hl⟩ : ∃ x, x = cpL d.f0 i ∧ x.length = i := ⟨_, rfl, cpL_len _ _⟩
  rw [← el]
  refine rR ?_ <;> first | exact hdT | apply zN
  have kp : Kp [0,1,2,3,5,7,9,11,22,23,24,25,36,37,38,39,50,51,52,53,64,65,66,67] (fun i => i - k) := kpI
  refine wl ?_ <;> and_intros <;> first | exact hdT | (apply zM; (repeat intro ht); apply zM; (repeat intro hg); apply zM)
  · refine ⟨i + 1, by omega, by omega, ?_⟩
    rw [cpL_succ, ← el]
    refine rR ?_ <;> first | exact hdT | apply zN
    exact Mv.app (k + 10) (k + 7) ⟨by omega, by omega⟩ ⟨by omega, by omega⟩ (wk_low (by omega) (by simp -dsimp -implicitDefEqProofs only [go_sem, List.map_append, Flt.row, eq_self, ↓reduceIte]) (by simp -dsimp -implicitDefEqProofs only [go_sem, List.map_append, Flt.row, eq_self, ↓reduceIte]) (by simp -dsimp -implicitDefEqProofs only [go_sem, List.map_append, Flt.row, eq_self, ↓reduceIte]) (by simp -dsimp -implicitDefEqProofs only [go_sem, List.map_append, Flt.row, eq_self, ↓reduceIte]))
  have hin : i = d.n0 := by omega
  subst hin
  refine W_mv (Mv.frz_row (id := k + 7) (s := 2) (D := k + 4) (sz := 6) (l := l) (row := [accV (k + 7) l, .lit (.slice none 0 0), .lit (.slice none 0 0), .rd 1 d.n3 d.f3, .rd 8 d.n4 d.f4, .lit (.slice none 0 0)]) 0 (.rd 2 d.n0 d.f0) [(38, .lit (.int .i64 0)), (37, .lit (.int .i64 (d.n1 : Int))), (36, .rd 2 d.n1 d.f1), (3, .ptr (k + 4) 0 0), (2, .ptr (k + 1) 0 0), (1, .ptr k 0 0)] [(k + 1, ⟨6, true, [[.lit (.slice none 0 0), .lit (.slice none 0 0), .lit (.slice none 0 0), .lit (.slice none 0 0), .lit (.slice none 0 0), .lit (.slice none 0 0)]]⟩), (k, ⟨6, true, [d.cells]⟩)] (by omega) (by simp -dsimp -implicitDefEqProofs only [go_sem, List.map_append, Flt.row, eq_self, ↓reduceIte]) rfl (by simp -dsimp -implicitDefEqProofs only [go_sem, List.map_append, Flt.row, eq_self, ↓reduceIte]) (by rw [el]; exact cpL_le _ _ _) (by simp -dsimp -implicitDefEqProofs only [go_sem, List.map_append, Flt.row, eq_self, ↓reduceIte]) (by simp -dsimp -implicitDefEqProofs only [go_sem, List.map_append, Flt.row, eq_self, ↓reduceIte]) (by simp -dsimp -implicitDefEqProofs only [go_sem, List.map_append, Flt.row, eq_self, ↓reduceIte])) ?_
  refine W_mv (Mv.wk (k1 := k + 8) (fr1 := [(38, .lit (.int .i64 0)), (37, .lit (.int .i64 (d.n1 : Int))), (36, .rd 2 d.n1 d.f1), (3, .ptr (k + 4) 0 0), (2, .ptr (k + 1) 0 0), (1, .ptr k 0 0)]) (H1 := [(k + 4, ⟨6, false, [[.rd 2 d.n0 d.f0, .lit (.slice none 0 0), .lit (.slice none 0 0), .rd 1 d.n3 d.f3, .rd 8 d.n4 d.f4, .lit (.slice none 0 0)]]⟩), (k + 1, ⟨6, true, [[.lit (.slice none 0 0), .lit (.slice none 0 0), .lit (.slice none 0 0), .lit (.slice none 0 0), .lit (.slice none 0 0), .lit (.slice none 0 0)]]⟩), (k, ⟨6, true, [d.cells]⟩)]) (wk_low (by omega) (by simp -dsimp -implicitDefEqProofs only [go_sem, List.map_append, Flt.row, eq_self, ↓reduceIte]) (by simp -dsimp -implicitDefEqProofs only [go_sem, List.map_append, Flt.row, eq_self, ↓reduceIte]) (by simp -dsimp -implicitDefEqProofs only [go_sem, List.map_append, Flt.row, eq_self, ↓reduceIte]) (by simp -dsimp -implicitDefEqProofs only [go_sem, List.map_append, Flt.row, eq_self, ↓reduceIte]))) ?_
  clear el hl
  clear l
  refine rR ?_ <;> first | exact hdT | apply zN
  refine M_forO (X := Nat) rfl [0,1,2,3,5,7,9,11,22,23,24,25,36,37,38,39,50,51,52,53,64,65,66,67] (k + 9) (fun i => [(38, .lit (.int .i64 (i : Int)))]) (fun i => accH (k + 8) 2 (cpL d.f1 i) [(k + 4, ⟨6, false, [[.rd 2 d.n0 d.f0, accV (k + 8) (cpL d.f1 i), .lit (.slice none 0 0), .rd 1 d.n3 d.f3, .rd 8 d.n4 d.f4, .lit (.slice none 0 0)]]⟩), (k + 1, ⟨6, true, [[.lit (.slice none 0 0), .lit (.slice none 0 0), .lit (.slice none 0 0), .lit (.slice none 0 0), .lit (.slice none 0 0), .lit (.slice none 0 0)]]⟩), (k, ⟨6, true, [d.cells]⟩)]) (fun i => i ≤ d.n1) (fun i => d.n1 - i) 0 ?_ (Nat.zero_le _) ?_
  · rw [cpL_zero]
    refine rR ?_ <;> first | exact hdT | apply zN
    exact wkF
  intro i hi
  obtain ⟨l, el, hl⟩ : ∃ x, x = cpL d.f1 i ∧ x.length = i := ⟨_, rfl, cpL_len _ _⟩
  rw [← el]
  refine rR ?_ <;> first | exact hdT | apply zN
  refine wl ?_ <;> and_intros <;> first | exact hdT | (apply zM; (repeat intro ht); apply zM; (repeat intro hg); apply zM)
  · refine ⟨i + 1, by omega, by omega, ?_⟩
    rw [cpL_succ, ← el]
    refine rR ?_ <;> first | exact hdT | apply zN
    exact Mv.app (k + 11) (k + 8) ⟨by omega, by omega⟩ ⟨by omega, by omega⟩ (wk_low (by omega) (by simp -dsimp -implicitDefEqProofs only [go_sem, List.map_append, Flt.row, eq_self, ↓reduceIte]) (by simp -dsimp -implicitDefEqProofs only [go_sem, List.map_append, Flt.row, eq_self, ↓reduceIte]) (by simp -dsimp -implicitDefEqProofs only [go_sem, List.map_append, Flt.row, eq_self, ↓reduceIte]) (by simp -dsimp -implicitDefEqProofs only [go_sem, List.map_append, Flt.row, eq_self, ↓reduceIte]))
  have hin : i = d.n1 := by omega
  subst hin
  refine W_mv (Mv.frz_row (id := k + 8) (s := 2) (D := k + 4) (sz := 6) (l := l) (row := [.rd 2 d.n0 d.f0, accV (k + 8) l, .lit (.slice none 0 0), .rd 1 d.n3 d.f3, .rd 8 d.n4 d.f4, .lit (.slice none 0 0)]) 1 (.rd 2 d.n1 d.f1) [(52, .lit (.int .i64 0)), (51, .lit (.int .i64 (d.n2 : Int))), (50, .rd 2 d.n2 d.f2), (3, .ptr (k + 4) 0 0), (2, .ptr (k + 1) 0 0), (1, .ptr k 0 0)] [(k + 1, ⟨6, true, [[.lit (.slice none 0 0), .lit (.slice none 0 0), .lit (.slice none 0 0), .lit (.slice none 0 0), .lit (.slice none 0 0), .lit (.slice none 0 0)]]⟩), (k, ⟨6, true, [d.cells]⟩)] (by omega) (by simp -dsimp -implicitDefEqProofs only [go_sem, List.map_append, Flt.row, eq_self, ↓reduceIte]) rfl (by simp -dsimp -implicitDefEqProofs only [go_sem, List.map_append, Flt.row, eq_self, ↓reduceIte]) (by rw [el]; exact cpL_le _ _ _) (by simp -dsimp -implicitDefEqProofs only [go_sem, List.map_append, Flt.row, eq_self, ↓reduceIte]) (by simp -dsimp -implicitDefEqProofs only [go_sem, List.map_append, Flt.row, eq_self, ↓reduceIte]) (by simp -dsimp -implicitDefEqProofs only [go_sem, List.map_append, Flt.row, eq_self, ↓reduceIte])) ?_
  refine W_mv (Mv.wk (k1 := k + 9) (fr1 := [(52, .lit (.int .i64 0)), (51, .lit (.int .i64 (d.n2 : Int))), (50, .rd 2 d.n2 d.f2), (3, .ptr (k + 4) 0 0), (2, .ptr (k + 1) 0 0), (1, .ptr k 0 0)]) (H1 := [(k + 4, ⟨6, false, [[.rd 2 d.n0 d.f0, .rd 2 d.n1 d.f1, .lit (.slice none 0 0), .rd 1 d.n3 d.f3, .rd 8 d.n4 d.f4, .lit (.slice none 0 0)]]⟩), (k + 1, ⟨6, true, [[.lit (.slice none 0 0), .lit (.slice none 0 0), .lit (.slice none 0 0), .lit (.slice none 0 0), .lit (.slice none 0 0), .lit (.slice none 0 0)]]⟩), (k, ⟨6, true, [d.cells]⟩)]) (wk_low (by omega) (by simp -dsimp -implicitDefEqProofs only [go_sem, List.map_append, Flt.row, eq_self, ↓reduceIte]) (by simp -dsimp -implicitDefEqProofs only [go_sem, List.map_append, Flt.row, eq_self, ↓reduceIte]) (by simp -dsimp -implicitDefEqProofs only [go_sem, List.map_append, Flt.row, eq_self, ↓reduceIte]) (by simp -dsimp -implicitDefEqProofs only [go_sem, List.map_append, Flt.row, eq_self, ↓reduceIte]))) ?_
  clear el hl
  clear l
  refine rR ?_ <;> first | exact hdT | apply zN
  refine M_forO (X := Nat) rfl [0,1,2,3,5,7,9,11,22,23,24,25,36,37,38,39,50,51,52,53,64,65,66,67] (k + 10) (fun i => [(52, .lit (.int .i64 (i : Int)))]) (fun i => accH (k + 9) 2 (cpL d.f2 i) [(k + 4, ⟨6, false, [[.rd 2 d.n0 d.f0, .rd 2 d.n1 d.f1, accV (k + 9) (cpL d.f2 i), .rd 1 d.n3 d.f3, .rd 8 d.n4 d.f4, .lit (.slice none 0 0)]]⟩), (k + 1, ⟨6, true, [[.lit (.slice none 0 0), .lit (.slice none 0 0), .lit (.slice none 0 0), .lit (.slice none 0 0), .lit (.slice none 0 0), .lit (.slice none 0 0)]]⟩), (k, ⟨6, true, [d.cells]⟩)]) (fun i => i ≤ d.n2) (fun i => d.n2 - i) 0 ?_ (Nat.zero_le _) ?_
  · rw [cpL_zero]
    refine rR ?_ <;> first | exact hdT | apply zN
    exact wkF
  intro i hi
  obtain ⟨l, el, hl⟩ : ∃ x, x = cpL d.f2 i ∧ x.length = i := ⟨_, rfl, cpL_len _ _⟩
  rw [← el]
  refine rR ?_ <;> first | exact hdT | apply zN
  refine wl ?_ <;> and_intros <;> first | exact hdT | (apply zM; (repeat intro ht); apply zM; (repeat intro hg); apply zM)
  · refine ⟨i + 1, by omega, by omega, ?_⟩
    rw [cpL_succ, ← el]
    refine rR ?_ <;> first | exact hdT | apply zN
    exact Mv.app (k + 12) (k + 9) ⟨by omega, by omega⟩ ⟨by omega, by omega⟩ (wk_low (by omega) (by simp -dsimp -implicitDefEqProofs only [go_sem, List.map_append, Flt.row, eq_self, ↓reduceIte]) (by simp -dsimp -implicitDefEqProofs only [go_sem, List.map_append, Flt.row, eq_self, ↓reduceIte]) (by simp -dsimp -implicitDefEqProofs only [go_sem, List.map_append, Flt.row, eq_self, ↓reduceIte]) (by simp -dsimp -implicitDefEqProofs only [go_sem, List.map_append, Flt.row, eq_self, ↓reduceIte]))
  have hin : i = d.n2 := by omega
  subst hin
  refine W_mv (Mv.frz_row (id := k + 9) (s := 2) (D := k + 4) (sz := 6) (l := l) (row := [.rd 2 d.n0 d.f0, .rd 2 d.n1 d.f1, accV (k + 9) l, .rd 1 d.n3 d.f3, .rd 8 d.n4 d.f4, .lit (.slice none 0 0)]) 2 (.rd 2 d.n2 d.f2) [(66, .lit (.int .i64 0)), (65, .lit (.int .i64 (d.n5 : Int))), (64, .rd 5 d.n5 d.f5), (3, .ptr (k + 4) 0 0), (2, .ptr (k + 1) 0 0), (1, .ptr k 0 0)] [(k + 1, ⟨6, true, [[.lit (.slice none 0 0), .lit (.slice none 0 0), .lit (.slice none 0 0), .lit (.slice none 0 0), .lit (.slice none 0 0), .lit (.slice none 0 0)]]⟩), (k, ⟨6, true, [d.cells]⟩)] (by omega) (by simp -dsimp -implicitDefEqProofs only [go_sem, List.map_append, Flt.row, eq_self, ↓reduceIte]) rfl (by simp -dsimp -implicitDefEqProofs only [go_sem, List.map_append, Flt.row, eq_self, ↓reduceIte]) (by rw [el]; exact cpL_le _ _ _) (by simp -dsimp -implicitDefEqProofs only [go_sem, List.map_append, Flt.row, eq_self, ↓reduceIte]) (by simp -dsimp -implicitDefEqProofs only [go_sem, List.map_append, Flt.row, eq_self, ↓reduceIte]) (by simp -dsimp -implicitDefEqProofs only [go_sem, List.map_append, Flt.row, eq_self, ↓reduceIte])) ?_
  refine W_mv (Mv.wk (k1 := k + 10) (fr1 := [(66, .lit (.int .i64 0)), (65, .lit (.int .i64 (d.n5 : Int))), (64, .rd 5 d.n5 d.f5), (3, .ptr (k + 4) 0 0), (2, .ptr (k + 1) 0 0), (1, .ptr k 0 0)]) (H1 := [(k + 4, ⟨6, false, [[.rd 2 d.n0 d.f0, .rd 2 d.n1 d.f1, .rd 2 d.n2 d.f2, .rd 1 d.n3 d.f3, .rd 8 d.n4 d.f4, .lit (.slice none 0 0)]]⟩), (k + 1, ⟨6, true, [[.lit (.slice none 0 0), .lit (.slice none 0 0), .lit (.slice none 0 0), .lit (.slice none 0 0), .lit (.slice none 0 0), .lit (.slice none 0 0)]]⟩), (k, ⟨6, true, [d.cells]⟩)]) (wk_low (by omega) (by simp -dsimp -implicitDefEqProofs only [go_sem, List.map_append, Flt.row, eq_self, ↓reduceIte]) (by simp -dsimp -implicitDefEqProofs only [go_sem, List.map_append, Flt.row, eq_self, ↓reduceIte]) (by simp -dsimp -implicitDefEqProofs only [go_sem, List.map_append, Flt.row, eq_self, ↓reduceIte]) (by simp -dsimp -implicitDefEqProofs only [go_sem, List.map_append, Flt.row, eq_self, ↓reduceIte]))) ?_
  clear el hl
  clear l
  refine rR ?_ <;> first | exact hdT | apply zN
  refine M_forO (X := Nat) rfl [0,1,2,3,5,7,9,11,22,23,24,25,36,37,38,39,50,51,52,53,64,65,66,67] (k + 11) (fun i => [(66, .lit (.int .i64 (i : Int)))]) (fun i => accH (k + 10) 5 (cpL d.f5 i) [(k + 4, ⟨6, false, [[.rd 2 d.n0 d.f0, .rd 2 d.n1 d.f1, .rd 2 d.n2 d.f2, .rd 1 d.n3 d.f3, .rd 8 d.n4 d.f4, accV (k + 10) (cpL d.f5 i)]]⟩), (k + 1, ⟨6, true, [[.lit (.slice none 0 0), .lit (.slice none 0 0), .lit (.slice none 0 0), .lit (.slice none 0 0), .lit (.slice none 0 0), .lit (.slice none 0 0)]]⟩), (k, ⟨6, true, [d.cells]⟩)]) (fun i => i ≤ d.n5) (fun i => d.n5 - i) 0 ?_ (Nat.zero_le _) ?_
  · rw [cpL_zero]
    refine rR ?_ <;> first | exact hdT | apply zN
    exact wkF
  intro i hi
  obtain ⟨l, el, hl⟩ : ∃ x, x = cpL d.f5 i ∧ x.length = i := ⟨_, rfl, cpL_len _ _⟩
  rw [← el]
  refine rR ?_ <;> first | exact hdT | apply zN
  refine C_seq rfl ?_; (refine S_reg0 rfl [0,1,2,3,5,7,9,11,22,23,24,25,36,37,38,39,50,51,52,53,64,65,66,67] rfl rfl (fun K hK => ?_)); simp -dsimp -implicitDefEqProofs only [go_sem, eq_self, ↓reduceIte]; (refine hK _ _ _ _ (fun hx => ?_)); clear hx hK; simp -dsimp -implicitDefEqProofs only [go_sem, eq_self, ↓reduceIte]; clear K
  refine C_seq rfl ?_
  refine C_cond rfl _ rfl (fun ht => ?_) (fun ht => ?_)
  · simp only [nf] at ht
    refine C_skip rfl ?_
    refine rR ?_ <;> first | exact hdT | apply zN
    refine wl ?_ <;> and_intros <;> first | exact hdT | (apply zM; (repeat intro ht); apply zM; (repeat intro hg); apply zM)
    refine ⟨i + 1, by omega, by omega, ?_⟩
    rw [cpL_succ, ← el]
    refine rR ?_ <;> first | exact hdT | apply zN
    exact Mv.app (k + 13) (k + 10) ⟨by omega, by omega⟩ ⟨by omega, by omega⟩ (wk_low (by omega) (by simp -dsimp -implicitDefEqProofs only [go_sem, List.map_append, Flt.row, eq_self, ↓reduceIte]) (by simp -dsimp -implicitDefEqProofs only [go_sem, List.map_append, Flt.row, eq_self, ↓reduceIte]) (by simp -dsimp -implicitDefEqProofs only [go_sem, List.map_append, Flt.row, eq_self, ↓reduceIte]) (by simp -dsimp -implicitDefEqProofs only [go_sem, List.map_append, Flt.row, eq_self, ↓reduceIte]))
  · simp only [nf] at ht
    refine C_exit rfl ?_
    refine rR ?_ <;> first | exact hdT | apply zN
    have hin : i = d.n5 := by omega
    subst hin
    refine W_mv (Mv.frz_row (id := k + 10) (s := 5) (D := k + 4) (sz := 6) (l := l) (row := [.rd 2 d.n0 d.f0, .rd 2 d.n1 d.f1, .rd 2 d.n2 d.f2, .rd 1 d.n3 d.f3, .rd 8 d.n4 d.f4, accV (k + 10) l]) 5 (.rd 5 d.n5 d.f5) [(3, .ptr (k + 4) 0 0), (2, .ptr (k + 1) 0 0)] [(k + 1, ⟨6, true, [[.lit (.slice none 0 0), .lit (.slice none 0 0), .lit (.slice none 0 0), .lit (.slice none 0 0), .lit (.slice none 0 0), .lit (.slice none 0 0)]]⟩), (k, ⟨6, true, [d.cells]⟩)] (by omega) (by simp -dsimp -implicitDefEqProofs only [go_sem, List.map_append, Flt.row, eq_self, ↓reduceIte]) rfl (by simp -dsimp -implicitDefEqProofs only [go_sem, List.map_append, Flt.row, eq_self, ↓reduceIte]) (by rw [el]; exact cpL_le _ _ _) (by simp -dsimp -implicitDefEqProofs only [go_sem, List.map_append, Flt.row, eq_self, ↓reduceIte]) (by simp -dsimp -implicitDefEqProofs only [go_sem, List.map_append, Flt.row, eq_self, ↓reduceIte]) (by simp -dsimp -implicitDefEqProofs only [go_sem, List.map_append, Flt.row, eq_self, ↓reduceIte])) ?_
    clear el hl
    refine rR ?_ <;> first | exact hdT | apply zN
    refine wl ?_ <;> and_intros <;> first | exact hdT | (apply zM; (repeat intro ht); apply zM; (repeat intro hg); apply zM)
    exact C_ret rfl (hQ _ _ _ (by simp -dsimp -implicitDefEqProofs only [go_sem, List.map_append, Flt.row, eq_self, ↓reduceIte]) (by simp -dsimp -implicitDefEqProofs only [go_sem, List.map_append, Flt.row, eq_self, ↓reduceIte]))
theorem f3_one (d : DE) (n : Nat) : (((List.range n).map d.f3).all fun row => row.all AM.one) = true := by
  rw [List.all_eq_true]; intro row hr; obtain ⟨i, _, rfl⟩ := List.mem_map.1 hr; rfl
theorem f4_one (d : DE) (n : Nat) : (((List.range n).map d.f4).all fun row => row.all AM.one) = true := by
  rw [List.all_eq_true]; intro row hr; obtain ⟨i, _, rfl⟩ := List.mem_map.1 hr; rfl
set_option maxHeartbeats 4000000 in
theorem turned_d (d : DE) (hd : d.size ≤ 100000) : AM.Pure Tryz.prog Γ 19 [.agg d.cells] (.agg d.cells) := by
  have hd' := hd
  unfold DE.size at hd'
  refine Pure_at Tryz.func19 rfl 78 rfl (Nat.le_of_ble_eq_true rfl) rfl fun k => ?_
  have hfin := turned2 (Γ := Γ) d hd k (retQ Tryz.prog Tryz.f19 fun _ r1 _ => VLe r1 (.agg d.cells)) (fun k1 fr H h1 h2 => by
    refine ⟨.agg d.cells, ?_, VLe.refl _⟩
    simp -dsimp -implicitDefEqProofs only [go_sem, h1, h2, eq_self, ↓reduceIte])
  have o3 := f3_one d
  have o4 := f4_one d
  rcases Nat.eq_zero_or_pos d.n3 with h3 | h3
  · rcases Nat.eq_zero_or_pos d.n4 with h4 | h4
    · simp only [DE.cells, h3, h4] at hfin
      have kp : Kp [0,1,2,3,5,7,9,11,22,23,24,25,36,37,38,39,50,51,52,53,64,65,66,67] (fun i => i - k) := kpI
      have uU := zA @h3 (zA @h4 (zA @o3 @o4))
      refine wl ?_ <;> and_intros <;> first | exact hdT | (apply zM; (repeat intro ht); apply zM; (repeat intro hg); apply zM)
      refine W_mv (Mv.freeze (k + 2) (by simp -dsimp -implicitDefEqProofs only [go_sem, h3, h4, o3, o4, eq_self, ↓reduceIte]; rfl) rfl) ?_
      simp -dsimp -implicitDefEqProofs only [frzF, frz_app, go_sem, h3, h4, o3, o4, eq_self, ↓reduceIte]
      refine W_mv (Mv.freeze (k + 3) (by simp -dsimp -implicitDefEqProofs only [go_sem, h3, h4, o3, o4, eq_self, ↓reduceIte]; rfl) rfl) ?_
      simp -dsimp -implicitDefEqProofs only [frzF, frz_app, go_sem, h3, h4, o3, o4, eq_self, ↓reduceIte]
      refine W_mv (Mv.row (k + 4) (l := []) [.lit (.slice none 0 0), .lit (.slice none 0 0), .lit (.slice none 0 0), .rd 1 0 d.f3, .rd 8 0 d.f4, .lit (.slice none 0 0)] (by simp -dsimp -implicitDefEqProofs only [go_sem, h3, h4, o3, o4, List.map_append, Flt.row, eq_self, ↓reduceIte]; rfl) (.cons (VLe.refl _) (.cons (VLe.refl _) (.cons (VLe.refl _) (.cons (VLe.rd (fun i hi => absurd hi (by omega))) (.cons (VLe.rd (fun i hi => absurd hi (by omega))) (.cons (VLe.refl _) .nil)))))) rfl) ?_
      refine rR ?_ <;> first | exact hdT | apply zN
      refine W_mv (Mv.wk (k1 := k + 7) (fr1 := [(24, .lit (.int .i64 0)), (23, .lit (.int .i64 (d.n0 : Int))), (22, .rd 2 d.n0 d.f0), (3, .ptr (k + 4) 0 0), (2, .ptr (k + 1) 0 0), (1, .ptr k 0 0)]) (H1 := [(k + 4, ⟨6, true, [[.lit (.slice none 0 0), .lit (.slice none 0 0), .lit (.slice none 0 0), .rd 1 0 d.f3, .rd 8 0 d.f4, .lit (.slice none 0 0)]]⟩), (k + 1, ⟨6, true, [[.lit (.slice none 0 0), .lit (.slice none 0 0), .lit (.slice none 0 0), .lit (.slice none 0 0), .lit (.slice none 0 0), .lit (.slice none 0 0)]]⟩), (k, ⟨6, true, [[.rd 2 d.n0 d.f0, .rd 2 d.n1 d.f1, .rd 2 d.n2 d.f2, .rd 1 0 d.f3, .rd 8 0 d.f4, .rd 5 d.n5 d.f5]]⟩)]) (wk_low (by omega) (by simp -dsimp -implicitDefEqProofs only [go_sem, h3, h4, o3, o4, List.map_append, Flt.row, eq_self, ↓reduceIte]) (by simp -dsimp -implicitDefEqProofs only [go_sem, h3, h4, o3, o4, List.map_append, Flt.row, eq_self, ↓reduceIte]) (by simp -dsimp -implicitDefEqProofs only [go_sem, h3, h4, o3, o4, List.map_append, Flt.row, eq_self, ↓reduceIte]) (by simp -dsimp -implicitDefEqProofs only [go_sem, h3, h4, o3, o4, List.map_append, Flt.row, eq_self, ↓reduceIte]))) ?_
      exact hfin
    · have h4' : d.n4 ≠ 0 := by omega
      simp only [DE.cells, h3] at hfin
      have kp : Kp [0,1,2,3,5,7,9,11,22,23,24,25,36,37,38,39,50,51,52,53,64,65,66,67] (fun i => i - k) := kpI
      have uU := zA @h3 (zA @h4 (zA @h4' (zA @o3 @o4)))
      refine wl ?_ <;> and_intros <;> first | exact hdT | (apply zM; (repeat intro ht); apply zM; (repeat intro hg); apply zM)
      refine W_mv (Mv.freeze (k + 2) (by simp -dsimp -implicitDefEqProofs only [go_sem, h3, h4, h4', o3, o4, eq_self, ↓reduceIte]; rfl) rfl) ?_
      simp -dsimp -implicitDefEqProofs only [frzF, frz_app, go_sem, h3, h4, h4', o3, o4, eq_self, ↓reduceIte]
      refine W_mv (Mv.freeze (k + 4) (by simp -dsimp -implicitDefEqProofs only [go_sem, h3, h4, h4', o3, o4, eq_self, ↓reduceIte]; rfl) rfl) ?_
      simp -dsimp -implicitDefEqProofs only [frzF, frz_app, go_sem, h3, h4, h4', o3, o4, eq_self, ↓reduceIte]
      refine W_mv (Mv.row (k + 5) (l := []) [.lit (.slice none 0 0), .lit (.slice none 0 0), .lit (.slice none 0 0), .rd 1 0 d.f3, .rd 8 d.n4 d.f4, .lit (.slice none 0 0)] (by simp -dsimp -implicitDefEqProofs only [go_sem, h3, h4, h4', o3, o4, List.map_append, Flt.row, eq_self, ↓reduceIte]; rfl) (.cons (VLe.refl _) (.cons (VLe.refl _) (.cons (VLe.refl _) (.cons (VLe.rd (fun i hi => absurd hi (by omega))) (.cons (VLe.copy' _ _ _) (.cons (VLe.refl _) .nil)))))) rfl) ?_
      refine rR ?_ <;> first | exact hdT | apply zN
      refine W_mv (Mv.app (k + 5) (k + 4) ⟨by omega, by omega⟩ ⟨by omega, by omega⟩ (k1 := k + 7) (fr1 := [(24, .lit (.int .i64 0)), (23, .lit (.int .i64 (d.n0 : Int))), (22, .rd 2 d.n0 d.f0), (3, .ptr (k + 4) 0 0), (2, .ptr (k + 1) 0 0), (1, .ptr k 0 0)]) (H1 := [(k + 4, ⟨6, true, [[.lit (.slice none 0 0), .lit (.slice none 0 0), .lit (.slice none 0 0), .rd 1 0 d.f3, .rd 8 d.n4 d.f4, .lit (.slice none 0 0)]]⟩), (k + 1, ⟨6, true, [[.lit (.slice none 0 0), .lit (.slice none 0 0), .lit (.slice none 0 0), .lit (.slice none 0 0), .lit (.slice none 0 0), .lit (.slice none 0 0)]]⟩), (k, ⟨6, true, [[.rd 2 d.n0 d.f0, .rd 2 d.n1 d.f1, .rd 2 d.n2 d.f2, .rd 1 0 d.f3, .rd 8 d.n4 d.f4, .rd 5 d.n5 d.f5]]⟩)]) (wk_low (by omega) (by simp -dsimp -implicitDefEqProofs only [go_sem, h3, h4, h4', o3, o4, List.map_append, Flt.row, eq_self, ↓reduceIte]) (by simp -dsimp -implicitDefEqProofs only [go_sem, h3, h4, h4', o3, o4, List.map_append, Flt.row, eq_self, ↓reduceIte]) (by simp -dsimp -implicitDefEqProofs only [go_sem, h3, h4, h4', o3, o4, List.map_append, Flt.row, eq_self, ↓reduceIte]) (by simp -dsimp -implicitDefEqProofs only [go_sem, h3, h4, h4', o3, o4, List.map_append, Flt.row, eq_self, ↓reduceIte]))) ?_
      exact hfin
  · rcases Nat.eq_zero_or_pos d.n4 with h4 | h4
    · have h3' : d.n3 ≠ 0 := by omega
      simp only [DE.cells, h4] at hfin
      have kp : Kp [0,1,2,3,5,7,9,11,22,23,24,25,36,37,38,39,50,51,52,53,64,65,66,67] (fun i => i - k) := kpI
      have uU := zA @h3 (zA @h3' (zA @h4 (zA @o3 @o4)))
      refine wl ?_ <;> and_intros <;> first | exact hdT | (apply zM; (repeat intro ht); apply zM; (repeat intro hg); apply zM)
      refine W_mv (Mv.freeze (k + 3) (by simp -dsimp -implicitDefEqProofs only [go_sem, h3, h3', h4, o3, o4, eq_self, ↓reduceIte]; rfl) rfl) ?_
      simp -dsimp -implicitDefEqProofs only [frzF, frz_app, go_sem, h3, h3', h4, o3, o4, eq_self, ↓reduceIte]
      refine W_mv (Mv.freeze (k + 4) (by simp -dsimp -implicitDefEqProofs only [go_sem, h3, h3', h4, o3, o4, eq_self, ↓reduceIte]; rfl) rfl) ?_
      simp -dsimp -implicitDefEqProofs only [frzF, frz_app, go_sem, h3, h3', h4, o3, o4, eq_self, ↓reduceIte]
      refine W_mv (Mv.row (k + 5) (l := []) [.lit (.slice none 0 0), .lit (.slice none 0 0), .lit (.slice none 0 0), .rd 1 d.n3 d.f3, .rd 8 0 d.f4, .lit (.slice none 0 0)] (by simp -dsimp -implicitDefEqProofs only [go_sem, h3, h3', h4, o3, o4, List.map_append, Flt.row, eq_self, ↓reduceIte]; rfl) (.cons (VLe.refl _) (.cons (VLe.refl _) (.cons (VLe.refl _) (.cons (VLe.copy' _ _ _) (.cons (VLe.rd (fun i hi => absurd hi (by omega))) (.cons (VLe.refl _) .nil)))))) rfl) ?_
      refine rR ?_ <;> first | exact hdT | apply zN
      refine W_mv (Mv.app (k + 5) (k + 4) ⟨by omega, by omega⟩ ⟨by omega, by omega⟩ (k1 := k + 7) (fr1 := [(24, .lit (.int .i64 0)), (23, .lit (.int .i64 (d.n0 : Int))), (22, .rd 2 d.n0 d.f0), (3, .ptr (k + 4) 0 0), (2, .ptr (k + 1) 0 0), (1, .ptr k 0 0)]) (H1 := [(k + 4, ⟨6, true, [[.lit (.slice none 0 0), .lit (.slice none 0 0), .lit (.slice none 0 0), .rd 1 d.n3 d.f3, .rd 8 0 d.f4, .lit (.slice none 0 0)]]⟩), (k + 1, ⟨6, true, [[.lit (.slice none 0 0), .lit (.slice none 0 0), .lit (.slice none 0 0), .lit (.slice none 0 0), .lit (.slice none 0 0), .lit (.slice none 0 0)]]⟩), (k, ⟨6, true, [[.rd 2 d.n0 d.f0, .rd 2 d.n1 d.f1, .rd 2 d.n2 d.f2, .rd 1 d.n3 d.f3, .rd 8 0 d.f4, .rd 5 d.n5 d.f5]]⟩)]) (wk_low (by omega) (by simp -dsimp -implicitDefEqProofs only [go_sem, h3, h3', h4, o3, o4, List.map_append, Flt.row, eq_self, ↓reduceIte]) (by simp -dsimp -implicitDefEqProofs only [go_sem, h3, h3', h4, o3, o4, List.map_append, Flt.row, eq_self, ↓reduceIte]) (by simp -dsimp -implicitDefEqProofs only [go_sem, h3, h3', h4, o3, o4, List.map_append, Flt.row, eq_self, ↓reduceIte]) (by simp -dsimp -implicitDefEqProofs only [go_sem, h3, h3', h4, o3, o4, List.map_append, Flt.row, eq_self, ↓reduceIte]))) ?_
      exact hfin
    · have h3' : d.n3 ≠ 0 := by omega
      have h4' : d.n4 ≠ 0 := by omega
      have kp : Kp [0,1,2,3,5,7,9,11,22,23,24,25,36,37,38,39,50,51,52,53,64,65,66,67] (fun i => i - k) := kpI
      have uU := zA @h3 (zA @h4 (zA @h3' (zA @h4' (zA @o3 @o4))))
      refine wl ?_ <;> and_intros <;> first | exact hdT | (apply zM; (repeat intro ht); apply zM; (repeat intro hg); apply zM)
      refine W_mv (Mv.freeze (k + 3) (by simp -dsimp -implicitDefEqProofs only [go_sem, h3, h4, h3', h4', o3, o4, eq_self, ↓reduceIte]; rfl) rfl) ?_
      simp -dsimp -implicitDefEqProofs only [frzF, frz_app, go_sem, h3, h4, h3', h4', o3, o4, eq_self, ↓reduceIte]
      refine W_mv (Mv.freeze (k + 5) (by simp -dsimp -implicitDefEqProofs only [go_sem, h3, h4, h3', h4', o3, o4, eq_self, ↓reduceIte]; rfl) rfl) ?_
      simp -dsimp -implicitDefEqProofs only [frzF, frz_app, go_sem, h3, h4, h3', h4', o3, o4, eq_self, ↓reduceIte]
      refine W_mv (Mv.row (k + 6) (l := []) [.lit (.slice none 0 0), .lit (.slice none 0 0), .lit (.slice none 0 0), .rd 1 d.n3 d.f3, .rd 8 d.n4 d.f4, .lit (.slice none 0 0)] (by simp -dsimp -implicitDefEqProofs only [go_sem, h3, h4, h3', h4', o3, o4, List.map_append, Flt.row, eq_self, ↓reduceIte]; rfl) (.cons (VLe.refl _) (.cons (VLe.refl _) (.cons (VLe.refl _) (.cons (VLe.copy' _ _ _) (.cons (VLe.copy' _ _ _) (.cons (VLe.refl _) .nil)))))) rfl) ?_
      refine rR ?_ <;> first | exact hdT | apply zN
      refine W_mv (Mv.app (k + 6) (k + 4) ⟨by omega, by omega⟩ ⟨by omega, by omega⟩ (k1 := k + 7) (fr1 := [(24, .lit (.int .i64 0)), (23, .lit (.int .i64 (d.n0 : Int))), (22, .rd 2 d.n0 d.f0), (3, .ptr (k + 4) 0 0), (2, .ptr (k + 1) 0 0), (1, .ptr k 0 0)]) (H1 := [(k + 4, ⟨6, true, [[.lit (.slice none 0 0), .lit (.slice none 0 0), .lit (.slice none 0 0), .rd 1 d.n3 d.f3, .rd 8 d.n4 d.f4, .lit (.slice none 0 0)]]⟩), (k + 1, ⟨6, true, [[.lit (.slice none 0 0), .lit (.slice none 0 0), .lit (.slice none 0 0), .lit (.slice none 0 0), .lit (.slice none 0 0), .lit (.slice none 0 0)]]⟩), (k, ⟨6, true, [d.cells]⟩)]) (wk_low (by omega) (by simp -dsimp -implicitDefEqProofs only [go_sem, h3, h4, h3', h4', o3, o4, List.map_append, Flt.row, eq_self, ↓reduceIte]) (by simp -dsimp -implicitDefEqProofs only [go_sem, h3, h4, h3', h4', o3, o4, List.map_append, Flt.row, eq_self, ↓reduceIte]) (by simp -dsimp -implicitDefEqProofs only [go_sem, h3, h4, h3', h4', o3, o4, List.map_append, Flt.row, eq_self, ↓reduceIte]) (by simp -dsimp -implicitDefEqProofs only [go_sem, h3, h4, h3', h4', o3, o4, List.map_append, Flt.row, eq_self, ↓reduceIte]))) ?_
      exact hfin
end Go.Proofs.T
end
section
namespace Go.Proofs.T
open Go Go.AM Go.Proofs
set_option maxRecDepth 20000
variable {Γ : List (Nat × List AVal)}
attribute [local irreducible] putO del
theorem differ3' (k D id E : Nat) (hD : D < k) (hid : id < k) (hne : D ≠ id) (hE : E < k) (hDE : D ≠ E) (hEi : E ≠ id) (l0 : List (Int × Int × Sp)) (hl0 : l0.length ≤ 10000) (a b : St) (g n m p : Nat) (hm : m = n) (hp : p = n) (hn : n ≤ 1000) (c1 c2 c3 c4 c5 : AVal) (e1 : ∀ p, bd0 p c1 = true) (e2 : ∀ p, bd0 p c2 = true) (e3 : ∀ p, bd0 p c3 = true) (e4 : ∀ p, bd0 p c4 = true) (e5 : ∀ p, bd0 p c5 = true) (L : List (Int × Int × Sp)) (eL : L = l0 ++ flx (difS a b g) n) :
    Tr Tryz.prog Γ 59 k [.rd 3 m (sf a g), .rd 3 p (sf b g), .fn 60 [.ptr D 0 0, .ptr E 0 0]] (accH id 5 (l0.map pR) [(D, ⟨6, false, [[c1, c2, c3, c4, c5, accV id (l0.map pR)]]⟩), (E, ⟨1, true, [[.lit (.int .i64 (g : Int))]]⟩)]) (fun k1 r1 H1 => k1 = k + 1 ∧ r1 = .tup [] ∧ H1 = accH k 5 (L.map pR) [(D, ⟨6, false, [[c1, c2, c3, c4, c5, accV k (L.map pR)]]⟩), (E, ⟨1, true, [[.lit (.int .i64 (g : Int))]]⟩)]) := by
  subst hm hp eL; exact differ3 k D hD id hid hne E hE hDE hEi l0 hl0 a b g _ hn c1 c2 c3 c4 c5 e1 e2 e3 e4 e5
theorem apart2 {loc : Heap} {D E i0 id sz sz' : Nat} {l l' : List (List AVal)} {B B' C : Blk} (h1 : AM.look loc D = none) (h2 : AM.look loc id = none) (h3 : AM.look loc i0 = none) (h4 : AM.look loc E = none) : apartH loc (accH i0 sz l [(D, B), (E, C)]) (accH id sz' l' [(D, B'), (E, C)]) := fun i hi => by
  by_cases hD : i = D
  · subst hD; exact h1
  by_cases hI : i = id
  · subst hI; exact h2
  by_cases hJ : i = i0
  · subst hJ; exact h3
  by_cases hE : i = E
  · subst hE; exact h4
  exfalso
  rcases hi with h | h
  · cases l <;> simp [accH, keyB, AM.look, Ne.symm hD, Ne.symm hJ, Ne.symm hE] at h
  · cases l' <;> simp [accH, keyB, AM.look, Ne.symm hD, Ne.symm hI, Ne.symm hE] at h
theorem flx2_len (a b : St) (n : Nat) : ∀ g, (flx (fun g => flx (difS a b g) n) g).length ≤ g * n := flx_len fun g => by
  have := flx_len (difS_len a b g) n; omega
set_option maxHeartbeats 4000000 in
theorem between4 (a b : St) (hns : a.ns ≤ 12) (gns : b.ns = a.ns) (hnk : a.nk ≤ 12) (hsp : ∀ g, g < a.ns → a.nsp g = a.nk) (hsp' : ∀ g, g < a.ns → b.nsp g = a.nk) (k : Nat) (R : List AVal) (n0 n1 n2 n3 n4 : Nat) (f0 f1 f2 f3 f4 : Nat → List AVal)
    (hR : R = [.rd 2 n0 f0, .rd 2 n1 f1, .rd 2 n2 f2, .rd 1 n3 f3, .rd 8 n4 f4, rows 5 ((flx (fun g => flx (difS a b g) a.nk) a.ns).map pR)]) :
    W Tryz.prog Γ 139 k (cat (bodyOf Tryz.f21) [1, 1, 1, 1, 1, 1, 1, 1, 1, 1, 1, 1, 1]) (retQ Tryz.prog Tryz.f21 fun _ r1 _ => VLe r1 (.tup [.agg R, .lit (.int .i64 0)])) (k + 11) [(10, .ptr (k + 3) 0 0), (5, .lit (.int .i64 0)), (4, .ptr (k + 2) 0 0), (3, .ptr (k + 1) 0 0), (2, .ptr k 0 0)] [(k + 2, ⟨6, true, [[.lit (.slice none 0 0), .lit (.slice none 0 0), .lit (.slice none 0 0), .lit (.slice none 0 0), .lit (.slice none 0 0), .lit (.slice none 0 0)]]⟩), (k + 1, ⟨7, true, [b.cells]⟩), (k, ⟨7, true, [a.cells]⟩), (k + 3, ⟨6, false, [[.rd 2 n0 f0, .rd 2 n1 f1, .rd 2 n2 f2, .rd 1 n3 f3, .rd 8 n4 f4, .lit (.slice none 0 0)]]⟩)] := by
  obtain ⟨n5, f5, e5⟩ : ∃ n f, rows 5 ((flx (fun g => flx (difS a b g) a.nk) a.ns).map pR) = .rd 5 n f := ⟨_, _, rfl⟩
  rw [e5] at hR
  refine M_joinO rfl [0,1,2,3,4,5,6,7,9,10,11,13,15,16,17,18,19,20,28,30,31,32,33,39,64,65,66,67,76,77,78,79,95,107,109,122,123,124,125] (k + 12) [] [(k + 3, ⟨6, false, [[.rd 2 n0 f0, .rd 2 n1 f1, .rd 2 n2 f2, .rd 1 n3 f3, .rd 8 n4 f4, .rd 5 n5 f5]]⟩), (k + 2, ⟨6, true, [[.lit (.slice none 0 0), .lit (.slice none 0 0), .lit (.slice none 0 0), .lit (.slice none 0 0), .lit (.slice none 0 0), .lit (.slice none 0 0)]]⟩), (k + 1, ⟨7, true, [b.cells]⟩), (k, ⟨7, true, [a.cells]⟩)] ?_ ?_
  · have kp : Kp [0,1,2,3,4,5,6,7,9,10,11,13,15,16,17,18,19,20,28,30,31,32,33,39,64,65,66,67,76,77,78,79,95,107,109,122,123,124,125] (fun i => i - k) := kpI
    refine wl ?_ <;> and_intros <;> first | exact hdT | (apply zM; (repeat intro ht); apply zM; (repeat intro hg); apply zM)
    refine M_forO (X := Nat) rfl [0,1,2,3,4,5,6,7,9,10,11,13,15,16,17,18,19,20,28,30,31,32,33,39,64,65,66,67,76,77,78,79,95,107,109,122,123,124,125] (k + 12) (fun i => [(124, .lit (.int .i64 (i : Int)))]) (fun i => accH (k + 11) 5 ((flx (fun g => flx (difS a b g) a.nk) i).map pR) [(k + 2, ⟨6, true, [[.lit (.slice none 0 0), .lit (.slice none 0 0), .lit (.slice none 0 0), .lit (.slice none 0 0), .lit (.slice none 0 0), .lit (.slice none 0 0)]]⟩), (k + 1, ⟨7, true, [b.cells]⟩), (k, ⟨7, true, [a.cells]⟩), (k + 3, ⟨6, false, [[.rd 2 n0 f0, .rd 2 n1 f1, .rd 2 n2 f2, .rd 1 n3 f3, .rd 8 n4 f4, accV (k + 11) ((flx (fun g => flx (difS a b g) a.nk) i).map pR)]]⟩)]) (fun i => i ≤ a.ns) (fun i => a.ns - i) 0 ?_ (Nat.zero_le _) ?_
    · rw [flx_zero, List.map_nil]
      refine rR ?_ <;> first | exact hdT | apply zN
      exact wkF
    intro g hg
    have hfl := flx2_len a b a.nk g
    have hgn : g * a.nk ≤ 12 * 12 := Nat.mul_le_mul (by omega) hnk
    obtain ⟨l, el, hl⟩ : ∃ x, x = flx (fun g => flx (difS a b g) a.nk) g ∧ x.length ≤ 144 := ⟨_, rfl, by omega⟩
    obtain ⟨m, em⟩ : ∃ x, x = flx (fun g => flx (difS a b g) a.nk) (g + 1) := ⟨_, rfl⟩
    have es : m = l ++ flx (difS a b g) a.nk := by rw [em, flx_succ, ← el]
    rw [← el]
    refine rR ?_ <;> first | exact hdT | apply zN
    refine wl ?_ <;> and_intros <;> first | exact hdT | (apply zM; (repeat intro ht); apply zM; (repeat intro hg); apply zM)
    · refine W_mv (Mv.wk (k1 := k + 13) (fr1 := [(19, .ptr (k + 12) 0 0), (20, .rd 3 (b.nsp g) (sf b g)), (123, .lit (.int .i64 (b.ns : Int))), (122, .rd 1 b.ns (ssf b)), (10, .ptr (k + 3) 0 0), (5, .lit (.int .i64 0)), (4, .ptr (k + 2) 0 0), (3, .ptr (k + 1) 0 0), (2, .ptr k 0 0), (124, .lit (.int .i64 (g : Int)))]) (H1 := (k + 2, ⟨6, true, [[.lit (.slice none 0 0), .lit (.slice none 0 0), .lit (.slice none 0 0), .lit (.slice none 0 0), .lit (.slice none 0 0), .lit (.slice none 0 0)]]⟩) :: (k + 1, ⟨7, true, [b.cells]⟩) :: (k, ⟨7, true, [a.cells]⟩) :: accH (k + 11) 5 (l.map pR) [(k + 3, ⟨6, false, [[.rd 2 n0 f0, .rd 2 n1 f1, .rd 2 n2 f2, .rd 1 n3 f3, .rd 8 n4 f4, accV (k + 11) (l.map pR)]]⟩), (k + 12, ⟨1, true, [[.lit (.int .i64 (g : Int))]]⟩)]) (wk_low (by omega) (by simp -dsimp -implicitDefEqProofs only [go_sem, List.map_append, Flt.row, eq_self, ↓reduceIte]) (by simp -dsimp -implicitDefEqProofs only [go_sem, List.map_append, Flt.row, eq_self, ↓reduceIte]) (by simp -dsimp -implicitDefEqProofs only [go_sem, List.map_append, Flt.row, eq_self, ↓reduceIte]) (by simp -dsimp -implicitDefEqProofs only [go_sem, List.map_append, Flt.row, eq_self, ↓reduceIte]))) ?_
      refine cl [.far (.tup []) (k + 14) [(k + 2, ⟨6, true, [[.lit (.slice none 0 0), .lit (.slice none 0 0), .lit (.slice none 0 0), .lit (.slice none 0 0), .lit (.slice none 0 0), .lit (.slice none 0 0)]]⟩), (k + 1, ⟨7, true, [b.cells]⟩), (k, ⟨7, true, [a.cells]⟩)] (accH (k + 11) 5 (l.map pR) [(k + 3, ⟨6, false, [[.rd 2 n0 f0, .rd 2 n1 f1, .rd 2 n2 f2, .rd 1 n3 f3, .rd 8 n4 f4, accV (k + 11) (l.map pR)]]⟩), (k + 12, ⟨1, true, [[.lit (.int .i64 (g : Int))]]⟩)]) (accH (k + 13) 5 (m.map pR) [(k + 3, ⟨6, false, [[.rd 2 n0 f0, .rd 2 n1 f1, .rd 2 n2 f2, .rd 1 n3 f3, .rd 8 n4 f4, accV (k + 13) (m.map pR)]]⟩), (k + 12, ⟨1, true, [[.lit (.int .i64 (g : Int))]]⟩)])] ?_ <;> and_intros <;> first | exact hdT | (apply zM; (repeat intro ht); apply zM; (repeat intro hg); apply zM)
      · exact fun _ => rfl
      · exact apart2 (by simp only [AM.look]; repeat (rw [if_neg (by omega)])) (by simp only [AM.look]; repeat (rw [if_neg (by omega)])) (by simp only [AM.look]; repeat (rw [if_neg (by omega)])) (by simp only [AM.look]; repeat (rw [if_neg (by omega)]))
      · exact differ3' (k + 13) (k + 3) (k + 11) (k + 12) (by omega) (by omega) (by omega) (by omega) (by omega) (by omega) l (by omega) a b g a.nk (a.nsp g) (b.nsp g) (hsp g (by omega)) (hsp' g (by omega)) (by omega) _ _ _ _ _ (fun _ => rfl) (fun _ => rfl) (fun _ => rfl) (fun _ => rfl) (fun _ => rfl) m es
      refine wl ?_ <;> and_intros <;> first | exact hdT | (apply zM; (repeat intro ht); apply zM; (repeat intro hg); apply zM)
      refine ⟨g + 1, by omega, by omega, ?_⟩
      rw [← em]
      refine rR ?_ <;> first | exact hdT | apply zN
      exact Mv.app (k + 13) (k + 11) ⟨by omega, by omega⟩ ⟨by omega, by omega⟩ (wk_low (by omega) (by simp -dsimp -implicitDefEqProofs only [go_sem, List.map_append, Flt.row, eq_self, ↓reduceIte]) (by simp -dsimp -implicitDefEqProofs only [go_sem, List.map_append, Flt.row, eq_self, ↓reduceIte]) (by simp -dsimp -implicitDefEqProofs only [go_sem, List.map_append, Flt.row, eq_self, ↓reduceIte]) (by simp -dsimp -implicitDefEqProofs only [go_sem, List.map_append, Flt.row, eq_self, ↓reduceIte]))
    · have hgn : g = a.ns := by omega
      subst hgn
      rw [el]
      exact Mv.frz_row (id := k + 11) (s := 5) (D := k + 3) (sz := 6) (l := ((flx (fun g => flx (difS a b g) a.nk) a.ns).map pR)) (row := [.rd 2 n0 f0, .rd 2 n1 f1, .rd 2 n2 f2, .rd 1 n3 f3, .rd 8 n4 f4, accV (k + 11) ((flx (fun g => flx (difS a b g) a.nk) a.ns).map pR)]) 5 (.rd 5 n5 f5) [(10, .ptr (k + 3) 0 0), (5, .lit (.int .i64 0)), (4, .ptr (k + 2) 0 0), (3, .ptr (k + 1) 0 0), (2, .ptr k 0 0)] [(k + 2, ⟨6, true, [[.lit (.slice none 0 0), .lit (.slice none 0 0), .lit (.slice none 0 0), .lit (.slice none 0 0), .lit (.slice none 0 0), .lit (.slice none 0 0)]]⟩), (k + 1, ⟨7, true, [b.cells]⟩), (k, ⟨7, true, [a.cells]⟩)] (by omega) (by simp -dsimp -implicitDefEqProofs only [go_sem, List.map_append, Flt.row, eq_self, ↓reduceIte]) rfl (by simp -dsimp -implicitDefEqProofs only [go_sem, List.map_append, Flt.row, eq_self, ↓reduceIte]) (by rw [e5]; exact VLe.refl _) (by simp -dsimp -implicitDefEqProofs only [go_sem, List.map_append, Flt.row, eq_self, ↓reduceIte]) (by simp -dsimp -implicitDefEqProofs only [go_sem, List.map_append, Flt.row, eq_self, ↓reduceIte]) (by simp -dsimp -implicitDefEqProofs only [go_sem, List.map_append, Flt.row, eq_self, ↓reduceIte])
  · refine rR ?_ <;> first | exact hdT | apply zN
    have kp : Kp [0,1,2,3,4,5,6,7,9,10,11,13,15,16,17,18,19,20,28,30,31,32,33,39,64,65,66,67,76,77,78,79,95,107,109,122,123,124,125] (fun i => i - k) := kpI
    refine wl ?_ <;> and_intros <;> first | exact hdT | (apply zM; (repeat intro ht); apply zM; (repeat intro hg); apply zM)
    have uU := Go.AM.uU; refine cR ?_; apply zN
    rw [hR]
    exact VLe.refl _
end Go.Proofs.T
end
section
namespace Go.Proofs.T
open Go Go.AM Go.Proofs
set_option maxRecDepth 20000
variable {Γ : List (Nat × List AVal)}
attribute [local irreducible] putO del
set_option maxHeartbeats 4000000 in
theorem rb2 (a b : St) (hnk : a.nk ≤ 12) (hns : a.ns ≤ 12) (gns : b.ns = a.ns) (gg : b.ng = a.ng) (gsg : a.ns = a.ng) (hsp : ∀ g, g < a.ns → a.nsp g = a.nk) (hsp' : ∀ g, g < a.ns → b.nsp g = a.nk) (k : Nat) (Q : AQ) (n0 n1 n2 n5 : Nat) (f0 f1 f2 f5 : Nat → List AVal) (e2 : rows 2 ((flx (difN a.wt b.wt) a.ns).map vlR) = .rd 2 n2 f2) (e5 : rows 5 ((flx (fun g => flx (difS a b g) a.nk) a.ns).map pR) = .rd 5 n5 f5)
    (hrest : W Tryz.prog Γ 240 k (cat (bodyOf Tryz.f17) [1, 1, 1, 1, 1, 1, 1]) Q (k + 8) [(8, .ptr (k + 3) 0 0), (5, .lit (.int .i64 0)), (4, .ptr (k + 2) 0 0), (3, .ptr (k + 1) 0 0), (2, .ptr k 0 0)] [(k + 2, ⟨6, true, [[.lit (.slice none 0 0), .lit (.slice none 0 0), .lit (.slice none 0 0), .lit (.slice none 0 0), .lit (.slice none 0 0), .lit (.slice none 0 0)]]⟩), (k + 1, ⟨7, true, [b.cells]⟩), (k, ⟨7, true, [a.cells]⟩), (k + 3, ⟨6, false, [[.rd 2 n0 f0, .rd 2 n1 f1, .rd 2 n2 f2, .lit (.slice none 0 0), .lit (.slice none 0 0), .rd 5 n5 f5]]⟩)]) :
    W Tryz.prog Γ 240 k (cat (bodyOf Tryz.f17) [1, 1, 1, 1, 1, 1]) Q (k + 6) [(8, .ptr (k + 3) 0 0), (5, .lit (.int .i64 0)), (4, .ptr (k + 2) 0 0), (3, .ptr (k + 1) 0 0), (2, .ptr k 0 0)] [(k + 2, ⟨6, true, [[.lit (.slice none 0 0), .lit (.slice none 0 0), .lit (.slice none 0 0), .lit (.slice none 0 0), .lit (.slice none 0 0), .lit (.slice none 0 0)]]⟩), (k + 1, ⟨7, true, [b.cells]⟩), (k, ⟨7, true, [a.cells]⟩), (k + 3, ⟨6, false, [[.rd 2 n0 f0, .rd 2 n1 f1, .lit (.slice none 0 0), .lit (.slice none 0 0), .lit (.slice none 0 0), .lit (.slice none 0 0)]]⟩)] := by
  have kp : Kp [0,1,2,3,4,5,6,7,8,9,10,11,12,14,15,16,17,25,36,42,55,78,95,112,131,150,171,187,203,228] (fun i => i - k) := kpI
  refine wl ?_ <;> and_intros <;> first | exact hdT | (apply zM; (repeat intro ht); apply zM; (repeat intro hg); apply zM)
  refine M_forO (X := Nat) rfl [0,1,2,3,4,5,6,7,8,9,10,11,12,14,15,16,17,25,36,42,55,78,95,112,131,150,171,187,203,228] (k + 8) (fun i => [(10, .lit (.int .i64 (i : Int)))]) (fun i => accH (k + 6) 2 ((flx (difN a.wt b.wt) i).map vlR) (accH (k + 7) 5 ((flx (fun g => flx (difS a b g) a.nk) i).map pR) [(k + 2, ⟨6, true, [[.lit (.slice none 0 0), .lit (.slice none 0 0), .lit (.slice none 0 0), .lit (.slice none 0 0), .lit (.slice none 0 0), .lit (.slice none 0 0)]]⟩), (k + 1, ⟨7, true, [b.cells]⟩), (k, ⟨7, true, [a.cells]⟩), (k + 3, ⟨6, false, [[.rd 2 n0 f0, .rd 2 n1 f1, accV (k + 6) ((flx (difN a.wt b.wt) i).map vlR), .lit (.slice none 0 0), .lit (.slice none 0 0), accV (k + 7) ((flx (fun g => flx (difS a b g) a.nk) i).map pR)]]⟩)])) (fun i => i ≤ a.ns) (fun i => a.ns - i) 0 ?_ (Nat.zero_le _) ?_
  · rw [flx_zero, flx_zero, List.map_nil, List.map_nil]
    refine rR ?_ <;> first | exact hdT | apply zN
    exact wkF
  intro g hi
  have hf0 := flx_len (difN_len a.wt b.wt) g
  have hf1 := flx2_len a b a.nk g
  have hgn : g * a.nk ≤ 12 * 12 := Nat.mul_le_mul (by omega) hnk
  obtain ⟨A, eA, hA⟩ : ∃ x, x = ((flx (difN a.wt b.wt) g).map vlR) ∧ x.length ≤ g := ⟨_, rfl, by simp; omega⟩
  obtain ⟨l0, el0, hl0⟩ : ∃ x, x = flx (fun g => flx (difS a b g) a.nk) g ∧ x.length ≤ 144 := ⟨_, rfl, by omega⟩
  obtain ⟨A', eA'⟩ : ∃ x, x = ((flx (difN a.wt b.wt) (g + 1)).map vlR) := ⟨_, rfl⟩
  have sA : A' = A ++ (difN a.wt b.wt g).map vlR := by rw [eA', flx_succ, List.map_append, ← eA]
  have hA' : A'.length ≤ g + 1 := by rw [sA]; have := difN_len a.wt b.wt g; simp; omega
  rw [← eA, ← el0]
  refine rR ?_ <;> first | exact hdT | apply zN
  refine C_seq rfl ?_
  refine C_seq rfl ?_; (refine S_reg0 rfl [0,1,2,3,4,5,6,7,8,9,10,11,12,14,15,16,17,25,36,42,55,78,95,112,131,150,171,187,203,228] rfl rfl (fun K hK => ?_)); simp -dsimp -implicitDefEqProofs only [go_sem, eq_self, ↓reduceIte]; (refine hK _ _ _ _ (fun hx => ?_)); clear hx hK; simp -dsimp -implicitDefEqProofs only [go_sem, eq_self, ↓reduceIte]; clear K
  refine C_cond rfl _ rfl (fun ht => ?_) (fun ht => ?_)
  · simp only [nf] at ht
    refine C_skip rfl ?_
    refine rR ?_ <;> first | exact hdT | apply zN
    refine C_seq rfl ?_
    refine C_block rfl ?_
    refine M_joinO rfl [0,1,2,3,4,5,6,7,8,9,10,11,12,14,15,16,17,25,36,42,55,78,95,112,131,150,171,187,203,228] (k + 10) [] (accH (k + 6) 2 A' (accH (k + 7) 5 (l0.map pR) [(k + 2, ⟨6, true, [[.lit (.slice none 0 0), .lit (.slice none 0 0), .lit (.slice none 0 0), .lit (.slice none 0 0), .lit (.slice none 0 0), .lit (.slice none 0 0)]]⟩), (k + 1, ⟨7, true, [b.cells]⟩), (k, ⟨7, true, [a.cells]⟩), (k + 3, ⟨6, false, [[.rd 2 n0 f0, .rd 2 n1 f1, accV (k + 6) A', .lit (.slice none 0 0), .lit (.slice none 0 0), accV (k + 7) (l0.map pR)]]⟩)])) ?_ ?_
    · clear el0
      rcases A with _ | ⟨x0, A⟩
      · refine wl ?_ <;> and_intros <;> first | exact hdT | (apply zM; (repeat intro ht); apply zM; (repeat intro hg); apply zM)
        · have hd : difN a.wt b.wt g = [((g : Int), b.wt g)] := by rw [difN, if1, if_pos (by simp; omega)]
          rw [sA, hd, List.map_cons, List.map_nil, List.nil_append]
          refine rR ?_ <;> first | exact hdT | apply zN
          exact Mv.app (k + 9) (k + 6) ⟨by omega, by omega⟩ ⟨by omega, by omega⟩ (wk_low (by omega) (by simp -dsimp -implicitDefEqProofs only [go_sem, List.map_append, Flt.row, eq_self, ↓reduceIte]) (by simp -dsimp -implicitDefEqProofs only [go_sem, List.map_append, Flt.row, eq_self, ↓reduceIte]) (by simp -dsimp -implicitDefEqProofs only [go_sem, List.map_append, Flt.row, eq_self, ↓reduceIte]) (by simp -dsimp -implicitDefEqProofs only [go_sem, List.map_append, Flt.row, eq_self, ↓reduceIte]))
        · have hd : difN a.wt b.wt g = [] := by rw [difN, if1, if_neg (by simp; omega)]
          rw [sA, hd, List.map_nil, List.append_nil]
          refine rR ?_ <;> first | exact hdT | apply zN
          exact wkF
      · have hL : A.length + 1 ≤ g := by simpa using hA
        refine wl ?_ <;> and_intros <;> first | exact hdT | (apply zM; (repeat intro ht); apply zM; (repeat intro hg); apply zM)
        · have hd : difN a.wt b.wt g = [((g : Int), b.wt g)] := by rw [difN, if1, if_pos (by simp; omega)]
          rw [sA, hd, List.map_cons, List.map_nil, List.cons_append]
          refine rR ?_ <;> first | exact hdT | apply zN
          exact Mv.app (k + 9) (k + 6) ⟨by omega, by omega⟩ ⟨by omega, by omega⟩ (wk_low (by omega) (by simp -dsimp -implicitDefEqProofs only [go_sem, List.map_append, Flt.row, eq_self, ↓reduceIte]) (by simp -dsimp -implicitDefEqProofs only [go_sem, List.map_append, Flt.row, eq_self, ↓reduceIte]) (by simp -dsimp -implicitDefEqProofs only [go_sem, List.map_append, Flt.row, eq_self, ↓reduceIte]) (by simp -dsimp -implicitDefEqProofs only [go_sem, List.map_append, Flt.row, eq_self, ↓reduceIte]))
        · have hd : difN a.wt b.wt g = [] := by rw [difN, if1, if_neg (by simp; omega)]
          rw [sA, hd, List.map_nil, List.append_nil]
          refine rR ?_ <;> first | exact hdT | apply zN
          exact wkF
    refine rR ?_ <;> first | exact hdT | apply zN
    clear eA sA
    have hg1 := hsp g (by omega)
    have hg2 := hsp' g (by omega)
    refine wl ?_ <;> and_intros <;> first | exact hdT | (apply zM; (repeat intro ht); apply zM; (repeat intro hg); apply zM)
    refine M_forO (X := Nat) rfl [0,1,2,3,4,5,6,7,8,9,10,11,12,14,15,16,17,25,36,42,55,78,95,112,131,150,171,187,203,228] (k + 10) (fun c => [(11, .lit (.int .i64 (c : Int)))]) (fun c => accH (k + 6) 2 A' (accH (k + 7) 5 ((l0 ++ flx (difS a b g) c).map pR) [(k + 2, ⟨6, true, [[.lit (.slice none 0 0), .lit (.slice none 0 0), .lit (.slice none 0 0), .lit (.slice none 0 0), .lit (.slice none 0 0), .lit (.slice none 0 0)]]⟩), (k + 1, ⟨7, true, [b.cells]⟩), (k, ⟨7, true, [a.cells]⟩), (k + 3, ⟨6, false, [[.rd 2 n0 f0, .rd 2 n1 f1, accV (k + 6) A', .lit (.slice none 0 0), .lit (.slice none 0 0), accV (k + 7) ((l0 ++ flx (difS a b g) c).map pR)]]⟩)])) (fun c => c ≤ a.nk) (fun c => a.nk - c) 0 ?_ (Nat.zero_le _) ?_
    · rw [flx_zero, List.append_nil]
      refine rR ?_ <;> first | exact hdT | apply zN
      exact wkF
    intro c hc
    have hf2 := flx_len (difS_len a b g) c
    obtain ⟨C, eC, hC⟩ : ∃ x, x = ((l0 ++ flx (difS a b g) c).map pR) ∧ x.length ≤ 1000 := ⟨_, rfl, by simp; omega⟩
    obtain ⟨C', eC'⟩ : ∃ x, x = ((l0 ++ flx (difS a b g) (c + 1)).map pR) := ⟨_, rfl⟩
    have sC : C' = C ++ (difS a b g c).map pR := by rw [eC', flx_succ, ← List.append_assoc, List.map_append, ← eC]
    rw [← eC]
    refine rR ?_ <;> first | exact hdT | apply zN
    refine C_seq rfl ?_
    refine C_seq rfl ?_; (refine S_reg0 rfl [0,1,2,3,4,5,6,7,8,9,10,11,12,14,15,16,17,25,36,42,55,78,95,112,131,150,171,187,203,228] rfl rfl (fun K hK => ?_)); simp -dsimp -implicitDefEqProofs only [go_sem, eq_self, ↓reduceIte]; (refine hK _ _ _ _ (fun hx => ?_)); clear hx hK; simp -dsimp -implicitDefEqProofs only [go_sem, eq_self, ↓reduceIte]; clear K
    refine C_cond rfl _ rfl (fun ht => ?_) (fun ht => ?_)
    · simp only [nf] at ht
      refine C_skip rfl ?_
      refine rR ?_ <;> first | exact hdT | apply zN
      refine C_seq rfl ?_
      refine C_block rfl ?_
      rcases C with _ | ⟨x0, C⟩
      · refine wl ?_ <;> and_intros <;> first | exact hdT | (apply zM; (repeat intro ht); apply zM; (repeat intro hg); apply zM)
        · have hd : difS a b g c = [((g : Int), (c : Int), b.sp g c)] := by rw [difS, if1, if_pos (by simp [spNe] at ht ⊢; omega)]
          refine ⟨c + 1, by omega, by omega, ?_⟩
          rw [← eC']
          rw [sC, hd, List.map_cons, List.map_nil, List.nil_append]
          refine rR ?_ <;> first | exact hdT | apply zN
          exact Mv.app (k + 11) (k + 7) ⟨by omega, by omega⟩ ⟨by omega, by omega⟩ (wk_low (by omega) (by simp -dsimp -implicitDefEqProofs only [go_sem, List.map_append, Flt.row, eq_self, ↓reduceIte]) (by simp -dsimp -implicitDefEqProofs only [go_sem, List.map_append, Flt.row, eq_self, ↓reduceIte]) (by simp -dsimp -implicitDefEqProofs only [go_sem, List.map_append, Flt.row, eq_self, ↓reduceIte]) (by simp -dsimp -implicitDefEqProofs only [go_sem, List.map_append, Flt.row, eq_self, ↓reduceIte]))
        · have hd : difS a b g c = [] := by rw [difS, if1, if_neg (by simp [spNe] at ht ⊢; omega)]
          refine ⟨c + 1, by omega, by omega, ?_⟩
          rw [← eC']
          rw [sC, hd, List.map_nil, List.append_nil]
          refine rR ?_ <;> first | exact hdT | apply zN
          exact wkF
      · have hL : C.length + 1 ≤ 1000 := by simpa using hC
        refine wl ?_ <;> and_intros <;> first | exact hdT | (apply zM; (repeat intro ht); apply zM; (repeat intro hg); apply zM)
        · have hd : difS a b g c = [((g : Int), (c : Int), b.sp g c)] := by rw [difS, if1, if_pos (by simp [spNe] at ht ⊢; omega)]
          refine ⟨c + 1, by omega, by omega, ?_⟩
          rw [← eC']
          rw [sC, hd, List.map_cons, List.map_nil, List.cons_append]
          refine rR ?_ <;> first | exact hdT | apply zN
          exact Mv.app (k + 11) (k + 7) ⟨by omega, by omega⟩ ⟨by omega, by omega⟩ (wk_low (by omega) (by simp -dsimp -implicitDefEqProofs only [go_sem, List.map_append, Flt.row, eq_self, ↓reduceIte]) (by simp -dsimp -implicitDefEqProofs only [go_sem, List.map_append, Flt.row, eq_self, ↓reduceIte]) (by simp -dsimp -implicitDefEqProofs only [go_sem, List.map_append, Flt.row, eq_self, ↓reduceIte]) (by simp -dsimp -implicitDefEqProofs only [go_sem, List.map_append, Flt.row, eq_self, ↓reduceIte]))
        · have hd : difS a b g c = [] := by rw [difS, if1, if_neg (by simp [spNe] at ht ⊢; omega)]
          refine ⟨c + 1, by omega, by omega, ?_⟩
          rw [← eC']
          rw [sC, hd, List.map_nil, List.append_nil]
          refine rR ?_ <;> first | exact hdT | apply zN
          exact wkF
    · simp only [nf] at ht
      refine C_exit rfl ?_
      refine rR ?_ <;> first | exact hdT | apply zN
      refine wl ?_ <;> and_intros <;> first | exact hdT | (apply zM; (repeat intro ht); apply zM; (repeat intro hg); apply zM)
      refine ⟨g + 1, by omega, by omega, ?_⟩
      have hcn : c = a.nk := by omega
      subst hcn
      rw [← eA', flx_succ, ← el0, ← eC]
      refine rR ?_ <;> first | exact hdT | apply zN
      exact wkF
  · simp only [nf] at ht
    refine C_exit rfl ?_
    refine rR ?_ <;> first | exact hdT | apply zN
    have hin : g = a.ns := by omega
    subst hin
    clear sA eA' hA'
    refine W_mv (Mv.frz_row (id := k + 6) (s := 2) (D := k + 3) (sz := 6) (l := A) (row := [.rd 2 n0 f0, .rd 2 n1 f1, accV (k + 6) A, .lit (.slice none 0 0), .lit (.slice none 0 0), accV (k + 7) (l0.map pR)]) 2 (.rd 2 n2 f2) [(8, .ptr (k + 3) 0 0), (5, .lit (.int .i64 0)), (4, .ptr (k + 2) 0 0), (3, .ptr (k + 1) 0 0), (2, .ptr k 0 0)] (accH (k + 7) 5 (l0.map pR) [(k + 2, ⟨6, true, [[.lit (.slice none 0 0), .lit (.slice none 0 0), .lit (.slice none 0 0), .lit (.slice none 0 0), .lit (.slice none 0 0), .lit (.slice none 0 0)]]⟩), (k + 1, ⟨7, true, [b.cells]⟩), (k, ⟨7, true, [a.cells]⟩)]) (by omega) (by simp -dsimp -implicitDefEqProofs only [go_sem, List.map_append, Flt.row, eq_self, ↓reduceIte]) rfl (by simp -dsimp -implicitDefEqProofs only [go_sem, List.map_append, Flt.row, eq_self, ↓reduceIte]) (by rw [eA, e2]; exact VLe.refl _) (by simp -dsimp -implicitDefEqProofs only [go_sem, List.map_append, Flt.row, eq_self, ↓reduceIte]) (by simp -dsimp -implicitDefEqProofs only [go_sem, List.map_append, Flt.row, eq_self, ↓reduceIte]) (by simp -dsimp -implicitDefEqProofs only [go_sem, List.map_append, Flt.row, eq_self, ↓reduceIte])) ?_
    refine W_mv (Mv.frz_row (id := k + 7) (s := 5) (D := k + 3) (sz := 6) (l := l0.map pR) (row := [.rd 2 n0 f0, .rd 2 n1 f1, .rd 2 n2 f2, .lit (.slice none 0 0), .lit (.slice none 0 0), accV (k + 7) (l0.map pR)]) 5 (.rd 5 n5 f5) [(8, .ptr (k + 3) 0 0), (5, .lit (.int .i64 0)), (4, .ptr (k + 2) 0 0), (3, .ptr (k + 1) 0 0), (2, .ptr k 0 0)] [(k + 2, ⟨6, true, [[.lit (.slice none 0 0), .lit (.slice none 0 0), .lit (.slice none 0 0), .lit (.slice none 0 0), .lit (.slice none 0 0), .lit (.slice none 0 0)]]⟩), (k + 1, ⟨7, true, [b.cells]⟩), (k, ⟨7, true, [a.cells]⟩)] (by omega) (by simp -dsimp -implicitDefEqProofs only [go_sem, List.map_append, Flt.row, eq_self, ↓reduceIte]) rfl (by simp -dsimp -implicitDefEqProofs only [go_sem, List.map_append, Flt.row, eq_self, ↓reduceIte]) (by rw [el0, e5]; exact VLe.refl _) (by simp -dsimp -implicitDefEqProofs only [go_sem, List.map_append, Flt.row, eq_self, ↓reduceIte]) (by simp -dsimp -implicitDefEqProofs only [go_sem, List.map_append, Flt.row, eq_self, ↓reduceIte]) (by simp -dsimp -implicitDefEqProofs only [go_sem, List.map_append, Flt.row, eq_self, ↓reduceIte])) ?_
    refine W_mv (Mv.wk (k1 := k + 8) (fr1 := [(8, .ptr (k + 3) 0 0), (5, .lit (.int .i64 0)), (4, .ptr (k + 2) 0 0), (3, .ptr (k + 1) 0 0), (2, .ptr k 0 0)]) (H1 := [(k + 2, ⟨6, true, [[.lit (.slice none 0 0), .lit (.slice none 0 0), .lit (.slice none 0 0), .lit (.slice none 0 0), .lit (.slice none 0 0), .lit (.slice none 0 0)]]⟩), (k + 1, ⟨7, true, [b.cells]⟩), (k, ⟨7, true, [a.cells]⟩), (k + 3, ⟨6, false, [[.rd 2 n0 f0, .rd 2 n1 f1, .rd 2 n2 f2, .lit (.slice none 0 0), .lit (.slice none 0 0), .rd 5 n5 f5]]⟩)]) (wk_low (by omega) (by simp -dsimp -implicitDefEqProofs only [go_sem, List.map_append, Flt.row, eq_self, ↓reduceIte]) (by simp -dsimp -implicitDefEqProofs only [go_sem, List.map_append, Flt.row, eq_self, ↓reduceIte]) (by simp -dsimp -implicitDefEqProofs only [go_sem, List.map_append, Flt.row, eq_self, ↓reduceIte]) (by simp -dsimp -implicitDefEqProofs only [go_sem, List.map_append, Flt.row, eq_self, ↓reduceIte]))) ?_
    exact hrest
end Go.Proofs.T
end
section
namespace Go.Proofs.T
open Go Go.AM Go.Proofs
set_option maxRecDepth 20000
variable {Γ : List (Nat × List AVal)}
theorem C_next {P : Program} {nt kb k id d1 d2 t1 t2 : Nat} {fr : Fr} {H : Heap} {Q : AQ} {c : Code} {p : List Nat} {x : Operand} {p1 p2 : String} {a1 a2 : Array Edge} {ops : Array Oper}
    (hc : cat c p = .region id ops false) (hops : ops.toList = [⟨some d1, .next x false, t1, p1, a1, none⟩, ⟨some d2, .extract (.tmp d1) 0, t2, p2, a2, none⟩]) (hd : dstOk nt ops = true) {rds : List Nat} {outs : Out → Prop}
    (hN : GoodN P Γ ⟨some d1, .next x false, t1, p1, a1, none⟩ (aeval Γ fr) (AM.look H) k rds outs)
    (h : ∀ out, outs out → ∃ bb vs, out.v = .tup (.lit (.bool bb) :: vs) ∧ (Q .normal k (putO (putO fr (some d1) out.v) (some d2) (.lit (.bool bb))) (updH H out.upd))) : W P Γ nt kb (cat c p) Q k fr H := by
  rw [hc]
  refine W_regionN hops hd rfl hN fun out ho => ?_
  obtain ⟨bb, vs, e, hq⟩ := h out ho
  refine .inr ⟨rfl, ⟨.lit (.bool bb), k, [], []⟩, aop_good ?_, fun _ => hq⟩
  have e1 : aeval Γ (putO fr (some d1) out.v) (.tmp d1) = some (.tup (.lit (.bool bb) :: vs)) := by
    show AM.look (putO fr (some d1) out.v) d1 = _
    rw [look_putO, if_pos rfl, e]
  rw [e_ext, e1]; rfl
theorem apart3 {loc : Heap} {id sz sz' : Nat} {l l' : List (List AVal)} (h : AM.look loc id = none) : apartH loc (accH id sz l []) (accH id sz' l' []) := fun i hi => by
  by_cases hI : i = id
  · subst hI; exact h
  exfalso
  rcases hi with h | h
  · cases l <;> simp [accH, keyB, AM.look, Ne.symm hI] at h
  · cases l' <;> simp [accH, keyB, AM.look, Ne.symm hI] at h
theorem accV_len {id : Nat} {l m : List Int} (h : l.length = m.length) : accV id (l.map nR) = accV id (m.map nR) := by
  cases l <;> cases m <;> simp_all [accV]
theorem lft_len {a b : St} (i : Nat) : (lft a b i).length ≤ a.nt := by
  have h1 : (lft a b i).length ≤ (tEnts a a.nt).length := List.length_filter_le _ _
  simpa [tEnts] using h1
attribute [local go_sem] nR iterB_R
set_option maxHeartbeats 4000000 in
theorem between3 (a b : St) (ha : IdOk a) (hb : IdOk b) (hnt : a.nt ≤ 1000) (hns : a.ns ≤ 12) (gns : b.ns = a.ns) (hnk : a.nk ≤ 12) (hsp : ∀ g, g < a.ns → a.nsp g = a.nk) (hsp' : ∀ g, g < a.ns → b.nsp g = a.nk) (k : Nat) (R : List AVal) (n0 n1 n2 n4 : Nat) (f0 f1 f2 f4 : Nat → List AVal)
    (hR : R = [.rd 2 n0 f0, .rd 2 n1 f1, .rd 2 n2 f2, rows 1 ((gone a b).map nR), .rd 8 n4 f4, rows 5 ((flx (fun g => flx (difS a b g) a.nk) a.ns).map pR)]) :
    W Tryz.prog Γ 139 k (cat (bodyOf Tryz.f21) [0, 0, 1, 1, 1, 1, 1, 1, 1, 1, 1, 1, 1]) (thenQ (W Tryz.prog Γ 139 k (cat (bodyOf Tryz.f21) [1, 0, 1, 1, 1, 1, 1, 1, 1, 1, 1, 1, 1]) (thenQ (W Tryz.prog Γ 139 k (cat (bodyOf Tryz.f21) [1, 1, 1, 1, 1, 1, 1, 1, 1, 1, 1, 1]) (retQ Tryz.prog Tryz.f21 fun _ r1 _ => VLe r1 (.tup [.agg R, .lit (.int .i64 0)]))) (retQ Tryz.prog Tryz.f21 fun _ r1 _ => VLe r1 (.tup [.agg R, .lit (.int .i64 0)])))) (thenQ (W Tryz.prog Γ 139 k (cat (bodyOf Tryz.f21) [1, 1, 1, 1, 1, 1, 1, 1, 1, 1, 1, 1]) (retQ Tryz.prog Tryz.f21 fun _ r1 _ => VLe r1 (.tup [.agg R, .lit (.int .i64 0)]))) (retQ Tryz.prog Tryz.f21 fun _ r1 _ => VLe r1 (.tup [.agg R, .lit (.int .i64 0)])))) (k + 9) [(11, .mp (k + 7)), (10, .ptr (k + 3) 0 0), (5, .lit (.int .i64 0)), (4, .ptr (k + 2) 0 0), (3, .ptr (k + 1) 0 0), (2, .ptr k 0 0)] [(k + 7, ⟨3, true, mapR (lft a b b.nt) a.nt⟩), (k + 2, ⟨6, true, [[.lit (.slice none 0 0), .lit (.slice none 0 0), .lit (.slice none 0 0), .lit (.slice none 0 0), .lit (.slice none 0 0), .lit (.slice none 0 0)]]⟩), (k + 1, ⟨7, true, [b.cells]⟩), (k, ⟨7, true, [a.cells]⟩), (k + 3, ⟨6, false, [[.rd 2 n0 f0, .rd 2 n1 f1, .rd 2 n2 f2, .lit (.slice none 0 0), .rd 8 n4 f4, .lit (.slice none 0 0)]]⟩)] := by
  obtain ⟨l, el⟩ : ∃ x, x = lft a b b.nt := ⟨_, rfl⟩
  have hst : (l.map (·.2.2)).Nodup := by rw [el]; exact lft_stamps
  have hold : ∀ e ∈ l, e.2.2 < a.nt := by rw [el]; exact lft_old
  have hlen : l.length ≤ 1000 := by rw [el]; have := lft_len (a := a) (b := b) b.nt; omega
  have hgo : l.map (·.1) = gone a b := by rw [el]; exact lft_gone
  rw [← el]
  have kp : Kp [0,1,2,3,4,5,6,7,9,10,11,13,15,16,17,18,19,20,28,30,31,32,33,39,64,65,66,67,76,77,78,79,95,107,109,122,123,124,125] (fun i => i - k) := kpI
  refine cl [.raw (some 107) ⟨.it (k + 9), k + 10, [(k + 9, some ⟨3, false, iterR (k + 7) a.nt [] a.nt⟩)], [k + 7]⟩] ?_ <;> and_intros <;> first | exact hdT | (apply zM; (repeat intro ht); apply zM; (repeat intro hg); apply zM)
  · exact range_good (l := l) (clock := a.nt) rfl mapTk rfl (by simp -dsimp -implicitDefEqProofs only [go_sem, List.map_append, Flt.row, eq_self, ↓reduceIte]; rfl)
  refine C_block rfl ?_
  refine M_forO (X := List Nat × List Int) rfl [0,1,2,3,4,5,6,7,9,10,11,13,15,16,17,18,19,20,28,30,31,32,33,39,64,65,66,67,76,77,78,79,95,107,109,122,123,124,125] (k + 11) (fun x => []) (fun x => accH (k + 10) 1 (x.2.map nR) [(k + 9, ⟨3, false, iterR (k + 7) a.nt x.1 a.nt⟩), (k + 7, ⟨3, true, mapR l a.nt⟩), (k + 2, ⟨6, true, [[.lit (.slice none 0 0), .lit (.slice none 0 0), .lit (.slice none 0 0), .lit (.slice none 0 0), .lit (.slice none 0 0), .lit (.slice none 0 0)]]⟩), (k + 1, ⟨7, true, [b.cells]⟩), (k, ⟨7, true, [a.cells]⟩), (k + 3, ⟨6, false, [[.rd 2 n0 f0, .rd 2 n1 f1, .rd 2 n2 f2, accV (k + 10) (x.2.map nR), .rd 8 n4 f4, .lit (.slice none 0 0)]]⟩)]) (fun x => Found l x) (fun x => (toCome l x.1).length) ([], []) ?_ found_zero ?_
  · rw [List.map_nil]
    refine rR ?_ <;> first | exact hdT | apply zN
    exact wkF
  rintro ⟨seen, acc⟩ hF
  have hal := found_len hF
  refine rR ?_ <;> first | exact hdT | apply zN
  refine C_seq rfl ?_
  refine C_next rfl rfl rfl (next_good (mid := k + 7) (it := k + 9) (since := a.nt) (c0 := a.nt) (clock := a.nt) (q := .i64) (l := l) (seen := seen) rfl rfl (by first | (simp -dsimp -implicitDefEqProofs only [go_sem, List.map_append, Flt.row, eq_self, ↓reduceIte]; done) | (simp -dsimp -implicitDefEqProofs only [go_sem, List.map_append, Flt.row, eq_self, ↓reduceIte]; rfl)) (by first | (simp -dsimp -implicitDefEqProofs only [go_sem, List.map_append, Flt.row, eq_self, ↓reduceIte]; done) | (simp -dsimp -implicitDefEqProofs only [go_sem, List.map_append, Flt.row, eq_self, ↓reduceIte]; rfl)) hold (Nat.le_refl _)) ?_
  rintro out (⟨hnil, rfl⟩ | ⟨e, he, rfl⟩)
  · refine ⟨false, _, rfl, ?_⟩
    refine rR ?_ <;> first | exact hdT | apply zN
    refine wl ?_ <;> and_intros <;> first | exact hdT | (apply zM; (repeat intro ht); apply zM; (repeat intro hg); apply zM)
    have hpg : (gone a b).Perm acc := by rw [← hgo]; exact found_end hF hnil
    have eA : accV (k + 10) (acc.map nR) = accV (k + 10) ((gone a b).map nR) := accV_len hpg.length_eq.symm
    obtain ⟨n3, f3, e3⟩ : ∃ n f, rows 1 ((gone a b).map nR) = .rd 1 n f := ⟨_, _, rfl⟩
    rw [e3] at hR
    refine W_mv (Mv.wk (k1 := k + 11) (fr1 := [(10, .ptr (k + 3) 0 0), (5, .lit (.int .i64 0)), (4, .ptr (k + 2) 0 0), (3, .ptr (k + 1) 0 0), (2, .ptr k 0 0)]) (H1 := (k + 2, ⟨6, true, [[.lit (.slice none 0 0), .lit (.slice none 0 0), .lit (.slice none 0 0), .lit (.slice none 0 0), .lit (.slice none 0 0), .lit (.slice none 0 0)]]⟩) :: (k + 1, ⟨7, true, [b.cells]⟩) :: (k, ⟨7, true, [a.cells]⟩) :: (k + 3, ⟨6, false, [[.rd 2 n0 f0, .rd 2 n1 f1, .rd 2 n2 f2, accV (k + 10) (acc.map nR), .rd 8 n4 f4, .lit (.slice none 0 0)]]⟩) :: accH (k + 10) 1 (acc.map nR) []) (wk_low (by omega) (by simp -dsimp -implicitDefEqProofs only [go_sem, List.map_append, Flt.row, eq_self, ↓reduceIte]) (by simp -dsimp -implicitDefEqProofs only [go_sem, List.map_append, Flt.row, eq_self, ↓reduceIte]) (by simp -dsimp -implicitDefEqProofs only [go_sem, List.map_append, Flt.row, eq_self, ↓reduceIte]) (by simp -dsimp -implicitDefEqProofs only [go_sem, List.map_append, Flt.row, eq_self, ↓reduceIte]))) ?_
    refine cl [.far (.tup []) (k + 11) [(k + 2, ⟨6, true, [[.lit (.slice none 0 0), .lit (.slice none 0 0), .lit (.slice none 0 0), .lit (.slice none 0 0), .lit (.slice none 0 0), .lit (.slice none 0 0)]]⟩), (k + 1, ⟨7, true, [b.cells]⟩), (k, ⟨7, true, [a.cells]⟩), (k + 3, ⟨6, false, [[.rd 2 n0 f0, .rd 2 n1 f1, .rd 2 n2 f2, accV (k + 10) (acc.map nR), .rd 8 n4 f4, .lit (.slice none 0 0)]]⟩)] (accH (k + 10) 1 (acc.map nR) []) (accH (k + 10) 1 ((gone a b).map nR) [])] ?_ <;> and_intros <;> first | exact hdT | (apply zM; (repeat intro ht); apply zM; (repeat intro hg); apply zM)
    · exact fun _ => rfl
    · exact apart3 (by simp only [AM.look]; repeat (rw [if_neg (by omega)]))
    · exact sortInt (k + 11) (k + 10) acc (gone a b) hpg (gone_sorted ha.st) (by omega)
    rw [eA]
    refine W_mv (Mv.frz_row (id := k + 10) (s := 1) (D := k + 3) (sz := 6) (l := (gone a b).map nR) (row := [.rd 2 n0 f0, .rd 2 n1 f1, .rd 2 n2 f2, accV (k + 10) ((gone a b).map nR), .rd 8 n4 f4, .lit (.slice none 0 0)]) 3 (.rd 1 n3 f3) [(10, .ptr (k + 3) 0 0), (5, .lit (.int .i64 0)), (4, .ptr (k + 2) 0 0), (3, .ptr (k + 1) 0 0), (2, .ptr k 0 0)] [(k + 2, ⟨6, true, [[.lit (.slice none 0 0), .lit (.slice none 0 0), .lit (.slice none 0 0), .lit (.slice none 0 0), .lit (.slice none 0 0), .lit (.slice none 0 0)]]⟩), (k + 1, ⟨7, true, [b.cells]⟩), (k, ⟨7, true, [a.cells]⟩)] (by omega) (by simp -dsimp -implicitDefEqProofs only [go_sem, List.map_append, Flt.row, eq_self, ↓reduceIte]) rfl (by simp -dsimp -implicitDefEqProofs only [go_sem, List.map_append, Flt.row, eq_self, ↓reduceIte]) (by rw [e3]; exact VLe.refl _) (by simp -dsimp -implicitDefEqProofs only [go_sem, List.map_append, Flt.row, eq_self, ↓reduceIte]) (by simp -dsimp -implicitDefEqProofs only [go_sem, List.map_append, Flt.row, eq_self, ↓reduceIte]) (by simp -dsimp -implicitDefEqProofs only [go_sem, List.map_append, Flt.row, eq_self, ↓reduceIte])) ?_
    refine W_mv (Mv.wk (k1 := k + 11) (fr1 := [(10, .ptr (k + 3) 0 0), (5, .lit (.int .i64 0)), (4, .ptr (k + 2) 0 0), (3, .ptr (k + 1) 0 0), (2, .ptr k 0 0)]) (H1 := [(k + 2, ⟨6, true, [[.lit (.slice none 0 0), .lit (.slice none 0 0), .lit (.slice none 0 0), .lit (.slice none 0 0), .lit (.slice none 0 0), .lit (.slice none 0 0)]]⟩), (k + 1, ⟨7, true, [b.cells]⟩), (k, ⟨7, true, [a.cells]⟩), (k + 3, ⟨6, false, [[.rd 2 n0 f0, .rd 2 n1 f1, .rd 2 n2 f2, .rd 1 n3 f3, .rd 8 n4 f4, .lit (.slice none 0 0)]]⟩)]) (wk_low (by omega) (by simp -dsimp -implicitDefEqProofs only [go_sem, List.map_append, Flt.row, eq_self, ↓reduceIte]) (by simp -dsimp -implicitDefEqProofs only [go_sem, List.map_append, Flt.row, eq_self, ↓reduceIte]) (by simp -dsimp -implicitDefEqProofs only [go_sem, List.map_append, Flt.row, eq_self, ↓reduceIte]) (by simp -dsimp -implicitDefEqProofs only [go_sem, List.map_append, Flt.row, eq_self, ↓reduceIte]))) ?_
    exact between4 a b hns gns hnk hsp hsp' k R n0 n1 n2 n3 n4 f0 f1 f2 f3 f4 hR
  · refine ⟨true, _, rfl, ?_⟩
    refine rR ?_ <;> first | exact hdT | apply zN
    refine wl ?_ <;> and_intros <;> first | exact hdT | (apply zM; (repeat intro ht); apply zM; (repeat intro hg); apply zM)
    obtain ⟨q, eq⟩ : ∃ q, q = e.1 := ⟨_, rfl⟩
    obtain ⟨v, ev⟩ : ∃ v, v = e.2.1 := ⟨_, rfl⟩
    obtain ⟨T, eT⟩ : ∃ T, T = acc.map nR := ⟨_, rfl⟩
    have hTl : T.length ≤ 1000 := by rw [eT, List.length_map]; omega
    rw [← eT]
    refine cl [.raw (some 110) ⟨.tup [.lit (.int .i64 q), .lit v], k + 11, [], [k + 9, k + 7]⟩] ?_ <;> and_intros <;> first | exact hdT | (apply zM; (repeat intro ht); apply zM; (repeat intro hg); apply zM)
    · rw [eq, ev]
      exact entry_good (l := l) (seen := seen) (e := e) (since := a.nt) (clock := a.nt) rfl rfl (by first | (simp -dsimp -implicitDefEqProofs only [go_sem, List.map_append, Flt.row, eq_self, ↓reduceIte]; done) | (simp -dsimp -implicitDefEqProofs only [go_sem, List.map_append, Flt.row, eq_self, ↓reduceIte]; rfl)) (by first | (simp -dsimp -implicitDefEqProofs only [go_sem, List.map_append, Flt.row, eq_self, ↓reduceIte]; done) | (simp -dsimp -implicitDefEqProofs only [go_sem, List.map_append, Flt.row, eq_self, ↓reduceIte]; rfl)) (List.mem_filter.1 he).1 hst
    refine wl ?_ <;> and_intros <;> first | exact hdT | (apply zM; (repeat intro ht); apply zM; (repeat intro hg); apply zM)
    refine ⟨(seen ++ [e.2.2], acc ++ [e.1]), found_succ hst hF he, come_len hst he, ?_⟩
    rw [List.map_append, ← eT, List.map_cons, List.map_nil, ← eq]
    refine rR ?_ <;> first | exact hdT | apply zN
    exact Mv.app (k + 12) (k + 10) ⟨by omega, by omega⟩ ⟨by omega, by omega⟩ (wk_low (by omega) (by simp -dsimp -implicitDefEqProofs only [go_sem, List.map_append, Flt.row, eq_self, ↓reduceIte]) (by simp -dsimp -implicitDefEqProofs only [go_sem, List.map_append, Flt.row, eq_self, ↓reduceIte]) (by simp -dsimp -implicitDefEqProofs only [go_sem, List.map_append, Flt.row, eq_self, ↓reduceIte]) (by simp -dsimp -implicitDefEqProofs only [go_sem, List.map_append, Flt.row, eq_self, ↓reduceIte]))
end Go.Proofs.T
end
section
namespace Go.Proofs.T
open Go Go.AM Go.Proofs
set_option maxRecDepth 20000
variable {Γ : List (Nat × List AVal)}
theorem tkNe_b (x y : Tk) : tkNe x y = !(x.id == y.id && (x.group == y.group && (x.weight == y.weight && (x.cpu == y.cpu && (x.mask == y.mask && (x.ready == y.ready && (x.v == y.v && x.r == y.r))))))) := by
  simp only [tkNe, decide_not, Bool.decide_and]; rfl
theorem newTk_ne {a b : St} {i j : Nat} (hf : fndT a (b.tsk i).id = some j) (h : tkNe (a.tsk j) (b.tsk i) = true) : newTk a b i = [b.tsk i] := by rw [newTk, newB, hf]; simp only [h]; rfl
theorem newTk_eq {a b : St} {i j : Nat} (hf : fndT a (b.tsk i).id = some j) (h : tkNe (a.tsk j) (b.tsk i) = false) : newTk a b i = [] := by rw [newTk, newB, hf]; simp only [h]; rfl
theorem look_no {o : Oper} {ev : Operand → Option AVal} {get : Nat → Option Blk} {k id : Nat} {a b : St} {i : Nat} {v : AVal} (hf : fndT a (b.tsk i).id = none) (h : AM.Good Tryz.prog Γ o ev get k ⟨.tup [v, .lit (.bool (fndT a (b.tsk i).id).isSome)], k, [], [id]⟩) : AM.Good Tryz.prog Γ o ev get k ⟨.tup [v, .lit (.bool false)], k, [], [id]⟩ := by
  rw [hf] at h; exact h
theorem look_yes {o : Oper} {ev : Operand → Option AVal} {get : Nat → Option Blk} {k id : Nat} {a b : St} {i j : Nat} {v : AVal} (hf : fndT a (b.tsk i).id = some j) (h : AM.Good Tryz.prog Γ o ev get k ⟨.tup [v, .lit (.bool (fndT a (b.tsk i).id).isSome)], k, [], [id]⟩) : AM.Good Tryz.prog Γ o ev get k ⟨.tup [v, .lit (.bool true)], k, [], [id]⟩ := by
  rw [hf] at h; exact h
attribute [local irreducible] putO del
attribute [local go_sem] tR
set_option maxHeartbeats 4000000 in
theorem between2 (a b : St) (ha : IdOk a) (hb : IdOk b) (hnt : a.nt ≤ 1000) (hnt' : b.nt ≤ 1000) (hns : a.ns ≤ 12) (gns : b.ns = a.ns) (hnk : a.nk ≤ 12) (hsp : ∀ g, g < a.ns → a.nsp g = a.nk) (hsp' : ∀ g, g < a.ns → b.nsp g = a.nk) (k : Nat) (R : List AVal) (n0 n1 n2 : Nat) (f0 f1 f2 : Nat → List AVal)
    (hR : R = [.rd 2 n0 f0, .rd 2 n1 f1, .rd 2 n2 f2, rows 1 ((gone a b).map nR), rows 8 ((flx (newTk a b) b.nt).map tR), rows 5 ((flx (fun g => flx (difS a b g) a.nk) a.ns).map pR)]) :
    W Tryz.prog Γ 139 k (cat (bodyOf Tryz.f21) [1, 1, 1, 1, 1, 1, 1, 1]) (retQ Tryz.prog Tryz.f21 fun _ r1 _ => VLe r1 (.tup [.agg R, .lit (.int .i64 0)])) (k + 7) [(10, .ptr (k + 3) 0 0), (5, .lit (.int .i64 0)), (4, .ptr (k + 2) 0 0), (3, .ptr (k + 1) 0 0), (2, .ptr k 0 0)] [(k + 2, ⟨6, true, [[.lit (.slice none 0 0), .lit (.slice none 0 0), .lit (.slice none 0 0), .lit (.slice none 0 0), .lit (.slice none 0 0), .lit (.slice none 0 0)]]⟩), (k + 1, ⟨7, true, [b.cells]⟩), (k, ⟨7, true, [a.cells]⟩), (k + 3, ⟨6, false, [[.rd 2 n0 f0, .rd 2 n1 f1, .rd 2 n2 f2, .lit (.slice none 0 0), .lit (.slice none 0 0), .lit (.slice none 0 0)]]⟩)] := by
  have kp : Kp [0,1,2,3,4,5,6,7,9,10,11,13,15,16,17,18,19,20,28,30,31,32,33,39,64,65,66,67,76,77,78,79,95,107,109,122,123,124,125] (fun i => i - k) := kpI
  refine wl ?_ <;> and_intros <;> first | exact hdT | (apply zM; (repeat intro ht); apply zM; (repeat intro hg); apply zM)
  refine cl [.raw (some 62) ⟨.mp (k + 7), k + 8, [(k + 7, some ⟨3, true, mapR (tEnts a 0) 0⟩)], []⟩] ?_ <;> and_intros <;> first | exact hdT | (apply zM; (repeat intro ht); apply zM; (repeat intro hg); apply zM)
  · exact makeM_good .i64 rfl
  refine wl ?_ <;> and_intros <;> first | exact hdT | (apply zM; (repeat intro ht); apply zM; (repeat intro hg); apply zM)
  refine M_forO (X := Nat) rfl [0,1,2,3,4,5,6,7,9,10,11,13,15,16,17,18,19,20,28,30,31,32,33,39,64,65,66,67,76,77,78,79,95,107,109,122,123,124,125] (k + 8) (fun i => [(66, .lit (.int .i64 (i : Int)))]) (fun i => [(k + 7, ⟨3, true, mapR (tEnts a i) i⟩), (k + 2, ⟨6, true, [[.lit (.slice none 0 0), .lit (.slice none 0 0), .lit (.slice none 0 0), .lit (.slice none 0 0), .lit (.slice none 0 0), .lit (.slice none 0 0)]]⟩), (k + 1, ⟨7, true, [b.cells]⟩), (k, ⟨7, true, [a.cells]⟩), (k + 3, ⟨6, false, [[.rd 2 n0 f0, .rd 2 n1 f1, .rd 2 n2 f2, .lit (.slice none 0 0), .lit (.slice none 0 0), .lit (.slice none 0 0)]]⟩)]) (fun i => i ≤ a.nt) (fun i => a.nt - i) 0 ?_ (Nat.zero_le _) ?_
  · refine rR ?_ <;> first | exact hdT | apply zN
    exact wkF
  intro i hi
  refine rR ?_ <;> first | exact hdT | apply zN
  refine wl ?_ <;> and_intros <;> first | exact hdT | (apply zM; (repeat intro ht); apply zM; (repeat intro hg); apply zM)
  · refine cl [.raw none ⟨.junk, k + 9, [(k + 7, some ⟨3, true, mapR (tEnts a (i + 1)) (i + 1)⟩)], [k + 7]⟩] ?_ <;> and_intros <;> first | exact hdT | (apply zM; (repeat intro ht); apply zM; (repeat intro hg); apply zM)
    · exact put_tk ha (by omega) rfl rfl rfl rfl (by simp -dsimp -implicitDefEqProofs only [go_sem, List.map_append, Flt.row, eq_self, ↓reduceIte])
    refine wl ?_ <;> and_intros <;> first | exact hdT | (apply zM; (repeat intro ht); apply zM; (repeat intro hg); apply zM)
    refine ⟨i + 1, by omega, by omega, ?_⟩
    exact wkF
  have hin : i = a.nt := by omega
  subst hin
  rw [← lft_zero (b := b)]
  refine M_forO (X := Nat) rfl [0,1,2,3,4,5,6,7,9,10,11,13,15,16,17,18,19,20,28,30,31,32,33,39,64,65,66,67,76,77,78,79,95,107,109,122,123,124,125] (k + 9) (fun i => [(78, .lit (.int .i64 (i : Int)))]) (fun i => accH (k + 8) 8 ((flx (newTk a b) i).map tR) [(k + 7, ⟨3, true, mapR (lft a b i) a.nt⟩), (k + 2, ⟨6, true, [[.lit (.slice none 0 0), .lit (.slice none 0 0), .lit (.slice none 0 0), .lit (.slice none 0 0), .lit (.slice none 0 0), .lit (.slice none 0 0)]]⟩), (k + 1, ⟨7, true, [b.cells]⟩), (k, ⟨7, true, [a.cells]⟩), (k + 3, ⟨6, false, [[.rd 2 n0 f0, .rd 2 n1 f1, .rd 2 n2 f2, .lit (.slice none 0 0), accV (k + 8) ((flx (newTk a b) i).map tR), .lit (.slice none 0 0)]]⟩)]) (fun i => i ≤ b.nt) (fun i => b.nt - i) 0 ?_ (Nat.zero_le _) ?_
  · rw [flx_zero, List.map_nil]
    refine rR ?_ <;> first | exact hdT | apply zN
    exact wkF
  intro i hi
  have hfl := flx_len (newTk_len a b) i
  obtain ⟨l, el, hl⟩ : ∃ x, x = ((flx (newTk a b) i).map tR) ∧ x.length ≤ i := ⟨_, rfl, by simp; omega⟩
  have es : ((flx (newTk a b) (i + 1)).map tR) = l ++ (newTk a b i).map tR := by rw [flx_succ, List.map_append, ← el]
  rw [← el]
  refine rR ?_ <;> first | exact hdT | apply zN
  refine wl ?_ <;> and_intros <;> first | exact hdT | (apply zM; (repeat intro ht); apply zM; (repeat intro hg); apply zM)
  · obtain ⟨T, eT⟩ : ∃ T, T = tkAt a (b.tsk i).id := ⟨_, rfl⟩
    cases hf : fndT a (b.tsk i).id with
    | none =>
      have hn : newTk a b i = [b.tsk i] := by rw [newTk, newB, hf]; rfl
      refine cl [.raw (some 86) ⟨.tup [.agg (tR T), .lit (.bool false)], k + 10, [], [k + 7]⟩] ?_ <;> and_intros <;> first | exact hdT | (apply zM; (repeat intro ht); apply zM; (repeat intro hg); apply zM)
      · rw [eT]
        refine look_no hf ?_
        exact look_tk (c := a.nt) ha hb (by omega) rfl rfl rfl (by simp -dsimp -implicitDefEqProofs only [go_sem, List.map_append, Flt.row, eq_self, ↓reduceIte])
      refine wl ?_ <;> and_intros <;> first | exact hdT | (apply zM; (repeat intro ht); apply zM; (repeat intro hg); apply zM)
      refine cl [.raw none ⟨.lit (.tuple #[]), k + 13, [(k + 7, some ⟨3, true, mapR (lft a b (i + 1)) a.nt⟩)], [k + 7]⟩] ?_ <;> and_intros <;> first | exact hdT | (apply zM; (repeat intro ht); apply zM; (repeat intro hg); apply zM)
      · exact del_tk (c := a.nt) ha hb (by omega) rfl rfl rfl (by simp -dsimp -implicitDefEqProofs only [go_sem, List.map_append, Flt.row, eq_self, ↓reduceIte])
      refine wl ?_ <;> and_intros <;> first | exact hdT | (apply zM; (repeat intro ht); apply zM; (repeat intro hg); apply zM)
      refine ⟨i + 1, by omega, by omega, ?_⟩
      rw [es, hn, List.map_cons, List.map_nil]
      refine rR ?_ <;> first | exact hdT | apply zN
      exact Mv.app (k + 12) (k + 8) ⟨by omega, by omega⟩ ⟨by omega, by omega⟩ (wk_low (by omega) (by simp -dsimp -implicitDefEqProofs only [go_sem, List.map_append, Flt.row, eq_self, ↓reduceIte]) (by simp -dsimp -implicitDefEqProofs only [go_sem, List.map_append, Flt.row, eq_self, ↓reduceIte]) (by simp -dsimp -implicitDefEqProofs only [go_sem, List.map_append, Flt.row, eq_self, ↓reduceIte]) (by simp -dsimp -implicitDefEqProofs only [go_sem, List.map_append, Flt.row, eq_self, ↓reduceIte]))
    | some j =>
      obtain ⟨hj, hid⟩ := f0_spec hf
      have eT2 : T = a.tsk j := by rw [eT, tkAt, hf]
      refine cl [.raw (some 86) ⟨.tup [.agg (tR T), .lit (.bool true)], k + 10, [], [k + 7]⟩] ?_ <;> and_intros <;> first | exact hdT | (apply zM; (repeat intro ht); apply zM; (repeat intro hg); apply zM)
      · rw [eT]
        refine look_yes hf ?_
        exact look_tk (c := a.nt) ha hb (by omega) rfl rfl rfl (by simp -dsimp -implicitDefEqProofs only [go_sem, List.map_append, Flt.row, eq_self, ↓reduceIte])
      refine wl ?_ <;> and_intros <;> first | exact hdT | (apply zM; (repeat intro ht); apply zM; (repeat intro hg); apply zM)
      · have hn : newTk a b i = [b.tsk i] := newTk_ne hf (by rw [tkNe_b, ← eT2, ht]; rfl)
        refine cl [.raw none ⟨.lit (.tuple #[]), k + 13, [(k + 7, some ⟨3, true, mapR (lft a b (i + 1)) a.nt⟩)], [k + 7]⟩] ?_ <;> and_intros <;> first | exact hdT | (apply zM; (repeat intro ht); apply zM; (repeat intro hg); apply zM)
        · exact del_tk (c := a.nt) ha hb (by omega) rfl rfl rfl (by simp -dsimp -implicitDefEqProofs only [go_sem, List.map_append, Flt.row, eq_self, ↓reduceIte])
        refine wl ?_ <;> and_intros <;> first | exact hdT | (apply zM; (repeat intro ht); apply zM; (repeat intro hg); apply zM)
        refine ⟨i + 1, by omega, by omega, ?_⟩
        rw [es, hn, List.map_cons, List.map_nil]
        refine rR ?_ <;> first | exact hdT | apply zN
        exact Mv.app (k + 12) (k + 8) ⟨by omega, by omega⟩ ⟨by omega, by omega⟩ (wk_low (by omega) (by simp -dsimp -implicitDefEqProofs only [go_sem, List.map_append, Flt.row, eq_self, ↓reduceIte]) (by simp -dsimp -implicitDefEqProofs only [go_sem, List.map_append, Flt.row, eq_self, ↓reduceIte]) (by simp -dsimp -implicitDefEqProofs only [go_sem, List.map_append, Flt.row, eq_self, ↓reduceIte]) (by simp -dsimp -implicitDefEqProofs only [go_sem, List.map_append, Flt.row, eq_self, ↓reduceIte]))
      · have hn : newTk a b i = [] := newTk_eq hf (by rw [tkNe_b, ← eT2, ht]; rfl)
        refine cl [.raw none ⟨.lit (.tuple #[]), k + 11, [(k + 7, some ⟨3, true, mapR (lft a b (i + 1)) a.nt⟩)], [k + 7]⟩] ?_ <;> and_intros <;> first | exact hdT | (apply zM; (repeat intro ht); apply zM; (repeat intro hg); apply zM)
        · exact del_tk (c := a.nt) ha hb (by omega) rfl rfl rfl (by simp -dsimp -implicitDefEqProofs only [go_sem, List.map_append, Flt.row, eq_self, ↓reduceIte])
        refine wl ?_ <;> and_intros <;> first | exact hdT | (apply zM; (repeat intro ht); apply zM; (repeat intro hg); apply zM)
        refine ⟨i + 1, by omega, by omega, ?_⟩
        rw [es, hn, List.map_nil, List.append_nil]
        refine rR ?_ <;> first | exact hdT | apply zN
        exact wkF
  have hin : i = b.nt := by omega
  subst hin
  rw [el]
  obtain ⟨n4, f4, e4⟩ : ∃ n f, rows 8 ((flx (newTk a b) b.nt).map tR) = .rd 8 n f := ⟨_, _, rfl⟩
  rw [e4] at hR
  refine W_mv (Mv.frz_row (id := k + 8) (s := 8) (D := k + 3) (sz := 6) (l := ((flx (newTk a b) b.nt).map tR)) (row := [.rd 2 n0 f0, .rd 2 n1 f1, .rd 2 n2 f2, .lit (.slice none 0 0), accV (k + 8) ((flx (newTk a b) b.nt).map tR), .lit (.slice none 0 0)]) 4 (.rd 8 n4 f4) [(11, .mp (k + 7)), (10, .ptr (k + 3) 0 0), (5, .lit (.int .i64 0)), (4, .ptr (k + 2) 0 0), (3, .ptr (k + 1) 0 0), (2, .ptr k 0 0)] [(k + 7, ⟨3, true, mapR (lft a b b.nt) a.nt⟩), (k + 2, ⟨6, true, [[.lit (.slice none 0 0), .lit (.slice none 0 0), .lit (.slice none 0 0), .lit (.slice none 0 0), .lit (.slice none 0 0), .lit (.slice none 0 0)]]⟩), (k + 1, ⟨7, true, [b.cells]⟩), (k, ⟨7, true, [a.cells]⟩)] (by omega) (by simp -dsimp -implicitDefEqProofs only [go_sem, List.map_append, Flt.row, eq_self, ↓reduceIte]) rfl (by simp -dsimp -implicitDefEqProofs only [go_sem, List.map_append, Flt.row, eq_self, ↓reduceIte]) (by rw [e4]; exact VLe.refl _) (by simp -dsimp -implicitDefEqProofs only [go_sem, List.map_append, Flt.row, eq_self, ↓reduceIte]) (by simp -dsimp -implicitDefEqProofs only [go_sem, List.map_append, Flt.row, eq_self, ↓reduceIte]) (by simp -dsimp -implicitDefEqProofs only [go_sem, List.map_append, Flt.row, eq_self, ↓reduceIte])) ?_
  refine W_mv (Mv.wk (k1 := k + 9) (fr1 := [(11, .mp (k + 7)), (10, .ptr (k + 3) 0 0), (5, .lit (.int .i64 0)), (4, .ptr (k + 2) 0 0), (3, .ptr (k + 1) 0 0), (2, .ptr k 0 0)]) (H1 := [(k + 7, ⟨3, true, mapR (lft a b b.nt) a.nt⟩), (k + 2, ⟨6, true, [[.lit (.slice none 0 0), .lit (.slice none 0 0), .lit (.slice none 0 0), .lit (.slice none 0 0), .lit (.slice none 0 0), .lit (.slice none 0 0)]]⟩), (k + 1, ⟨7, true, [b.cells]⟩), (k, ⟨7, true, [a.cells]⟩), (k + 3, ⟨6, false, [[.rd 2 n0 f0, .rd 2 n1 f1, .rd 2 n2 f2, .lit (.slice none 0 0), .rd 8 n4 f4, .lit (.slice none 0 0)]]⟩)]) (wk_low (by omega) (by simp -dsimp -implicitDefEqProofs only [go_sem, List.map_append, Flt.row, eq_self, ↓reduceIte]) (by simp -dsimp -implicitDefEqProofs only [go_sem, List.map_append, Flt.row, eq_self, ↓reduceIte]) (by simp -dsimp -implicitDefEqProofs only [go_sem, List.map_append, Flt.row, eq_self, ↓reduceIte]) (by simp -dsimp -implicitDefEqProofs only [go_sem, List.map_append, Flt.row, eq_self, ↓reduceIte]))) ?_
  exact between3 a b ha hb hnt hns gns hnk hsp hsp' k R n0 n1 n2 n4 f0 f1 f2 f4 hR
end Go.Proofs.T
end
