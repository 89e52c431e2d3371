import Derived.Test.YteimiejbhhgljaaGreatDoorZAM
import Derived.Shelf.Strconv.Itoa3
import Derived.Shelf.Strconv.AtoiAll
import Derived.Shelf.Strings.Split
import Derived.Shelf.Strings.Cut
import Derived.Shelf.Strings.Search3
import Derived.Shelf.Pu.ParseUintPublic10
import Derived.Test.YteimiejbhhgljaaGreatDoorProg
import Derived.Lib.Walk
import Derived.Lib.ItoaMem
import Derived.WalkKit
import Derived.BigCall
import Derived.BigGuard
import Derived.KernelRfl
import Derived.Lib.ItoaNum
import Derived.Lib.AtoiAll
import Derived.Lib.Split
import Derived.Lib.ParseIntB
set_option linter.unusedVariables false
set_option linter.unusedSimpArgs false
section
namespace Go.Proofs.T
open Go Go.AM Go.Proofs
set_option maxRecDepth 20000
variable {Γ : List (Nat × List AVal)}
attribute [local irreducible] putO del
attribute [local go_sem] tR nR
theorem goneL_fnd (a b : St) (i : Nat) : goneL a b i = if1 (!(fnd b.tsk b.nt (a.tsk i).id).isSome) (a.tsk i).id := by rw [fnd_any]; rfl
theorem goneL_len (a b : St) (i : Nat) : (goneL a b i).length ≤ 1 := if1_len _ _
set_option maxHeartbeats 4000000 in
theorem rb3 (a b : St) (hnt : a.nt ≤ 1000) (hnt' : b.nt ≤ 1000) (k : Nat) (Q : AQ) (n0 n1 n2 n3 n5 : Nat) (f0 f1 f2 f3 f5 : Nat → List AVal) (e3 : rows 1 ((flx (goneL a b) a.nt).map nR) = .rd 1 n3 f3)
    (hrest : W Tryz.prog Γ 240 k (cat (bodyOf Tryz.f17) [1, 1, 1, 1, 1, 1, 1, 1]) Q (k + 9) [(8, .ptr (k + 3) 0 0), (5, .lit (.int .i64 0)), (4, .ptr (k + 2) 0 0), (3, .ptr (k + 1) 0 0), (2, .ptr k 0 0)] [(k + 2, ⟨6, true, [[.lit (.slice none 0 0), .lit (.slice none 0 0), .lit (.slice none 0 0), .lit (.slice none 0 0), .lit (.slice none 0 0), .lit (.slice none 0 0)]]⟩), (k + 1, ⟨7, true, [b.cells]⟩), (k, ⟨7, true, [a.cells]⟩), (k + 3, ⟨6, false, [[.rd 2 n0 f0, .rd 2 n1 f1, .rd 2 n2 f2, .rd 1 n3 f3, .lit (.slice none 0 0), .rd 5 n5 f5]]⟩)]) :
    W Tryz.prog Γ 240 k (cat (bodyOf Tryz.f17) [1, 1, 1, 1, 1, 1, 1]) Q (k + 8) [(8, .ptr (k + 3) 0 0), (5, .lit (.int .i64 0)), (4, .ptr (k + 2) 0 0), (3, .ptr (k + 1) 0 0), (2, .ptr k 0 0)] [(k + 2, ⟨6, true, [[.lit (.slice none 0 0), .lit (.slice none 0 0), .lit (.slice none 0 0), .lit (.slice none 0 0), .lit (.slice none 0 0), .lit (.slice none 0 0)]]⟩), (k + 1, ⟨7, true, [b.cells]⟩), (k, ⟨7, true, [a.cells]⟩), (k + 3, ⟨6, false, [[.rd 2 n0 f0, .rd 2 n1 f1, .rd 2 n2 f2, .lit (.slice none 0 0), .lit (.slice none 0 0), .rd 5 n5 f5]]⟩)] := by
  have kp : Kp [0,1,2,3,4,5,6,7,8,9,10,11,12,14,15,16,17,25,36,42,55,78,95,112,131,150,171,187,203,228] (fun i => i - k) := kpI
  refine wl ?_ <;> and_intros <;> first | exact hdT | (apply zM; (repeat intro ht); apply zM; (repeat intro hg); apply zM)
  refine M_forO (X := Nat) rfl [0,1,2,3,4,5,6,7,8,9,10,11,12,14,15,16,17,25,36,42,55,78,95,112,131,150,171,187,203,228] (k + 9) (fun i => [(12, .lit (.int .i64 (i : Int)))]) (fun i => accH (k + 8) 1 ((flx (goneL a b) i).map nR) [(k + 2, ⟨6, true, [[.lit (.slice none 0 0), .lit (.slice none 0 0), .lit (.slice none 0 0), .lit (.slice none 0 0), .lit (.slice none 0 0), .lit (.slice none 0 0)]]⟩), (k + 1, ⟨7, true, [b.cells]⟩), (k, ⟨7, true, [a.cells]⟩), (k + 3, ⟨6, false, [[.rd 2 n0 f0, .rd 2 n1 f1, .rd 2 n2 f2, accV (k + 8) ((flx (goneL a b) i).map nR), .lit (.slice none 0 0), .rd 5 n5 f5]]⟩)]) (fun i => i ≤ a.nt) (fun i => a.nt - i) 0 ?_ (Nat.zero_le _) ?_
  · rw [flx_zero, List.map_nil]
    refine rR ?_ <;> first | exact hdT | apply zN
    exact wkF
  intro i hi
  have hf0 := flx_len (goneL_len a b) i
  obtain ⟨A, eA, hA⟩ : ∃ x, x = ((flx (goneL a b) i).map nR) ∧ x.length ≤ i := ⟨_, rfl, by simp; omega⟩
  obtain ⟨A', eA'⟩ : ∃ x, x = ((flx (goneL a b) (i + 1)).map nR) := ⟨_, rfl⟩
  have sA : A' = A ++ (goneL a b i).map nR := by rw [eA', flx_succ, List.map_append, ← eA]
  rw [← eA]
  refine rR ?_ <;> first | exact hdT | apply zN
  refine C_seq rfl ?_
  refine C_seq rfl ?_; (refine S_reg0 rfl [0,1,2,3,4,5,6,7,8,9,10,11,12,14,15,16,17,25,36,42,55,78,95,112,131,150,171,187,203,228] rfl rfl (fun K hK => ?_)); simp -dsimp -implicitDefEqProofs only [go_sem, eq_self, ↓reduceIte]; (refine hK _ _ _ _ (fun hx => ?_)); clear hx hK; simp -dsimp -implicitDefEqProofs only [go_sem, eq_self, ↓reduceIte]; clear K
  refine C_cond rfl _ rfl (fun ht => ?_) (fun ht => ?_)
  · simp only [nf] at ht
    refine C_skip rfl ?_
    refine rR ?_ <;> first | exact hdT | apply zN
    refine C_seq rfl ?_
    refine C_block rfl ?_
    obtain ⟨T, eT⟩ : ∃ T, T = fndK b.tsk b.nt (a.tsk i).id := ⟨_, rfl⟩
    obtain ⟨z, ez⟩ : ∃ z, z = (fnd b.tsk b.nt (a.tsk i).id).isSome := ⟨_, rfl⟩
    refine wl ?_ <;> and_intros <;> first | exact hdT | (apply zM; (repeat intro ht); apply zM; (repeat intro hg); apply zM)
    refine dl [.ret (.tup [.agg (tR T), .lit (.bool z)])] ?_ <;> and_intros <;> first | exact hdT | (apply zM; (repeat intro ht); apply zM; (repeat intro hg); apply zM)
    · rw [eT, ez]; exact find_r b.nt (by omega) b.tsk (a.tsk i).id
    rcases A with _ | ⟨x0, A⟩
    · refine wl ?_ <;> and_intros <;> first | exact hdT | (apply zM; (repeat intro ht); apply zM; (repeat intro hg); apply zM)
      · have hd : goneL a b i = [(a.tsk i).id] := by rw [goneL_fnd, ← ez]; simp_all [if1]
        refine ⟨i + 1, by omega, by omega, ?_⟩
        rw [← eA']
        rw [sA, hd, List.map_cons, List.map_nil, List.nil_append]
        refine rR ?_ <;> first | exact hdT | apply zN
        exact Mv.app (k + 11) (k + 8) ⟨by omega, by omega⟩ ⟨by omega, by omega⟩ (wk_low (by omega) (by simp -dsimp -implicitDefEqProofs only [go_sem, List.map_append, Flt.row, eq_self, ↓reduceIte]) (by simp -dsimp -implicitDefEqProofs only [go_sem, List.map_append, Flt.row, eq_self, ↓reduceIte]) (by simp -dsimp -implicitDefEqProofs only [go_sem, List.map_append, Flt.row, eq_self, ↓reduceIte]) (by simp -dsimp -implicitDefEqProofs only [go_sem, List.map_append, Flt.row, eq_self, ↓reduceIte]))
      · have hd : goneL a b i = [] := by rw [goneL_fnd, ← ez]; simp_all [if1]
        refine ⟨i + 1, by omega, by omega, ?_⟩
        rw [← eA']
        rw [sA, hd, List.map_nil, List.append_nil]
        refine rR ?_ <;> first | exact hdT | apply zN
        exact wkF
    · have hL : A.length + 1 ≤ i := by simpa using hA
      refine wl ?_ <;> and_intros <;> first | exact hdT | (apply zM; (repeat intro ht); apply zM; (repeat intro hg); apply zM)
      · have hd : goneL a b i = [(a.tsk i).id] := by rw [goneL_fnd, ← ez]; simp_all [if1]
        refine ⟨i + 1, by omega, by omega, ?_⟩
        rw [← eA']
        rw [sA, hd, List.map_cons, List.map_nil, List.cons_append]
        refine rR ?_ <;> first | exact hdT | apply zN
        exact Mv.app (k + 11) (k + 8) ⟨by omega, by omega⟩ ⟨by omega, by omega⟩ (wk_low (by omega) (by simp -dsimp -implicitDefEqProofs only [go_sem, List.map_append, Flt.row, eq_self, ↓reduceIte]) (by simp -dsimp -implicitDefEqProofs only [go_sem, List.map_append, Flt.row, eq_self, ↓reduceIte]) (by simp -dsimp -implicitDefEqProofs only [go_sem, List.map_append, Flt.row, eq_self, ↓reduceIte]) (by simp -dsimp -implicitDefEqProofs only [go_sem, List.map_append, Flt.row, eq_self, ↓reduceIte]))
      · have hd : goneL a b i = [] := by rw [goneL_fnd, ← ez]; simp_all [if1]
        refine ⟨i + 1, by omega, by omega, ?_⟩
        rw [← eA']
        rw [sA, hd, List.map_nil, List.append_nil]
        refine rR ?_ <;> first | exact hdT | apply zN
        exact wkF
  · simp only [nf] at ht
    refine C_exit rfl ?_
    refine rR ?_ <;> first | exact hdT | apply zN
    have hin : i = a.nt := by omega
    subst hin
    clear sA eA'
    refine W_mv (Mv.frz_row (id := k + 8) (s := 1) (D := k + 3) (sz := 6) (l := A) (row := [.rd 2 n0 f0, .rd 2 n1 f1, .rd 2 n2 f2, accV (k + 8) A, .lit (.slice none 0 0), .rd 5 n5 f5]) 3 (.rd 1 n3 f3) [(8, .ptr (k + 3) 0 0), (5, .lit (.int .i64 0)), (4, .ptr (k + 2) 0 0), (3, .ptr (k + 1) 0 0), (2, .ptr k 0 0)] [(k + 2, ⟨6, true, [[.lit (.slice none 0 0), .lit (.slice none 0 0), .lit (.slice none 0 0), .lit (.slice none 0 0), .lit (.slice none 0 0), .lit (.slice none 0 0)]]⟩), (k + 1, ⟨7, true, [b.cells]⟩), (k, ⟨7, true, [a.cells]⟩)] (by omega) (by simp -dsimp -implicitDefEqProofs only [go_sem, List.map_append, Flt.row, eq_self, ↓reduceIte]) rfl (by simp -dsimp -implicitDefEqProofs only [go_sem, List.map_append, Flt.row, eq_self, ↓reduceIte]) (by rw [eA, e3]; exact VLe.refl _) (by simp -dsimp -implicitDefEqProofs only [go_sem, List.map_append, Flt.row, eq_self, ↓reduceIte]) (by simp -dsimp -implicitDefEqProofs only [go_sem, List.map_append, Flt.row, eq_self, ↓reduceIte]) (by simp -dsimp -implicitDefEqProofs only [go_sem, List.map_append, Flt.row, eq_self, ↓reduceIte])) ?_
    refine W_mv (Mv.wk (k1 := k + 9) (fr1 := [(8, .ptr (k + 3) 0 0), (5, .lit (.int .i64 0)), (4, .ptr (k + 2) 0 0), (3, .ptr (k + 1) 0 0), (2, .ptr k 0 0)]) (H1 := [(k + 2, ⟨6, true, [[.lit (.slice none 0 0), .lit (.slice none 0 0), .lit (.slice none 0 0), .lit (.slice none 0 0), .lit (.slice none 0 0), .lit (.slice none 0 0)]]⟩), (k + 1, ⟨7, true, [b.cells]⟩), (k, ⟨7, true, [a.cells]⟩), (k + 3, ⟨6, false, [[.rd 2 n0 f0, .rd 2 n1 f1, .rd 2 n2 f2, .rd 1 n3 f3, .lit (.slice none 0 0), .rd 5 n5 f5]]⟩)]) (wk_low (by omega) (by simp -dsimp -implicitDefEqProofs only [go_sem, List.map_append, Flt.row, eq_self, ↓reduceIte]) (by simp -dsimp -implicitDefEqProofs only [go_sem, List.map_append, Flt.row, eq_self, ↓reduceIte]) (by simp -dsimp -implicitDefEqProofs only [go_sem, List.map_append, Flt.row, eq_self, ↓reduceIte]) (by simp -dsimp -implicitDefEqProofs only [go_sem, List.map_append, Flt.row, eq_self, ↓reduceIte]))) ?_
    exact hrest
theorem newTk_no {a b : St} {i : Nat} (hf : fndT a (b.tsk i).id = none) : newTk a b i = [b.tsk i] := by rw [newTk, newB, hf]; rfl
set_option maxHeartbeats 4000000 in
theorem rb4 (a b : St) (hnt : a.nt ≤ 1000) (hnt' : b.nt ≤ 1000) (k : Nat) (R : List AVal) (n0 n1 n2 n3 n5 : Nat) (f0 f1 f2 f3 f5 : Nat → List AVal)
    (hR : R = [.rd 2 n0 f0, .rd 2 n1 f1, .rd 2 n2 f2, .rd 1 n3 f3, rows 8 ((flx (newTk a b) b.nt).map tR), .rd 5 n5 f5]) :
    W Tryz.prog Γ 240 k (cat (bodyOf Tryz.f17) [1, 1, 1, 1, 1, 1, 1, 1]) (retQ Tryz.prog Tryz.f17 fun _ r1 _ => VLe r1 (.tup [.agg R, .lit (.int .i64 0)])) (k + 9) [(8, .ptr (k + 3) 0 0), (5, .lit (.int .i64 0)), (4, .ptr (k + 2) 0 0), (3, .ptr (k + 1) 0 0), (2, .ptr k 0 0)] [(k + 2, ⟨6, true, [[.lit (.slice none 0 0), .lit (.slice none 0 0), .lit (.slice none 0 0), .lit (.slice none 0 0), .lit (.slice none 0 0), .lit (.slice none 0 0)]]⟩), (k + 1, ⟨7, true, [b.cells]⟩), (k, ⟨7, true, [a.cells]⟩), (k + 3, ⟨6, false, [[.rd 2 n0 f0, .rd 2 n1 f1, .rd 2 n2 f2, .rd 1 n3 f3, .lit (.slice none 0 0), .rd 5 n5 f5]]⟩)] := by
  obtain ⟨n4, f4, e4⟩ : ∃ n f, rows 8 ((flx (newTk a b) b.nt).map tR) = .rd 8 n f := ⟨_, _, rfl⟩
  rw [e4] at hR
  have kp : Kp [0,1,2,3,4,5,6,7,8,9,10,11,12,14,15,16,17,25,36,42,55,78,95,112,131,150,171,187,203,228] (fun i => i - k) := kpI
  refine wl ?_ <;> and_intros <;> first | exact hdT | (apply zM; (repeat intro ht); apply zM; (repeat intro hg); apply zM)
  refine M_forO (X := Nat) rfl [0,1,2,3,4,5,6,7,8,9,10,11,12,14,15,16,17,25,36,42,55,78,95,112,131,150,171,187,203,228] (k + 10) (fun i => [(15, .lit (.int .i64 (i : Int)))]) (fun i => accH (k + 9) 8 ((flx (newTk a b) i).map tR) [(k + 2, ⟨6, true, [[.lit (.slice none 0 0), .lit (.slice none 0 0), .lit (.slice none 0 0), .lit (.slice none 0 0), .lit (.slice none 0 0), .lit (.slice none 0 0)]]⟩), (k + 1, ⟨7, true, [b.cells]⟩), (k, ⟨7, true, [a.cells]⟩), (k + 3, ⟨6, false, [[.rd 2 n0 f0, .rd 2 n1 f1, .rd 2 n2 f2, .rd 1 n3 f3, accV (k + 9) ((flx (newTk a b) i).map tR), .rd 5 n5 f5]]⟩)]) (fun i => i ≤ b.nt) (fun i => b.nt - i) 0 ?_ (Nat.zero_le _) ?_
  · rw [flx_zero, List.map_nil]
    refine rR ?_ <;> first | exact hdT | apply zN
    exact wkF
  intro i hi
  have hf0 := flx_len (newTk_len a b) i
  obtain ⟨A, eA, hA⟩ : ∃ x, x = ((flx (newTk a b) i).map tR) ∧ x.length ≤ i := ⟨_, rfl, by simp; omega⟩
  obtain ⟨A', eA'⟩ : ∃ x, x = ((flx (newTk a b) (i + 1)).map tR) := ⟨_, rfl⟩
  have sA : A' = A ++ (newTk a b i).map tR := by rw [eA', flx_succ, List.map_append, ← eA]
  rw [← eA]
  refine rR ?_ <;> first | exact hdT | apply zN
  refine C_seq rfl ?_
  refine C_seq rfl ?_; (refine S_reg0 rfl [0,1,2,3,4,5,6,7,8,9,10,11,12,14,15,16,17,25,36,42,55,78,95,112,131,150,171,187,203,228] rfl rfl (fun K hK => ?_)); simp -dsimp -implicitDefEqProofs only [go_sem, eq_self, ↓reduceIte]; (refine hK _ _ _ _ (fun hx => ?_)); clear hx hK; simp -dsimp -implicitDefEqProofs only [go_sem, eq_self, ↓reduceIte]; clear K
  refine C_cond rfl _ rfl (fun ht => ?_) (fun ht => ?_)
  · simp only [nf] at ht
    refine C_skip rfl ?_
    refine rR ?_ <;> first | exact hdT | apply zN
    refine C_seq rfl ?_
    refine C_block rfl ?_
    obtain ⟨T, eT⟩ : ∃ T, T = fndK a.tsk a.nt (b.tsk i).id := ⟨_, rfl⟩
    refine wl ?_ <;> and_intros <;> first | exact hdT | (apply zM; (repeat intro ht); apply zM; (repeat intro hg); apply zM)
    cases hf : fndT a (b.tsk i).id with
    | none =>
      refine dl [.ret (.tup [.agg (tR T), .lit (.bool false)])] ?_ <;> and_intros <;> first | exact hdT | (apply zM; (repeat intro ht); apply zM; (repeat intro hg); apply zM)
      · have h := find_r (Γ := Γ) a.nt (by omega) a.tsk (b.tsk i).id
        have hf' : fnd a.tsk a.nt (b.tsk i).id = none := hf
        rw [hf'] at h
        rw [eT]; exact h
      have hd : newTk a b i = [b.tsk i] := newTk_no hf
      rcases A with _ | ⟨x0, A⟩
      · refine wl ?_ <;> and_intros <;> first | exact hdT | (apply zM; (repeat intro ht); apply zM; (repeat intro hg); apply zM)
        refine ⟨i + 1, by omega, by omega, ?_⟩
        rw [← eA', sA, hd, List.map_cons, List.map_nil, List.nil_append]
        refine rR ?_ <;> first | exact hdT | apply zN
        exact Mv.app (k + 12) (k + 9) ⟨by omega, by omega⟩ ⟨by omega, by omega⟩ (wk_low (by omega) (by simp -dsimp -implicitDefEqProofs only [go_sem, List.map_append, Flt.row, eq_self, ↓reduceIte]) (by simp -dsimp -implicitDefEqProofs only [go_sem, List.map_append, Flt.row, eq_self, ↓reduceIte]) (by simp -dsimp -implicitDefEqProofs only [go_sem, List.map_append, Flt.row, eq_self, ↓reduceIte]) (by simp -dsimp -implicitDefEqProofs only [go_sem, List.map_append, Flt.row, eq_self, ↓reduceIte]))
      · have hL : A.length + 1 ≤ i := by simpa using hA
        refine wl ?_ <;> and_intros <;> first | exact hdT | (apply zM; (repeat intro ht); apply zM; (repeat intro hg); apply zM)
        refine ⟨i + 1, by omega, by omega, ?_⟩
        rw [← eA', sA, hd, List.map_cons, List.map_nil, List.cons_append]
        refine rR ?_ <;> first | exact hdT | apply zN
        exact Mv.app (k + 12) (k + 9) ⟨by omega, by omega⟩ ⟨by omega, by omega⟩ (wk_low (by omega) (by simp -dsimp -implicitDefEqProofs only [go_sem, List.map_append, Flt.row, eq_self, ↓reduceIte]) (by simp -dsimp -implicitDefEqProofs only [go_sem, List.map_append, Flt.row, eq_self, ↓reduceIte]) (by simp -dsimp -implicitDefEqProofs only [go_sem, List.map_append, Flt.row, eq_self, ↓reduceIte]) (by simp -dsimp -implicitDefEqProofs only [go_sem, List.map_append, Flt.row, eq_self, ↓reduceIte]))
    | some j =>
      have eT2 : T = a.tsk j := by
        have hf' : fnd a.tsk a.nt (b.tsk i).id = some j := hf
        rw [eT, fndK, hf']
      refine dl [.ret (.tup [.agg (tR T), .lit (.bool true)])] ?_ <;> and_intros <;> first | exact hdT | (apply zM; (repeat intro ht); apply zM; (repeat intro hg); apply zM)
      · have h := find_r (Γ := Γ) a.nt (by omega) a.tsk (b.tsk i).id
        have hf' : fnd a.tsk a.nt (b.tsk i).id = some j := hf
        rw [hf'] at h
        rw [eT]; exact h
      rcases A with _ | ⟨x0, A⟩
      · refine wl ?_ <;> and_intros <;> first | exact hdT | (apply zM; (repeat intro ht); apply zM; (repeat intro hg); apply zM)
        · have hd : newTk a b i = [b.tsk i] := newTk_ne hf (by rw [tkNe_b, ← eT2, ht]; rfl)
          refine ⟨i + 1, by omega, by omega, ?_⟩
          rw [← eA']
          rw [sA, hd, List.map_cons, List.map_nil, List.nil_append]
          refine rR ?_ <;> first | exact hdT | apply zN
          exact Mv.app (k + 12) (k + 9) ⟨by omega, by omega⟩ ⟨by omega, by omega⟩ (wk_low (by omega) (by simp -dsimp -implicitDefEqProofs only [go_sem, List.map_append, Flt.row, eq_self, ↓reduceIte]) (by simp -dsimp -implicitDefEqProofs only [go_sem, List.map_append, Flt.row, eq_self, ↓reduceIte]) (by simp -dsimp -implicitDefEqProofs only [go_sem, List.map_append, Flt.row, eq_self, ↓reduceIte]) (by simp -dsimp -implicitDefEqProofs only [go_sem, List.map_append, Flt.row, eq_self, ↓reduceIte]))
        · have hd : newTk a b i = [] := newTk_eq hf (by rw [tkNe_b, ← eT2, ht]; rfl)
          refine ⟨i + 1, by omega, by omega, ?_⟩
          rw [← eA']
          rw [sA, hd, List.map_nil, List.append_nil]
          refine rR ?_ <;> first | exact hdT | apply zN
          exact wkF
      · have hL : A.length + 1 ≤ i := by simpa using hA
        refine wl ?_ <;> and_intros <;> first | exact hdT | (apply zM; (repeat intro ht); apply zM; (repeat intro hg); apply zM)
        · have hd : newTk a b i = [b.tsk i] := newTk_ne hf (by rw [tkNe_b, ← eT2, ht]; rfl)
          refine ⟨i + 1, by omega, by omega, ?_⟩
          rw [← eA']
          rw [sA, hd, List.map_cons, List.map_nil, List.cons_append]
          refine rR ?_ <;> first | exact hdT | apply zN
          exact Mv.app (k + 12) (k + 9) ⟨by omega, by omega⟩ ⟨by omega, by omega⟩ (wk_low (by omega) (by simp -dsimp -implicitDefEqProofs only [go_sem, List.map_append, Flt.row, eq_self, ↓reduceIte]) (by simp -dsimp -implicitDefEqProofs only [go_sem, List.map_append, Flt.row, eq_self, ↓reduceIte]) (by simp -dsimp -implicitDefEqProofs only [go_sem, List.map_append, Flt.row, eq_self, ↓reduceIte]) (by simp -dsimp -implicitDefEqProofs only [go_sem, List.map_append, Flt.row, eq_self, ↓reduceIte]))
        · have hd : newTk a b i = [] := newTk_eq hf (by rw [tkNe_b, ← eT2, ht]; rfl)
          refine ⟨i + 1, by omega, by omega, ?_⟩
          rw [← eA']
          rw [sA, hd, List.map_nil, List.append_nil]
          refine rR ?_ <;> first | exact hdT | apply zN
          exact wkF
  · simp only [nf] at ht
    refine C_exit rfl ?_
    refine rR ?_ <;> first | exact hdT | apply zN
    have hin : i = b.nt := by omega
    subst hin
    clear sA eA'
    refine W_mv (Mv.frz_row (id := k + 9) (s := 8) (D := k + 3) (sz := 6) (l := A) (row := [.rd 2 n0 f0, .rd 2 n1 f1, .rd 2 n2 f2, .rd 1 n3 f3, accV (k + 9) A, .rd 5 n5 f5]) 4 (.rd 8 n4 f4) [(8, .ptr (k + 3) 0 0), (5, .lit (.int .i64 0)), (4, .ptr (k + 2) 0 0), (3, .ptr (k + 1) 0 0), (2, .ptr k 0 0)] [(k + 2, ⟨6, true, [[.lit (.slice none 0 0), .lit (.slice none 0 0), .lit (.slice none 0 0), .lit (.slice none 0 0), .lit (.slice none 0 0), .lit (.slice none 0 0)]]⟩), (k + 1, ⟨7, true, [b.cells]⟩), (k, ⟨7, true, [a.cells]⟩)] (by omega) (by simp -dsimp -implicitDefEqProofs only [go_sem, List.map_append, Flt.row, eq_self, ↓reduceIte]) rfl (by simp -dsimp -implicitDefEqProofs only [go_sem, List.map_append, Flt.row, eq_self, ↓reduceIte]) (by rw [eA, e4]; exact VLe.refl _) (by simp -dsimp -implicitDefEqProofs only [go_sem, List.map_append, Flt.row, eq_self, ↓reduceIte]) (by simp -dsimp -implicitDefEqProofs only [go_sem, List.map_append, Flt.row, eq_self, ↓reduceIte]) (by simp -dsimp -implicitDefEqProofs only [go_sem, List.map_append, Flt.row, eq_self, ↓reduceIte])) ?_
    refine rR ?_ <;> first | exact hdT | apply zN
    refine wl ?_ <;> and_intros <;> first | exact hdT | (apply zM; (repeat intro ht); apply zM; (repeat intro hg); apply zM)
    have uU := Go.AM.uU; refine cR ?_; apply zN
    rw [hR]
    exact VLe.refl _
end Go.Proofs.T
end
section
namespace Go.Proofs.T
open Go Go.AM Go.Proofs
set_option maxRecDepth 20000
variable {Γ : List (Nat × List AVal)}
attribute [local irreducible] putO del
theorem other_iff {a b : St} (hn : ¬ badP a b) : alB a b a.ng = false ↔ (0 < (stepF2 a b).length ∧ ((stepF2 a b).getD 0 zF).r = 17) := by
  rw [stepF2, if_neg hn]
  constructor
  · intro h; rw [if_pos h]; exact ⟨by simp, rfl⟩
  · rintro ⟨h1, h2⟩
    by_cases h : alB a b a.ng = false
    · exact h
    · rw [if_neg h] at h1 h2
      have hm : (movesL a b).getD 0 zF ∈ movesL a b := by rw [List.getD_eq_getElem?_getD, List.getElem?_eq_getElem h1]; exact List.getElem_mem h1
      rcases moves_rule a b _ hm with e | e <;> omega
theorem difG_wt {a b : St} (h : alB a b a.ng = true) : flx (difG a b) a.ng = flx (difN a.wt b.wt) a.ng := flx_congr fun i hi => by
  simp only [alB, decide_eq_true_eq] at h
  have e := h.2.2.2 i hi
  rw [difG, difN]
  congr 1
  rw [Bool.eq_iff_iff]
  simp only [decide_eq_true_eq, bne_iff_ne, ne_eq]
  omega
theorem bStepR (a b : St) (hq : PreOk a) (hq' : PreOk b) (hk : Kinds a) (hk' : Kinds b) : AM.Pure Tryz.prog Γ 49 [.agg a.cells, .agg b.cells] (.tup [.rd 3 (stepF2 a b).length (fun j => Flt.row ((stepF2 a b).getD j zF)), .lit (.int .i64 (stepE2 a b))]) :=
  Pure_leD (step_ref a b hq hq' hk hk') (VLe.tups (.cons (rows_F _) (.cons (VLe.refl _) .nil)))
set_option maxHeartbeats 4000000 in
theorem rBetween (a b : St) (hq : PreOk a) (hq' : PreOk b) (hk : Kinds a) (hk' : Kinds b) : AM.Pure Tryz.prog Γ 17 [.agg a.cells, .agg b.cells] (.tup [.agg (btw a b).cells, .lit (.int .i64 (btwE a b))]) := by
  obtain ⟨⟨hng, hnk, hnu, hnt, hns, hnsp⟩, h12, hp12⟩ := id hq
  obtain ⟨⟨hng', hnk', hnu', hnt', hns', hnsp'⟩, h12', hp12'⟩ := id hq'
  refine Pure_at Tryz.func17 rfl 240 rfl (Nat.le_of_ble_eq_true rfl) rfl fun k => ?_
  obtain ⟨R, eR⟩ : ∃ R, R = (btw a b).cells := ⟨_, rfl⟩
  obtain ⟨E, eE⟩ : ∃ E, E = btwE a b := ⟨_, rfl⟩
  rw [← eR, ← eE]
  obtain ⟨F, eF⟩ : ∃ F, F = stepF2 a b := ⟨_, rfl⟩
  obtain ⟨S, eS⟩ : ∃ S, S = stepE2 a b := ⟨_, rfl⟩
  have kp : Kp [0,1,2,3,4,5,6,7,8,9,10,11,12,14,15,16,17,25,36,42,55,78,95,112,131,150,171,187,203,228] (fun i => i - k) := kpI
  refine wl ?_ <;> and_intros <;> first | exact hdT | (apply zM; (repeat intro ht); apply zM; (repeat intro hg); apply zM)
  refine cl [.ret (.tup [.rd 3 F.length (fun j => Flt.row (F.getD j zF)), .lit (.int .i64 S)])] ?_ <;> and_intros <;> first | exact hdT | (apply zM; (repeat intro ht); apply zM; (repeat intro hg); apply zM)
  · rw [eF, eS]; exact bStepR a b hq hq' hk hk'
  by_cases hbad : badP a b
  · have hS : S = 320 := by rw [eS, stepE2, if_pos hbad]
    subst hS
    refine wl ?_ <;> and_intros <;> first | exact hdT | (apply zM; (repeat intro ht); apply zM; (repeat intro hg); apply zM)
    have uU := Go.AM.uU; refine cR ?_; apply zN
    obtain ⟨h1, h2⟩ := btw_bad hbad
    rw [eR, eE, h1, h2]
    exact VLe.tups (.cons (VLe.aggs (noDl_le rfl)) (.cons (VLe.refl _) .nil))
  · have hS : S = 0 := by rw [eS, stepE2, if_neg hbad]
    subst hS
    have hoi := other_iff hbad
    rw [← eF] at hoi
    by_cases hal : alB a b a.ng = false
    · obtain ⟨h1, h2⟩ := btw_other hbad hal
      obtain ⟨hFl, hF0⟩ := hoi.1 hal
      have uU := zA @Flt.row.eq_1 @hF0
      refine wl ?_ <;> and_intros <;> first | exact hdT | (apply zM; (repeat intro ht); apply zM; (repeat intro hg); apply zM)
      · have uU := zA @Flt.row.eq_1 @hF0; refine cR ?_; apply zN
        rw [eR, eE, h1, h2]
        exact VLe.tups (.cons (VLe.aggs (noDl_le rfl)) (.cons (VLe.refl _) .nil))
    · have hall : alB a b a.ng = true := by simpa using hal
      obtain ⟨h1, h2⟩ := btw_ok hbad hall
      have hwa : (checkR a).length = 0 := by unfold badP at hbad; omega
      have hwb : (checkR b).length = 0 := by unfold badP at hbad; omega
      obtain ⟨gnk, gns, gnsp⟩ := alike_of hwa hwb hall
      obtain ⟨gu, gu', gg, gsg, gsk⟩ : a.nu = a.nk ∧ b.nu = a.nk ∧ b.ng = a.ng ∧ a.ns = a.ng ∧ ∀ g, g < a.ns → a.nsp g = a.nk := by
        obtain ⟨_, ha⟩ := checkR_nil hwa
        obtain ⟨_, hb⟩ := checkR_nil hwb
        obtain ⟨h1, h2, h3, h4⟩ := shapes_nil ha
        obtain ⟨k1, k2, k3, k4⟩ := shapes_nil hb
        simp only [alB, decide_eq_true_eq] at hall
        obtain ⟨e1, _, e3, _⟩ := hall
        exact ⟨by omega, by omega, by omega, by omega, fun g hg => by have := h4 g hg; omega⟩
      have hno : ¬ (0 < F.length ∧ (F.getD 0 zF).r = 17) := fun h => hal (hoi.2 h)
      have hE : E = 0 := by rw [eE, h2]
      subst hE
      have hg1 : 1 ≤ a.ng := (refCfg_spec (checkR_nil hwa).1).1.2.2.2.1
      have hk12 : a.nk ≤ 12 := by rw [← gsk 0 (by omega)]; exact hp12 0 (by omega)
      obtain ⟨n0, f0, e0⟩ : ∃ n f, rows 2 ((flx (difN a.clk b.clk) a.nk).map vlR) = .rd 2 n f := ⟨_, _, rfl⟩
      obtain ⟨n1, f1, e1⟩ : ∃ n f, rows 2 ((flx (difN a.cur b.cur) a.nk).map vlR) = .rd 2 n f := ⟨_, _, rfl⟩
      obtain ⟨n2, f2, e2⟩ : ∃ n f, rows 2 ((flx (difN a.wt b.wt) a.ns).map vlR) = .rd 2 n f := ⟨_, _, rfl⟩
      obtain ⟨n3, f3, e3⟩ : ∃ n f, rows 1 ((flx (goneL a b) a.nt).map nR) = .rd 1 n f := ⟨_, _, rfl⟩
      obtain ⟨n5, f5, e5⟩ : ∃ n f, rows 5 ((flx (fun g => flx (difS a b g) a.nk) a.ns).map pR) = .rd 5 n f := ⟨_, _, rfl⟩
      have hR : R = [.rd 2 n0 f0, .rd 2 n1 f1, .rd 2 n2 f2, .rd 1 n3 f3, rows 8 ((flx (newTk a b) b.nt).map tR), .rd 5 n5 f5] := by
        rw [eR, h1, ← e0, ← e1, ← e2, ← e3, ← e5, gsg, ← difG_wt hall, ← gsg]
        unfold btw0 Dl.cells gone
        rw [gsg]
      have h4 := rb4 (Γ := Γ) a b hnt hnt' k R n0 n1 n2 n3 n5 f0 f1 f2 f3 f5 hR
      have h3 := rb3 (Γ := Γ) a b hnt hnt' k _ n0 n1 n2 n3 n5 f0 f1 f2 f3 f5 e3 h4
      have h2' := rb2 (Γ := Γ) a b hk12 h12 gns gg gsg gsk (fun g hg => by rw [gnsp g hg, gsk g hg]) k _ n0 n1 n2 n5 f0 f1 f2 f5 e2 e5 h3
      have hl := rb1 (Γ := Γ) a b hnk gnk gu gu' k _ n0 n1 f0 f1 e0 e1 h2'
      clear h4 h3 h2'
      have uU := @Flt.row.eq_1
      refine wl ?_ <;> and_intros <;> first | exact hdT | (apply zM; (repeat intro ht); apply zM; (repeat intro hg); apply zM)
      all_goals (refine W_mv (Mv.wk (k1 := k + 4) (fr1 := [(9, .lit (.int .i64 0)), (8, .ptr (k + 3) 0 0), (5, .lit (.int .i64 0)), (4, .ptr (k + 2) 0 0), (3, .ptr (k + 1) 0 0), (2, .ptr k 0 0)]) (H1 := [(k + 2, ⟨6, true, [[.lit (.slice none 0 0), .lit (.slice none 0 0), .lit (.slice none 0 0), .lit (.slice none 0 0), .lit (.slice none 0 0), .lit (.slice none 0 0)]]⟩), (k + 1, ⟨7, true, [b.cells]⟩), (k, ⟨7, true, [a.cells]⟩), (k + 3, ⟨6, true, [[.lit (.slice none 0 0), .lit (.slice none 0 0), .lit (.slice none 0 0), .lit (.slice none 0 0), .lit (.slice none 0 0), .lit (.slice none 0 0)]]⟩)]) (wk_low (by omega) (by simp -dsimp -implicitDefEqProofs only [go_sem, Flt.row, List.map_append, Flt.row, eq_self, ↓reduceIte]) (by simp -dsimp -implicitDefEqProofs only [go_sem, Flt.row, List.map_append, Flt.row, eq_self, ↓reduceIte]) (by simp -dsimp -implicitDefEqProofs only [go_sem, Flt.row, List.map_append, Flt.row, eq_self, ↓reduceIte]) (by simp -dsimp -implicitDefEqProofs only [go_sem, Flt.row, List.map_append, Flt.row, eq_self, ↓reduceIte]))) ?_; exact hl)
end Go.Proofs.T
end
section
namespace Go.Proofs.T
open Go Go.AM Go.Proofs
set_option maxRecDepth 20000
variable {Γ : List (Nat × List AVal)}
attribute [local irreducible] putO del
set_option maxHeartbeats 4000000 in
theorem between (a b : St) (hq : PreOk a) (hq' : PreOk b) (hk : Kinds a) (hk' : Kinds b) : AM.Pure Tryz.prog Γ 21 [.agg a.cells, .agg b.cells] (.tup [.agg (btw a b).cells, .lit (.int .i64 (btwE a b))]) := by
  obtain ⟨⟨hng, hnk, hnu, hnt, hns, hnsp⟩, h12, hp12⟩ := id hq
  obtain ⟨⟨hng', hnk', hnu', hnt', hns', hnsp'⟩, h12', hp12'⟩ := id hq'
  refine Pure_at Tryz.func21 rfl 139 rfl (Nat.le_of_ble_eq_true rfl) rfl fun k => ?_
  obtain ⟨R, eR⟩ : ∃ R, R = (btw a b).cells := ⟨_, rfl⟩
  obtain ⟨E, eE⟩ : ∃ E, E = btwE a b := ⟨_, rfl⟩
  rw [← eR, ← eE]
  obtain ⟨F, eF⟩ : ∃ F, F = stepF2 a b := ⟨_, rfl⟩
  obtain ⟨S, eS⟩ : ∃ S, S = stepE2 a b := ⟨_, rfl⟩
  have kp : Kp [0,1,2,3,4,5,6,7,9,10,11,13,15,16,17,18,19,20,28,30,31,32,33,39,64,65,66,67,76,77,78,79,95,107,109,122,123,124,125] (fun i => i - k) := kpI
  refine wl ?_ <;> and_intros <;> first | exact hdT | (apply zM; (repeat intro ht); apply zM; (repeat intro hg); apply zM)
  refine cl [.ret (.tup [.rd 3 F.length (fun j => Flt.row (F.getD j zF)), .lit (.int .i64 S)])] ?_ <;> and_intros <;> first | exact hdT | (apply zM; (repeat intro ht); apply zM; (repeat intro hg); apply zM)
  · rw [eF, eS]; exact bStep a b hq hq' hk hk'
  by_cases hbad : badP a b
  · have hS : S = 320 := by rw [eS, stepE2, if_pos hbad]
    subst hS
    refine wl ?_ <;> and_intros <;> first | exact hdT | (apply zM; (repeat intro ht); apply zM; (repeat intro hg); apply zM)
    have uU := Go.AM.uU; refine cR ?_; apply zN
    obtain ⟨h1, h2⟩ := btw_bad hbad
    rw [eR, eE, h1, h2]
    exact VLe.tups (.cons (VLe.aggs (noDl_le rfl)) (.cons (VLe.refl _) .nil))
  · have hS : S = 0 := by rw [eS, stepE2, if_neg hbad]
    subst hS
    by_cases hal : alB a b a.ng = false
    · obtain ⟨h1, h2⟩ := btw_other hbad hal
      have hF : F = [⟨17, 0, 0⟩] := by rw [eF, stepF2, if_neg hbad, if_pos hal]
      have hFl : F.length = 1 := by rw [hF]; rfl
      have hF0 : (F.getD 0 zF).r = 17 := by rw [hF]; rfl
      have uU := @Flt.row.eq_1
      refine wl ?_ <;> and_intros <;> first | exact hdT | (apply zM; (repeat intro ht); apply zM; (repeat intro hg); apply zM)
      refine M_forO (X := Nat) rfl [0,1,2,3,4,5,6,7,9,10,11,13,15,16,17,18,19,20,28,30,31,32,33,39,64,65,66,67,76,77,78,79,95,107,109,122,123,124,125] (k + 3) (fun i => [(32, .lit (.int .i64 (i : Int)))]) (fun i => [(k + 2, ⟨6, true, [[.lit (.slice none 0 0), .lit (.slice none 0 0), .lit (.slice none 0 0), .lit (.slice none 0 0), .lit (.slice none 0 0), .lit (.slice none 0 0)]]⟩), (k + 1, ⟨7, true, [b.cells]⟩), (k, ⟨7, true, [a.cells]⟩)]) (fun i => i = 0) (fun i => 0) 0 ?_ rfl ?_
      · refine rR ?_ <;> first | exact hdT | apply zN
        exact Mv.wk (wk_low (by omega) (by simp -dsimp -implicitDefEqProofs only [go_sem, Flt.row, List.map_append, Flt.row, eq_self, ↓reduceIte]) (by simp -dsimp -implicitDefEqProofs only [go_sem, Flt.row, List.map_append, Flt.row, eq_self, ↓reduceIte]) (by simp -dsimp -implicitDefEqProofs only [go_sem, Flt.row, List.map_append, Flt.row, eq_self, ↓reduceIte]) (by simp -dsimp -implicitDefEqProofs only [go_sem, Flt.row, List.map_append, Flt.row, eq_self, ↓reduceIte]))
      rintro i rfl
      refine rR ?_ <;> first | exact hdT | apply zN
      refine wl ?_ <;> and_intros <;> first | exact hdT | (apply zM; (repeat intro ht); apply zM; (repeat intro hg); apply zM)
      · refine cl [.ret (.lit (.string ⟨#[111, 116, 104, 101, 114]⟩))] ?_ <;> and_intros <;> first | exact hdT | (apply zM; (repeat intro ht); apply zM; (repeat intro hg); apply zM)
        · rw [hF0]; exact nm17
        refine wl ?_ <;> and_intros <;> first | exact hdT | (apply zM; (repeat intro ht); apply zM; (repeat intro hg); apply zM)
        · have uU := @Flt.row.eq_1; refine cR ?_; apply zN
          rw [eR, eE, h1, h2]
          exact VLe.tups (.cons (VLe.aggs (noDl_le rfl)) (.cons (VLe.refl _) .nil))
    · have hall : alB a b a.ng = true := by simpa using hal
      obtain ⟨h1, h2⟩ := btw_ok hbad hall
      have hF : F = movesL a b := by rw [eF, stepF2, if_neg hbad, if_neg (by rw [hall]; simp)]
      have hFr : ∀ f ∈ F, f.r = 15 ∨ f.r = 16 := by rw [hF]; exact moves_rule a b
      have hFl : F.length ≤ 100000 := by rw [eF]; exact stepF2_len a b hq
      have hwa : (checkR a).length = 0 := by unfold badP at hbad; omega
      have hwb : (checkR b).length = 0 := by unfold badP at hbad; omega
      obtain ⟨gnk, gns, gnsp⟩ := alike_of hwa hwb hall
      have gna : a.nu = a.nk ∧ b.nu = a.nk ∧ b.ng = a.ng ∧ a.ns = a.ng ∧ ∀ g, g < a.ns → a.nsp g = a.nk := by
        obtain ⟨_, ha⟩ := checkR_nil hwa
        obtain ⟨_, hb⟩ := checkR_nil hwb
        obtain ⟨h1, h2, h3, h4⟩ := shapes_nil ha
        obtain ⟨k1, k2, k3, k4⟩ := shapes_nil hb
        simp only [alB, decide_eq_true_eq] at hall
        obtain ⟨e1, _, e3, _⟩ := hall
        exact ⟨by omega, by omega, by omega, by omega, fun g hg => by have := h4 g hg; omega⟩
      obtain ⟨gu, gu', gg, gsg, gsk⟩ := gna
      have uU := @Flt.row.eq_1
      refine wl ?_ <;> and_intros <;> first | exact hdT | (apply zM; (repeat intro ht); apply zM; (repeat intro hg); apply zM)
      refine M_forO (X := Nat) rfl [0,1,2,3,4,5,6,7,9,10,11,13,15,16,17,18,19,20,28,30,31,32,33,39,64,65,66,67,76,77,78,79,95,107,109,122,123,124,125] (k + 3) (fun i => [(32, .lit (.int .i64 (i : Int)))]) (fun i => [(k + 2, ⟨6, true, [[.lit (.slice none 0 0), .lit (.slice none 0 0), .lit (.slice none 0 0), .lit (.slice none 0 0), .lit (.slice none 0 0), .lit (.slice none 0 0)]]⟩), (k + 1, ⟨7, true, [b.cells]⟩), (k, ⟨7, true, [a.cells]⟩)]) (fun i => i ≤ F.length) (fun i => F.length - i) 0 ?_ (Nat.zero_le _) ?_
      · refine rR ?_ <;> first | exact hdT | apply zN
        exact Mv.wk (wk_low (by omega) (by simp -dsimp -implicitDefEqProofs only [go_sem, Flt.row, List.map_append, Flt.row, eq_self, ↓reduceIte]) (by simp -dsimp -implicitDefEqProofs only [go_sem, Flt.row, List.map_append, Flt.row, eq_self, ↓reduceIte]) (by simp -dsimp -implicitDefEqProofs only [go_sem, Flt.row, List.map_append, Flt.row, eq_self, ↓reduceIte]) (by simp -dsimp -implicitDefEqProofs only [go_sem, Flt.row, List.map_append, Flt.row, eq_self, ↓reduceIte]))
      intro i hi
      refine rR ?_ <;> first | exact hdT | apply zN
      refine wl ?_ <;> and_intros <;> first | exact hdT | (apply zM; (repeat intro ht); apply zM; (repeat intro hg); apply zM)
      · obtain ⟨s, hs, hnm⟩ := nmAt (Γ := Γ) hFr (i := i) (by omega)
        refine cl [.ret (.lit (.string s))] ?_ <;> and_intros <;> first | exact hdT | (apply zM; (repeat intro ht); apply zM; (repeat intro hg); apply zM)
        refine wl ?_ <;> and_intros <;> first | exact hdT | (apply zM; (repeat intro ht); apply zM; (repeat intro hg); apply zM)
        · rcases hs with rfl | rfl <;> exact absurd ht (by decide +kernel)
        · refine ⟨i + 1, by omega, by omega, ?_⟩
          exact Mv.wk (wk_low (by omega) (by simp -dsimp -implicitDefEqProofs only [go_sem, Flt.row, List.map_append, Flt.row, eq_self, ↓reduceIte]) (by simp -dsimp -implicitDefEqProofs only [go_sem, Flt.row, List.map_append, Flt.row, eq_self, ↓reduceIte]) (by simp -dsimp -implicitDefEqProofs only [go_sem, Flt.row, List.map_append, Flt.row, eq_self, ↓reduceIte]) (by simp -dsimp -implicitDefEqProofs only [go_sem, Flt.row, List.map_append, Flt.row, eq_self, ↓reduceIte]))
      · obtain ⟨L0, e0⟩ : ∃ L, L = flx (difN a.clk b.clk) a.nk := ⟨_, rfl⟩
        obtain ⟨L1, e1⟩ : ∃ L, L = flx (difN a.cur b.cur) a.nu := ⟨_, rfl⟩
        obtain ⟨L2, e2⟩ : ∃ L, L = flx (difG a b) a.ng := ⟨_, rfl⟩
        refine W_mv (Mv.impure (k + 3) (by simp -dsimp -implicitDefEqProofs only [go_sem, Flt.row, eq_self, ↓reduceIte]; rfl)) ?_
        refine W_mv (Mv.wk (k1 := k + 4) (fr1 := [(10, .ptr (k + 3) 0 0), (5, .lit (.int .i64 0)), (4, .ptr (k + 2) 0 0), (3, .ptr (k + 1) 0 0), (2, .ptr k 0 0)]) (H1 := [(k + 2, ⟨6, true, [[.lit (.slice none 0 0), .lit (.slice none 0 0), .lit (.slice none 0 0), .lit (.slice none 0 0), .lit (.slice none 0 0), .lit (.slice none 0 0)]]⟩), (k + 1, ⟨7, true, [b.cells]⟩), (k, ⟨7, true, [a.cells]⟩)] ++ [(k + 3, ⟨6, false, [[.lit (.slice none 0 0), .lit (.slice none 0 0), .lit (.slice none 0 0), .lit (.slice none 0 0), .lit (.slice none 0 0), .lit (.slice none 0 0)]]⟩)]) (wk_low (by omega) (by simp -dsimp -implicitDefEqProofs only [go_sem, Flt.row, List.map_append, Flt.row, eq_self, ↓reduceIte]) (by simp -dsimp -implicitDefEqProofs only [go_sem, Flt.row, List.map_append, Flt.row, eq_self, ↓reduceIte]) (by simp -dsimp -implicitDefEqProofs only [go_sem, Flt.row, List.map_append, Flt.row, eq_self, ↓reduceIte]) (by simp -dsimp -implicitDefEqProofs only [go_sem, Flt.row, List.map_append, Flt.row, eq_self, ↓reduceIte]))) ?_
        refine cl [.far (.tup []) (k + 5) [(k + 2, ⟨6, true, [[.lit (.slice none 0 0), .lit (.slice none 0 0), .lit (.slice none 0 0), .lit (.slice none 0 0), .lit (.slice none 0 0), .lit (.slice none 0 0)]]⟩), (k + 1, ⟨7, true, [b.cells]⟩), (k, ⟨7, true, [a.cells]⟩)] [(k + 3, ⟨6, false, [[.lit (.slice none 0 0), .lit (.slice none 0 0), .lit (.slice none 0 0), .lit (.slice none 0 0), .lit (.slice none 0 0), .lit (.slice none 0 0)]]⟩)] (accH (k + 4) 2 (L0.map vlR) [(k + 3, ⟨6, false, [[accV (k + 4) (L0.map vlR), .lit (.slice none 0 0), .lit (.slice none 0 0), .lit (.slice none 0 0), .lit (.slice none 0 0), .lit (.slice none 0 0)]]⟩)])] ?_ <;> and_intros <;> first | exact hdT | (apply zM; (repeat intro ht); apply zM; (repeat intro hg); apply zM)
        · exact fun _ => rfl
        · exact apart1 (by simp only [AM.look]; repeat (rw [if_neg (by omega)])) (by simp only [AM.look]; repeat (rw [if_neg (by omega)]))
        · exact differ0' (k + 4) (k + 3) (by omega) a.clk b.clk a.nk b.nk gnk hnk _ _ _ _ _ (fun _ => rfl) (fun _ => rfl) (fun _ => rfl) (fun _ => rfl) (fun _ => rfl) L0 e0
        refine W_mv (Mv.frz_row (id := k + 4) (s := 2) (D := k + 3) (sz := 6) (l := L0.map vlR) (row := [accV (k + 4) (L0.map vlR), .lit (.slice none 0 0), .lit (.slice none 0 0), .lit (.slice none 0 0), .lit (.slice none 0 0), .lit (.slice none 0 0)]) 0 (rows 2 (L0.map vlR)) [(10, .ptr (k + 3) 0 0), (5, .lit (.int .i64 0)), (4, .ptr (k + 2) 0 0), (3, .ptr (k + 1) 0 0), (2, .ptr k 0 0)] [(k + 2, ⟨6, true, [[.lit (.slice none 0 0), .lit (.slice none 0 0), .lit (.slice none 0 0), .lit (.slice none 0 0), .lit (.slice none 0 0), .lit (.slice none 0 0)]]⟩), (k + 1, ⟨7, true, [b.cells]⟩), (k, ⟨7, true, [a.cells]⟩)] (by omega) (by simp -dsimp -implicitDefEqProofs only [go_sem, Flt.row, List.map_append, Flt.row, eq_self, ↓reduceIte]) rfl (by simp -dsimp -implicitDefEqProofs only [go_sem, Flt.row, List.map_append, Flt.row, eq_self, ↓reduceIte]) (VLe.refl _) (by simp -dsimp -implicitDefEqProofs only [go_sem, Flt.row, List.map_append, Flt.row, eq_self, ↓reduceIte]) (by simp -dsimp -implicitDefEqProofs only [go_sem, Flt.row, List.map_append, Flt.row, eq_self, ↓reduceIte]) (by simp -dsimp -implicitDefEqProofs only [go_sem, Flt.row, List.map_append, Flt.row, eq_self, ↓reduceIte])) ?_
        refine W_mv (Mv.wk (k1 := k + 5) (fr1 := [(10, .ptr (k + 3) 0 0), (5, .lit (.int .i64 0)), (4, .ptr (k + 2) 0 0), (3, .ptr (k + 1) 0 0), (2, .ptr k 0 0)]) (H1 := [(k + 2, ⟨6, true, [[.lit (.slice none 0 0), .lit (.slice none 0 0), .lit (.slice none 0 0), .lit (.slice none 0 0), .lit (.slice none 0 0), .lit (.slice none 0 0)]]⟩), (k + 1, ⟨7, true, [b.cells]⟩), (k, ⟨7, true, [a.cells]⟩)] ++ [(k + 3, ⟨6, false, [[rows 2 (L0.map vlR), .lit (.slice none 0 0), .lit (.slice none 0 0), .lit (.slice none 0 0), .lit (.slice none 0 0), .lit (.slice none 0 0)]]⟩)]) (wk_low (by omega) (by simp -dsimp -implicitDefEqProofs only [go_sem, Flt.row, List.map_append, Flt.row, eq_self, ↓reduceIte]) (by simp -dsimp -implicitDefEqProofs only [go_sem, Flt.row, List.map_append, Flt.row, eq_self, ↓reduceIte]) (by simp -dsimp -implicitDefEqProofs only [go_sem, Flt.row, List.map_append, Flt.row, eq_self, ↓reduceIte]) (by simp -dsimp -implicitDefEqProofs only [go_sem, Flt.row, List.map_append, Flt.row, eq_self, ↓reduceIte]))) ?_
        refine wl ?_ <;> and_intros <;> first | exact hdT | (apply zM; (repeat intro ht); apply zM; (repeat intro hg); apply zM)
        refine cl [.far (.tup []) (k + 6) [(k + 2, ⟨6, true, [[.lit (.slice none 0 0), .lit (.slice none 0 0), .lit (.slice none 0 0), .lit (.slice none 0 0), .lit (.slice none 0 0), .lit (.slice none 0 0)]]⟩), (k + 1, ⟨7, true, [b.cells]⟩), (k, ⟨7, true, [a.cells]⟩)] [(k + 3, ⟨6, false, [[rows 2 (L0.map vlR), .lit (.slice none 0 0), .lit (.slice none 0 0), .lit (.slice none 0 0), .lit (.slice none 0 0), .lit (.slice none 0 0)]]⟩)] (accH (k + 5) 2 (L1.map vlR) [(k + 3, ⟨6, false, [[rows 2 (L0.map vlR), accV (k + 5) (L1.map vlR), .lit (.slice none 0 0), .lit (.slice none 0 0), .lit (.slice none 0 0), .lit (.slice none 0 0)]]⟩)])] ?_ <;> and_intros <;> first | exact hdT | (apply zM; (repeat intro ht); apply zM; (repeat intro hg); apply zM)
        · exact fun _ => rfl
        · exact apart1 (by simp only [AM.look]; repeat (rw [if_neg (by omega)])) (by simp only [AM.look]; repeat (rw [if_neg (by omega)]))
        · exact differ1' (k + 5) (k + 3) (by omega) a.cur b.cur a.nu b.nu (by omega) hnu _ _ _ _ _ (fun _ => rfl) (fun _ => rfl) (fun _ => rfl) (fun _ => rfl) (fun _ => rfl) L1 e1
        refine W_mv (Mv.frz_row (id := k + 5) (s := 2) (D := k + 3) (sz := 6) (l := L1.map vlR) (row := [rows 2 (L0.map vlR), accV (k + 5) (L1.map vlR), .lit (.slice none 0 0), .lit (.slice none 0 0), .lit (.slice none 0 0), .lit (.slice none 0 0)]) 1 (rows 2 (L1.map vlR)) [(10, .ptr (k + 3) 0 0), (5, .lit (.int .i64 0)), (4, .ptr (k + 2) 0 0), (3, .ptr (k + 1) 0 0), (2, .ptr k 0 0)] [(k + 2, ⟨6, true, [[.lit (.slice none 0 0), .lit (.slice none 0 0), .lit (.slice none 0 0), .lit (.slice none 0 0), .lit (.slice none 0 0), .lit (.slice none 0 0)]]⟩), (k + 1, ⟨7, true, [b.cells]⟩), (k, ⟨7, true, [a.cells]⟩)] (by omega) (by simp -dsimp -implicitDefEqProofs only [go_sem, Flt.row, List.map_append, Flt.row, eq_self, ↓reduceIte]) rfl (by simp -dsimp -implicitDefEqProofs only [go_sem, Flt.row, List.map_append, Flt.row, eq_self, ↓reduceIte]) (VLe.refl _) (by simp -dsimp -implicitDefEqProofs only [go_sem, Flt.row, List.map_append, Flt.row, eq_self, ↓reduceIte]) (by simp -dsimp -implicitDefEqProofs only [go_sem, Flt.row, List.map_append, Flt.row, eq_self, ↓reduceIte]) (by simp -dsimp -implicitDefEqProofs only [go_sem, Flt.row, List.map_append, Flt.row, eq_self, ↓reduceIte])) ?_
        refine W_mv (Mv.wk (k1 := k + 6) (fr1 := [(10, .ptr (k + 3) 0 0), (5, .lit (.int .i64 0)), (4, .ptr (k + 2) 0 0), (3, .ptr (k + 1) 0 0), (2, .ptr k 0 0)]) (H1 := [(k + 2, ⟨6, true, [[.lit (.slice none 0 0), .lit (.slice none 0 0), .lit (.slice none 0 0), .lit (.slice none 0 0), .lit (.slice none 0 0), .lit (.slice none 0 0)]]⟩), (k + 1, ⟨7, true, [b.cells]⟩), (k, ⟨7, true, [a.cells]⟩)] ++ [(k + 3, ⟨6, false, [[rows 2 (L0.map vlR), rows 2 (L1.map vlR), .lit (.slice none 0 0), .lit (.slice none 0 0), .lit (.slice none 0 0), .lit (.slice none 0 0)]]⟩)]) (wk_low (by omega) (by simp -dsimp -implicitDefEqProofs only [go_sem, Flt.row, List.map_append, Flt.row, eq_self, ↓reduceIte]) (by simp -dsimp -implicitDefEqProofs only [go_sem, Flt.row, List.map_append, Flt.row, eq_self, ↓reduceIte]) (by simp -dsimp -implicitDefEqProofs only [go_sem, Flt.row, List.map_append, Flt.row, eq_self, ↓reduceIte]) (by simp -dsimp -implicitDefEqProofs only [go_sem, Flt.row, List.map_append, Flt.row, eq_self, ↓reduceIte]))) ?_
        refine wl ?_ <;> and_intros <;> first | exact hdT | (apply zM; (repeat intro ht); apply zM; (repeat intro hg); apply zM)
        refine cl [.far (.tup []) (k + 7) [(k + 2, ⟨6, true, [[.lit (.slice none 0 0), .lit (.slice none 0 0), .lit (.slice none 0 0), .lit (.slice none 0 0), .lit (.slice none 0 0), .lit (.slice none 0 0)]]⟩), (k + 1, ⟨7, true, [b.cells]⟩), (k, ⟨7, true, [a.cells]⟩)] [(k + 3, ⟨6, false, [[rows 2 (L0.map vlR), rows 2 (L1.map vlR), .lit (.slice none 0 0), .lit (.slice none 0 0), .lit (.slice none 0 0), .lit (.slice none 0 0)]]⟩)] (accH (k + 6) 2 (L2.map vlR) [(k + 3, ⟨6, false, [[rows 2 (L0.map vlR), rows 2 (L1.map vlR), accV (k + 6) (L2.map vlR), .lit (.slice none 0 0), .lit (.slice none 0 0), .lit (.slice none 0 0)]]⟩)])] ?_ <;> and_intros <;> first | exact hdT | (apply zM; (repeat intro ht); apply zM; (repeat intro hg); apply zM)
        · exact fun _ => rfl
        · exact apart1 (by simp only [AM.look]; repeat (rw [if_neg (by omega)])) (by simp only [AM.look]; repeat (rw [if_neg (by omega)]))
        · exact differ2' (k + 6) (k + 3) (by omega) a b a.ng b.ng (by omega) hng _ _ _ _ _ (fun _ => rfl) (fun _ => rfl) (fun _ => rfl) (fun _ => rfl) (fun _ => rfl) L2 e2
        refine W_mv (Mv.frz_row (id := k + 6) (s := 2) (D := k + 3) (sz := 6) (l := L2.map vlR) (row := [rows 2 (L0.map vlR), rows 2 (L1.map vlR), accV (k + 6) (L2.map vlR), .lit (.slice none 0 0), .lit (.slice none 0 0), .lit (.slice none 0 0)]) 2 (rows 2 (L2.map vlR)) [(10, .ptr (k + 3) 0 0), (5, .lit (.int .i64 0)), (4, .ptr (k + 2) 0 0), (3, .ptr (k + 1) 0 0), (2, .ptr k 0 0)] [(k + 2, ⟨6, true, [[.lit (.slice none 0 0), .lit (.slice none 0 0), .lit (.slice none 0 0), .lit (.slice none 0 0), .lit (.slice none 0 0), .lit (.slice none 0 0)]]⟩), (k + 1, ⟨7, true, [b.cells]⟩), (k, ⟨7, true, [a.cells]⟩)] (by omega) (by simp -dsimp -implicitDefEqProofs only [go_sem, Flt.row, List.map_append, Flt.row, eq_self, ↓reduceIte]) rfl (by simp -dsimp -implicitDefEqProofs only [go_sem, Flt.row, List.map_append, Flt.row, eq_self, ↓reduceIte]) (VLe.refl _) (by simp -dsimp -implicitDefEqProofs only [go_sem, Flt.row, List.map_append, Flt.row, eq_self, ↓reduceIte]) (by simp -dsimp -implicitDefEqProofs only [go_sem, Flt.row, List.map_append, Flt.row, eq_self, ↓reduceIte]) (by simp -dsimp -implicitDefEqProofs only [go_sem, Flt.row, List.map_append, Flt.row, eq_self, ↓reduceIte])) ?_
        refine W_mv (Mv.wk (k1 := k + 7) (fr1 := [(10, .ptr (k + 3) 0 0), (5, .lit (.int .i64 0)), (4, .ptr (k + 2) 0 0), (3, .ptr (k + 1) 0 0), (2, .ptr k 0 0)]) (H1 := [(k + 2, ⟨6, true, [[.lit (.slice none 0 0), .lit (.slice none 0 0), .lit (.slice none 0 0), .lit (.slice none 0 0), .lit (.slice none 0 0), .lit (.slice none 0 0)]]⟩), (k + 1, ⟨7, true, [b.cells]⟩), (k, ⟨7, true, [a.cells]⟩)] ++ [(k + 3, ⟨6, false, [[rows 2 (L0.map vlR), rows 2 (L1.map vlR), rows 2 (L2.map vlR), .lit (.slice none 0 0), .lit (.slice none 0 0), .lit (.slice none 0 0)]]⟩)]) (wk_low (by omega) (by simp -dsimp -implicitDefEqProofs only [go_sem, Flt.row, List.map_append, Flt.row, eq_self, ↓reduceIte]) (by simp -dsimp -implicitDefEqProofs only [go_sem, Flt.row, List.map_append, Flt.row, eq_self, ↓reduceIte]) (by simp -dsimp -implicitDefEqProofs only [go_sem, Flt.row, List.map_append, Flt.row, eq_self, ↓reduceIte]) (by simp -dsimp -implicitDefEqProofs only [go_sem, Flt.row, List.map_append, Flt.row, eq_self, ↓reduceIte]))) ?_
        have ha := idOk_of hwa
        have hb := idOk_of hwb
        have hE : E = 0 := by rw [eE, h2]
        have hg1 : 1 ≤ a.ng := (refCfg_spec (checkR_nil hwa).1).1.2.2.2.1
        subst hE
        refine between2 a b ha hb hnt hnt' h12 gns (by rw [← gsk 0 (by omega)]; exact hp12 0 (by omega)) gsk (fun g hg => by rw [gnsp g hg, gsk g hg]) k R _ _ _ _ _ _ ?_
        rw [eR, h1]
        unfold btw0 Dl.cells
        rw [e0, e1, e2, gu]
        rfl
end Go.Proofs.T
end
section
namespace Go.Proofs.T
open Go Go.AM Go.Proofs
set_option maxRecDepth 20000
variable {Γ : List (Nat × List AVal)}
attribute [local irreducible] putO del
def SmallQ (s : St) : Prop := s.cpus ≤ 10 ∧ s.ng ≤ 10 ∧ s.nt ≤ 40 ∧ s.nk ≤ 20 ∧ s.nu ≤ 20 ∧ s.ns ≤ 12 ∧ ∀ g, g < s.ns → s.nsp g ≤ 12
instance (s : St) : Decidable (SmallQ s) := by unfold SmallQ; infer_instance
theorem smallQ_P {s : St} (h : SmallQ s) : SmallP s := by obtain ⟨h1, h2, h3, h4, h5, h6, h7⟩ := h; exact ⟨h1, h2, by omega, by omega, h3, h6, h7⟩
theorem small35 (s : St) : AM.Pure Tryz.prog Γ 37 [.agg s.cells] (.lit (.bool (decide (SmallQ s)))) := by
  refine Pure_at Tryz.func37 rfl 51 rfl (Nat.le_of_ble_eq_true rfl) rfl fun k => ?_
  have kp : Kp [0,1,2,4,39,41,42,43,44,49] (fun i => i - k) := kpI
  refine wl ?_ <;> and_intros <;> first | exact hdT | (apply zM; (repeat intro ht); apply zM; (repeat intro hg); apply zM)
  any_goals (refine C_ret rfl ⟨_, rfl, VLe.of_eq ?_⟩; rw [decide_eq_false (by rintro ⟨h1, h2, h3, h4, h5, h6, _⟩; omega)])
  refine M_forO (X := Nat) rfl [0,1,2,4,39,41,42,43,44,49] (k + 1) (fun i => [(43, .lit (.int .i64 (i : Int)))]) (fun i => [(k, ⟨7, true, [s.cells]⟩)]) (fun i => i ≤ s.ns ∧ ∀ g, g < i → s.nsp g ≤ 12) (fun i => s.ns - i) 0 ?_ ⟨Nat.zero_le _, fun g hg => absurd hg (Nat.not_lt_zero _)⟩ ?_
  · refine rR ?_ <;> first | exact hdT | apply zN
    exact wkF
  rintro i ⟨hi, hall⟩
  refine rR ?_ <;> first | exact hdT | apply zN
  refine wl ?_ <;> and_intros <;> first | exact hdT | (apply zM; (repeat intro ht); apply zM; (repeat intro hg); apply zM)
  · refine C_ret rfl ⟨_, rfl, VLe.of_eq ?_⟩
    rw [decide_eq_false (by rintro ⟨h1, h2, h3, h4, h5, h6, h7⟩; have := h7 i (by omega); omega)]
  · refine ⟨i + 1, ⟨by omega, fun g hg => ?_⟩, by omega, ?_⟩
    · by_cases he : g = i
      · subst he; omega
      · exact hall g (by omega)
    · refine rR ?_ <;> first | exact hdT | apply zN
      exact wkF
  · refine C_ret rfl ⟨_, rfl, VLe.of_eq ?_⟩
    rw [decide_eq_true (by refine ⟨by omega, by omega, by omega, by omega, by omega, by omega, fun g hg => hall g (by omega)⟩)]
theorem is_d (d e : DE) (hd : d.size ≤ 100000) (he : e.size ≤ 100000) : AM.Pure Tryz.prog Γ 38 [.agg d.cells, .agg e.cells] (.lit (.bool (eqD d e))) := by
  refine Pure_at Tryz.func38 rfl 9 rfl (Nat.le_of_ble_eq_true rfl) rfl fun k => ?_
  obtain ⟨z, ez⟩ : ∃ z, z = eqD d e := ⟨_, rfl⟩
  rw [← ez]
  have kp : Kp [0,1,2,3,4] (fun i => i - k) := kpI
  refine wl ?_ <;> and_intros <;> first | exact hdT | (apply zM; (repeat intro ht); apply zM; (repeat intro hg); apply zM)
  refine dl [.ret (.agg e.cells), .ret (.lit (.bool z))] ?_ <;> and_intros <;> first | exact hdT | (apply zM; (repeat intro ht); apply zM; (repeat intro hg); apply zM)
  · exact turned_d e he
  · rw [ez]; exact equal_d d e hd he
  refine C_ret rfl ⟨_, rfl, VLe.of_eq ?_⟩
  rfl
theorem eqD_self (d : DE) : eqD d d = true := by
  unfold eqD
  rw [eqL_yes rfl (fun i _ => cV_iff.2 rfl), eqL_yes rfl (fun i _ => cV_iff.2 rfl), eqL_yes rfl (fun i _ => cV_iff.2 rfl), eqL_yes rfl (fun i _ => by simp), eqL_yes rfl (fun i _ => cT_iff.2 rfl), eqL_yes rfl (fun i _ => cP_iff.2 rfl)]
  rfl
def dOf (x : Dl) : DE := ⟨x.ck.length, x.cu.length, x.wg.length, x.gn.length, x.tk.length, x.sp.length, fun i => x.ck.getD i (0, 0), fun i => x.cu.getD i (0, 0), fun i => x.wg.getD i (0, 0), fun i => x.gn.getD i 0, fun i => x.tk.getD i zT, fun i => x.sp.getD i (0, 0, ⟨0, 0, 0⟩)⟩
theorem rows_le {α : Type} (s : Nat) (f : α → List AVal) (z : α) (l : List α) : VLe (rows s (l.map f)) (.rd s l.length (fun i => f (l.getD i z))) := by
  rw [rows, List.length_map]
  exact VLe.rd fun i hi => by simp [List.getD_eq_getElem?_getD, hi]
theorem dOf_le (x : Dl) : VLe (.agg x.cells) (.agg (dOf x).cells) :=
  VLe.aggs (.cons (rows_le _ _ _ _) (.cons (rows_le _ _ _ _) (.cons (rows_le _ _ _ _) (.cons (rows_le _ _ _ _) (.cons (rows_le _ _ _ _) (.cons (rows_le _ _ _ _) .nil))))))
theorem btw_size {a b : St} (hq : PreOk a) (hq' : PreOk b) (hnk : a.nk ≤ 1000) : (dOf (btw a b)).size ≤ 20000 := by
  obtain ⟨⟨hng, _, hnu, hnt, hns, hnsp⟩, h12, hp12⟩ := id hq
  have hnt' := hq'.sm.nt
  have h0 : ∀ x : Dl, (dOf x).size = x.ck.length + x.cu.length + x.wg.length + x.gn.length + x.tk.length + x.sp.length := fun _ => rfl
  rw [h0]
  unfold btw
  split
  · simp [noDl]
  split
  · simp [noDl]
  have l0 := flx_len (difN_len a.clk b.clk) a.nk
  have l1 := flx_len (difN_len a.cur b.cur) a.nk
  have l2 := flx_len (difG_len a b) a.ng
  have l3 := flx_len (goneL_len a b) a.nt
  have l4 := flx_len (newTk_len a b) b.nt
  have l5 := flx2_len a b a.nk a.ns
  have l6 : a.ns * a.nk ≤ 12 * 1000 := Nat.mul_le_mul h12 hnk
  simp only [btw0, gone]
  omega
theorem between_d (a b : St) (hq : PreOk a) (hq' : PreOk b) (hk : Kinds a) (hk' : Kinds b) : AM.Pure Tryz.prog Γ 21 [.agg a.cells, .agg b.cells] (.tup [.agg (dOf (btw a b)).cells, .lit (.int .i64 (btwE a b))]) :=
  Pure_leD (between a b hq hq' hk hk') (VLe.tups (.cons (dOf_le _) (.cons (VLe.refl _) .nil)))
theorem rBetween_d (a b : St) (hq : PreOk a) (hq' : PreOk b) (hk : Kinds a) (hk' : Kinds b) : AM.Pure Tryz.prog Γ 17 [.agg a.cells, .agg b.cells] (.tup [.agg (dOf (btw a b)).cells, .lit (.int .i64 (btwE a b))]) :=
  Pure_leD (rBetween a b hq hq' hk hk') (VLe.tups (.cons (dOf_le _) (.cons (VLe.refl _) .nil)))
theorem size_d (d : DE) (h : d.size ≤ 100000) : AM.Pure Tryz.prog Γ 26 [.agg d.cells] (.lit (.int .i64 (d.size : Int))) :=
  dsize ⟨d.n0, d.n1, d.n2, d.n3, d.n4, d.n5, d.f0, d.f1, d.f2, d.f3, d.f4, d.f5⟩ (by show d.n0 + d.n1 + d.n2 + d.n3 + d.n4 + d.n5 < _; have : d.size = d.n0 + d.n1 + d.n2 + d.n3 + d.n4 + d.n5 := rfl; omega)
set_option maxHeartbeats 4000000 in
theorem tells35 (a b : St) (hk : Kinds a) (hk' : Kinds b) : AM.Pure Tryz.prog Γ 12 [.agg a.cells, .agg b.cells] (.lit (.bool true)) := by
  refine Pure_at Tryz.func12 rfl 81 rfl (Nat.le_of_ble_eq_true rfl) rfl fun k => ?_
  have kp : Kp [0,1,2,3,4,5,6,7,8,9,10,18] (fun i => i - k) := kpI
  refine wl ?_ <;> and_intros <;> first | exact hdT | (apply zM; (repeat intro ht); apply zM; (repeat intro hg); apply zM)
  refine cl [.ret (.lit (.bool (decide (SmallQ a)))), .ret (.lit (.bool (decide (SmallQ b))))] ?_ <;> and_intros <;> first | exact hdT | (apply zM; (repeat intro ht); apply zM; (repeat intro hg); apply zM)
  · exact small35 a
  · exact small35 b
  all_goals ((refine wl ?_ <;> and_intros <;> first | exact hdT | (apply zM; (repeat intro ht); apply zM; (repeat intro hg); apply zM)))
  · exact C_ret rfl ⟨_, rfl, VLe.refl _⟩
  · have hSa : SmallQ a := by assumption
    have hSb : SmallQ b := by assumption
    have hq := small_pre (smallQ_P hSa)
    have hq' := small_pre (smallQ_P hSb)
    obtain ⟨X, eX⟩ : ∃ X, X = dOf (btw a b) := ⟨_, rfl⟩
    obtain ⟨E, eE⟩ : ∃ E, E = btwE a b := ⟨_, rfl⟩
    have hX : X.size ≤ 20000 := by rw [eX]; exact btw_size hq hq' hq.sm.nk
    have hX' : X.n0 + X.n1 + X.n2 + X.n3 + X.n4 + X.n5 ≤ 20000 := hX
    have hXs : (X.size : Int) = X.n0 + X.n1 + X.n2 + X.n3 + X.n4 + X.n5 := by show ((X.n0 + X.n1 + X.n2 + X.n3 + X.n4 + X.n5 : Nat) : Int) = _; omega
    refine dl [.ret (.agg a.cells), .ret (.agg b.cells)] ?_ <;> and_intros <;> first | exact hdT | (apply zM; (repeat intro ht); apply zM; (repeat intro hg); apply zM)
    · exact copyState a hq.sm
    · exact copyState b hq'.sm
    refine wl ?_ <;> and_intros <;> first | exact hdT | (apply zM; (repeat intro ht); apply zM; (repeat intro hg); apply zM)
    refine cl [.ret (.tup [.agg X.cells, .lit (.int .i64 E)])] ?_ <;> and_intros <;> first | exact hdT | (apply zM; (repeat intro ht); apply zM; (repeat intro hg); apply zM)
    · rw [eX, eE]; exact between_d a b hq hq' hk hk'
    refine wl ?_ <;> and_intros <;> first | exact hdT | (apply zM; (repeat intro ht); apply zM; (repeat intro hg); apply zM)
    refine cl [.ret (.tup [.agg X.cells, .lit (.int .i64 E)])] ?_ <;> and_intros <;> first | exact hdT | (apply zM; (repeat intro ht); apply zM; (repeat intro hg); apply zM)
    · rw [eX, eE]; exact rBetween_d a b hq hq' hk hk'
    refine wl ?_ <;> and_intros <;> first | exact hdT | (apply zM; (repeat intro ht); apply zM; (repeat intro hg); apply zM)
    refine dl [.ret (.lit (.bool true)), .ret (.lit (.bool true)), .ret (.lit (.bool true)), .ret (.lit (.int .i64 (X.size : Int)))] ?_ <;> and_intros <;> first | exact hdT | (apply zM; (repeat intro ht); apply zM; (repeat intro hg); apply zM)
    all_goals (first | (have h := is_d (Γ := Γ) X X (by omega) (by omega); rw [eqD_self] at h; exact h) | (exact sameState a hq.sm) | (exact sameState b hq'.sm) | (exact size_d X (by omega)) | skip)
    all_goals (refine C_ret rfl ⟨_, rfl, VLe.of_eq ?_⟩; rw [hXs, beq_self_eq_true])
  · exact C_ret rfl ⟨_, rfl, VLe.refl _⟩
end Go.Proofs.T
end
section
namespace Go.Proofs.T
open Go Go.AM Go.Proofs
set_option maxRecDepth 20000
theorem deltaTellsW {Γ : List (Nat × List AVal)} (hA : AM.Pure Tryz.prog Γ 13 [] (.lit (.bool true))) (a b : St) (hk : Kinds a) (hk' : Kinds b) : AM.Pure Tryz.prog Γ 3 [.agg a.cells, .agg b.cells] (.lit (.bool true)) := by
  refine Pure_at Tryz.func3 rfl 11 rfl (Nat.le_of_ble_eq_true rfl) rfl fun k => ?_
  have kp : Kp [0,1,2,3,4] (fun i => i - k) := kpI
  refine wl ?_ <;> and_intros <;> first | exact hdT | (apply zM; (repeat intro ht); apply zM; (repeat intro hg); apply zM)
  refine cl [.ret (.lit (.bool true)), .ret (.lit (.bool true))] ?_ <;> and_intros <;> first | exact hdT | (apply zM; (repeat intro ht); apply zM; (repeat intro hg); apply zM)
  · exact tells35 a b hk hk'
  exact C_ret rfl ⟨_, rfl, VLe.refl _⟩
end Go.Proofs.T
end
section
namespace Go.AM
open Go Go.RowKit Go.Proofs Go.Shelf
abbrev str (l : List UInt8) : ByteArray := ⟨l.toArray⟩
theorem str_data (b : ByteArray) : str b.data.toList = b := rfl
def strs (l : List (List UInt8)) : AVal := .rd 1 l.length (fun i => [.lit (.string (str (l.getD i [])))])
def atoiV (l : List UInt8) : Int := match Lib.atoiAll l with
  | .ok v => v
  | .range => Lib.atoiSat l
  | _ => 0
section
variable {P : Program} {ρ : Ren} {Γ : List (Nat × List AVal)}
theorem Pure_Itoa (L : LaysM.n171 P ρ) {g : Nat} (hg : P.globalNamed "internal/strconv.uint64pow10" = some g) (hΓ : look Γ g = some (Lib.pow10Tab.map fun z => .lit (.int .u64 z))) (n : Int)
    (h0 : -9223372036854775808 ≤ n) (h1 : n ≤ 9223372036854775807) : Pure P Γ (ρ.f 171) [.lit (.int .i64 n)] (.lit (.string (str (Lib.itoa n)))) :=
  Pure_calls rfl fun w G args hG hv => by
    rw [Vs_one hv]
    refine (Any.strconv_Itoa L n h0 h1 w ((hG g _ hΓ).tab hg)).mono ?_
    rintro e w' ⟨rfl, k, os, rfl⟩
    refine ⟨_, rfl, ⟨rfl, rfl, rfl, by first | (simp [Sort.grow]; done) | (simp [Sort.grow]; omega), fun i hi => ?_⟩, .lit⟩
    show ((w.drewN k).heap ++ os)[i]? = _
    rw [Array.getElem?_append_left (by show i < w.heap.size; omega)]
    rfl
theorem V_pair {w : World} {G : Nat → Prop} {ρ : Names} {A : Allow} {n : Int} {x : Value} : V w G ρ A (.tup [.lit (.int .i64 n), .junk]) (.tuple #[.int .i64 n, x]) := by
  refine .tup rfl fun j v hj => ?_
  match j with
  | 0 => cases hj; exact .lit
  | 1 => cases hj; exact .junk
  | j + 2 => simp at hj
theorem Pure_Atoi (L : LaysC.n172 P ρ) {te pe te' pe'} (hS : look Γ (ρ.g 15) = some [.lit (.iface te pe)]) (hR : look Γ (ρ.g 16) = some [.lit (.iface te' pe')]) (l : List UInt8) (hl : l.length ≤ 281474976710656) :
    Pure P Γ (ρ.f 172) [.lit (.string (str l))] (.tup [.lit (.int .i64 (atoiV l)), .junk]) :=
  Pure_calls rfl fun w G args hG hv => by
    rw [Vs_one hv]
    have hs : (str l).size ≤ 281474976710656 := by simpa [ByteArray.size] using hl
    have hd : (str l).data.toList = l := by simp
    cases h : Lib.atoiAll l
    · rename_i v
      refine (Any.strconv_Atoi_ok L (str l) (by omega) v (by rw [hd]; exact h) w).mono ?_
      rintro e w' ⟨rfl, hw⟩
      refine ⟨_, rfl, ?_, by rw [atoiV, h]; exact V_pair⟩
      rcases hw with rfl | ⟨t, rfl⟩
      · exact Below.refl _ _
      · exact Lib.bytesWorld_below _ _ _
    · refine (Any.strconv_Atoi_syntax L (str l) hs (by rw [hd]; exact h) (.iface te pe) w ((hG _ _ hS).cell rfl) (.inr ⟨_, _, rfl⟩)).mono ?_
      rintro e w' ⟨N, rfl, _, _, hb⟩
      exact ⟨_, rfl, hb, by rw [atoiV, h]; exact V_pair⟩
    · refine (Any.strconv_Atoi_range L (str l) hs (by rw [hd]; exact h) (.iface te' pe') w ((hG _ _ hR).cell rfl) (.inr ⟨_, _, rfl⟩)).mono ?_
      rintro e w' ⟨N, rfl, _, _, hb⟩
      exact ⟨_, rfl, hb, by rw [atoiV, h, hd]; exact V_pair⟩
theorem Pure_Split (L : Lays.n146 P ρ) (hi9 : (P.info? (ρ.t 9)).map (fun i => (i.zero, i.size, i.bytes)) = some (some (.string ByteArray.empty), 1, 16)) {m : Int} (hM : look Γ (ρ.g 1) = some [.lit (.int .i64 m)]) (l sep : List UInt8)
    (hl : l.length < 4294967281) (h1 : 1 ≤ sep.length) : Pure P Γ (ρ.f 146) [.lit (.string (str l)), .lit (.string (str sep))] (strs (Lib.split l sep)) :=
  Pure_calls rfl fun w G args hG hv => by
    rw [Vs_two hv]
    have hs : (str l).size < 4294967281 := by simpa [ByteArray.size] using hl
    have h1' : 1 ≤ (str sep).size := by simpa [ByteArray.size] using h1
    refine (Any.strings_Split L hi9 (str l) (str sep) m w hs ((hG _ _ hM).cell rfl) h1').mono ?_
    rintro e w' ⟨rfl, rfl⟩
    have hlen := Lib.splitB_all (str sep) h1' 0 _ (str l) rfl
    have hle := Lib.countB_le (str sep) h1' (str l).size (str l) (Nat.le_refl _)
    have hdat := Lib.splitB_data (str sep) 0 (Lib.countB (str l) (str sep)) (str l)
    have hsp : Lib.split l sep = (Lib.splitB (str sep) 0 (Lib.countB (str l) (str sep)) (str l)).map (·.data.toList) := by
      rw [hdat]; simp [Lib.split, Lib.countB]
    refine ⟨_, rfl, (Below.refl _ _).alloc (Nat.le_refl _) _, ?_⟩
    unfold strs
    rw [hsp]
    generalize hq : Lib.splitB (str sep) 0 (Lib.countB (str l) (str sep)) (str l) = q at *
    rw [← hlen, List.length_map]
    refine .rd (fun i _ => .string (q.getD i default)) (.inr ⟨Nat.le_refl _, by simp⟩) (Nat.le_refl _) (by unfold maxLen; omega) (fun i hi => rfl) (fun i j v hi hj => ?_) (fun i j v hi hj => ?_)
    · match j with
      | 0 =>
        have hi' : i < q.length := hi
        have e : 0 + i * 1 + 0 = i := by omega
        rw [e, World.cell?_alloc_at _ _ _ _ rfl, List.getElem?_toArray, List.getElem?_map, List.getElem?_eq_getElem hi']
        simp [List.getD, hi']
      | j + 1 => simp at hj
    · match j with
      | 0 =>
        simp only [List.getElem?_cons_zero, Option.some.injEq] at hj
        subst hj
        have e : str (List.getD (q.map (·.data.toList)) i []) = q.getD i default := by simp [List.getD, hi]
        rw [e]; exact .lit
      | j + 1 => simp at hj
end
end Go.AM
end
section
namespace Go.Proofs
open Go.Shelf
def Tryz.layItoa_ren : Go.Shelf.Ren := ⟨fun | 171 => 216 | 243 => 258 | 246 => 290 | 283 => 293 | 284 => 294 | 285 => 295 | 286 => 296 | 129 => 207 | 317 => 311 | 318 => 312 | 319 => 313 | 320 => 314 | 337 => 319 | 338 => 320 | n => n, fun | 3 => 3 | 9 => 9 | 2 => 2 | 4 => 4 | 171 => 333 | 0 => 0 | 53 => 22 | 37 => 238 | 5 => 5 | 173 => 335 | 212 => 351 | 51 => 50 | 20 => 20 | 213 => 352 | 46 => 189 | 232 => 363 | 233 => 364 | n => n, fun | 17 => 3 | 18 => 6 | 19 => 7 | n => n⟩
theorem Tryz.layItoa : Go.Proofs.LaysM.n171 Tryz.prog Tryz.layItoa_ren := {
  mixed := by kernel_rfl
  f129 := Tryz.func207.trans (congrArg some (by kernel_rfl))
  f171 := Tryz.func216.trans (congrArg some (by kernel_rfl))
  f243 := Tryz.func258.trans (congrArg some (by kernel_rfl))
  f246 := Tryz.func290.trans (congrArg some (by kernel_rfl))
  f283 := Tryz.func293.trans (congrArg some (by kernel_rfl))
  f284 := Tryz.func294.trans (congrArg some (by kernel_rfl))
  f285 := Tryz.func295.trans (congrArg some (by kernel_rfl))
  f286 := Tryz.func296.trans (congrArg some (by kernel_rfl))
  f317 := Tryz.func311.trans (congrArg some (by kernel_rfl))
  f318 := Tryz.func312.trans (congrArg some (by kernel_rfl))
  f319 := Tryz.func313.trans (congrArg some (by kernel_rfl))
  f320 := Tryz.func314.trans (congrArg some (by kernel_rfl))
  f337 := Tryz.func319.trans (congrArg some (by kernel_rfl))
  f338 := Tryz.func320.trans (congrArg some (by kernel_rfl))
  t0 := Tryz.underlying0
  a0 := Tryz.isAgg0
  z0 := Tryz.sizeOf0
  v0 := Tryz.zeroValue0
  t2 := Tryz.underlying2
  a2 := Tryz.isAgg2
  z2 := Tryz.sizeOf2
  v2 := Tryz.zeroValue2
  t3 := Tryz.underlying3
  a3 := Tryz.isAgg3
  z3 := Tryz.sizeOf3
  v3 := Tryz.zeroValue3
  t4 := Tryz.underlying4
  a4 := Tryz.isAgg4
  z4 := Tryz.sizeOf4
  v4 := Tryz.zeroValue4
  t5 := Tryz.underlying5
  a5 := Tryz.isAgg5
  z5 := Tryz.sizeOf5
  v5 := Tryz.zeroValue5
  t9 := Tryz.underlying9
  a9 := Tryz.isAgg9
  z9 := Tryz.sizeOf9
  v9 := Tryz.zeroValue9
  t20 := Tryz.underlying20
  a20 := Tryz.isAgg20
  z20 := Tryz.sizeOf20
  v20 := Tryz.zeroValue20
  t37 := Tryz.underlying238
  a37 := Tryz.isAgg238
  z37 := Tryz.sizeOf238
  v37 := Tryz.zeroValue238
  t46 := Tryz.underlying189
  a46 := Tryz.isAgg189
  z46 := Tryz.sizeOf189
  v46 := Tryz.zeroValue189
  t51 := Tryz.underlying50
  a51 := Tryz.isAgg50
  z51 := Tryz.sizeOf50
  v51 := Tryz.zeroValue50
  t53 := Tryz.underlying22
  a53 := Tryz.isAgg22
  z53 := Tryz.sizeOf22
  v53 := Tryz.zeroValue22
  t171 := Tryz.underlying333
  a171 := Tryz.isAgg333
  z171 := Tryz.sizeOf333
  v171 := Tryz.zeroValue333
  t173 := Tryz.underlying335
  a173 := Tryz.isAgg335
  z173 := Tryz.sizeOf335
  v173 := Tryz.zeroValue335
  t212 := Tryz.underlying351
  a212 := Tryz.isAgg351
  z212 := Tryz.sizeOf351
  v212 := Tryz.zeroValue351
  t213 := Tryz.underlying352
  a213 := Tryz.isAgg352
  z213 := Tryz.sizeOf352
  t232 := Tryz.underlying363
  a232 := Tryz.isAgg363
  z232 := Tryz.sizeOf363
  v232 := Tryz.zeroValue363
  t233 := Tryz.underlying364
  a233 := Tryz.isAgg364
  z233 := Tryz.sizeOf364
  v233 := Tryz.zeroValue364
  g17 := by kernel_rfl
  g18 := by kernel_rfl
  g19 := by kernel_rfl
  i0 := by kernel_rfl
  i2 := by kernel_rfl
  i3 := by kernel_rfl
  i4 := by kernel_rfl
  i5 := by kernel_rfl
  i9 := by kernel_rfl
  i20 := by kernel_rfl
  i37 := by kernel_rfl
  i46 := by kernel_rfl
  i51 := by kernel_rfl
  i53 := by kernel_rfl
  i171 := by kernel_rfl
  i173 := by kernel_rfl
  i212 := by kernel_rfl
  i232 := by kernel_rfl
  i233 := by kernel_rfl
  m17 := by kernel_rfl
  m18 := by kernel_rfl
  m19 := by kernel_rfl }
def Tryz.layAtoi_ren : Go.Shelf.Ren := ⟨fun | 172 => 150 | 244 => 220 | 245 => 221 | 247 => 263 | 279 => 264 | 280 => 265 | 281 => 266 | 282 => 267 | 287 => 222 | 316 => 297 | 171 => 216 | 205 => 298 | 321 => 268 | 322 => 269 | 243 => 258 | 246 => 290 | 283 => 293 | 284 => 294 | 285 => 295 | 286 => 296 | 129 => 207 | 317 => 311 | 318 => 312 | 319 => 313 | 320 => 314 | 337 => 319 | 338 => 320 | n => n, fun | 9 => 9 | 3 => 3 | 75 => 216 | 76 => 217 | 4 => 4 | 5 => 5 | 167 => 313 | 37 => 238 | 0 => 0 | 85 => 314 | 2 => 2 | 168 => 316 | 53 => 22 | 175 => 219 | 46 => 189 | 210 => 339 | 127 => 332 | 145 => 355 | 143 => 353 | 21 => 21 | 171 => 333 | 173 => 335 | 212 => 351 | 51 => 50 | 20 => 20 | 213 => 352 | 232 => 363 | 233 => 364 | 80 => 312 | n => n, fun | 15 => 0 | 16 => 1 | 17 => 3 | 18 => 6 | 19 => 7 | n => n⟩
theorem Tryz.layAtoi : Go.Proofs.LaysC.n172 Tryz.prog Tryz.layAtoi_ren := {
  mixed := by kernel_rfl
  f129 := Tryz.func207.trans (congrArg some (by kernel_rfl))
  f171 := Tryz.func216.trans (congrArg some (by kernel_rfl))
  f172 := Tryz.func150.trans (congrArg some (by kernel_rfl))
  f205 := Tryz.func298.trans (congrArg some (by kernel_rfl))
  f243 := Tryz.func258.trans (congrArg some (by kernel_rfl))
  f244 := Tryz.func220.trans (congrArg some (by kernel_rfl))
  f245 := Tryz.func221.trans (congrArg some (by kernel_rfl))
  f246 := Tryz.func290.trans (congrArg some (by kernel_rfl))
  f247 := Tryz.func263.trans (congrArg some (by kernel_rfl))
  f279 := Tryz.func264.trans (congrArg some (by kernel_rfl))
  f280 := Tryz.func265.trans (congrArg some (by kernel_rfl))
  f281 := Tryz.func266.trans (congrArg some (by kernel_rfl))
  f282 := Tryz.func267.trans (congrArg some (by kernel_rfl))
  f283 := Tryz.func293.trans (congrArg some (by kernel_rfl))
  f284 := Tryz.func294.trans (congrArg some (by kernel_rfl))
  f285 := Tryz.func295.trans (congrArg some (by kernel_rfl))
  f286 := Tryz.func296.trans (congrArg some (by kernel_rfl))
  f287 := Tryz.func222.trans (congrArg some (by kernel_rfl))
  f316 := Tryz.func297.trans (congrArg some (by kernel_rfl))
  f317 := Tryz.func311.trans (congrArg some (by kernel_rfl))
  f318 := Tryz.func312.trans (congrArg some (by kernel_rfl))
  f319 := Tryz.func313.trans (congrArg some (by kernel_rfl))
  f320 := Tryz.func314.trans (congrArg some (by kernel_rfl))
  f321 := Tryz.func268.trans (congrArg some (by kernel_rfl))
  f322 := Tryz.func269.trans (congrArg some (by kernel_rfl))
  f337 := Tryz.func319.trans (congrArg some (by kernel_rfl))
  f338 := Tryz.func320.trans (congrArg some (by kernel_rfl))
  t0 := Tryz.underlying0
  a0 := Tryz.isAgg0
  z0 := Tryz.sizeOf0
  v0 := Tryz.zeroValue0
  t2 := Tryz.underlying2
  a2 := Tryz.isAgg2
  z2 := Tryz.sizeOf2
  v2 := Tryz.zeroValue2
  t3 := Tryz.underlying3
  a3 := Tryz.isAgg3
  z3 := Tryz.sizeOf3
  v3 := Tryz.zeroValue3
  t4 := Tryz.underlying4
  a4 := Tryz.isAgg4
  z4 := Tryz.sizeOf4
  v4 := Tryz.zeroValue4
  t5 := Tryz.underlying5
  a5 := Tryz.isAgg5
  z5 := Tryz.sizeOf5
  v5 := Tryz.zeroValue5
  t9 := Tryz.underlying9
  a9 := Tryz.isAgg9
  z9 := Tryz.sizeOf9
  v9 := Tryz.zeroValue9
  t20 := Tryz.underlying20
  a20 := Tryz.isAgg20
  z20 := Tryz.sizeOf20
  v20 := Tryz.zeroValue20
  t21 := Tryz.underlying21
  a21 := Tryz.isAgg21
  z21 := Tryz.sizeOf21
  v21 := Tryz.zeroValue21
  t37 := Tryz.underlying238
  a37 := Tryz.isAgg238
  z37 := Tryz.sizeOf238
  v37 := Tryz.zeroValue238
  t46 := Tryz.underlying189
  a46 := Tryz.isAgg189
  z46 := Tryz.sizeOf189
  v46 := Tryz.zeroValue189
  t51 := Tryz.underlying50
  a51 := Tryz.isAgg50
  z51 := Tryz.sizeOf50
  v51 := Tryz.zeroValue50
  t53 := Tryz.underlying22
  a53 := Tryz.isAgg22
  z53 := Tryz.sizeOf22
  v53 := Tryz.zeroValue22
  t75 := Tryz.underlying216
  a75 := Tryz.isAgg216
  z75 := Tryz.sizeOf216
  v75 := Tryz.zeroValue216
  t76 := Tryz.underlying217
  a76 := Tryz.isAgg217
  z76 := Tryz.sizeOf217
  v76 := Tryz.zeroValue217
  t85 := Tryz.underlying314
  a85 := Tryz.isAgg314
  z85 := Tryz.sizeOf314
  v85 := Tryz.zeroValue314
  t127 := Tryz.underlying332
  a127 := Tryz.isAgg332
  z127 := Tryz.sizeOf332
  v127 := Tryz.zeroValue332
  t143 := Tryz.underlying353
  a143 := Tryz.isAgg353
  z143 := Tryz.sizeOf353
  v143 := Tryz.zeroValue353
  t145 := Tryz.underlying355
  a145 := Tryz.isAgg355
  z145 := Tryz.sizeOf355
  v145 := Tryz.zeroValue355
  t167 := Tryz.underlying313
  a167 := Tryz.isAgg313
  z167 := Tryz.sizeOf313
  v167 := Tryz.zeroValue313
  t168 := Tryz.underlying316
  a168 := Tryz.isAgg316
  z168 := Tryz.sizeOf316
  v168 := Tryz.zeroValue316
  t171 := Tryz.underlying333
  a171 := Tryz.isAgg333
  z171 := Tryz.sizeOf333
  v171 := Tryz.zeroValue333
  t173 := Tryz.underlying335
  a173 := Tryz.isAgg335
  z173 := Tryz.sizeOf335
  v173 := Tryz.zeroValue335
  t175 := Tryz.underlying219
  a175 := Tryz.isAgg219
  z175 := Tryz.sizeOf219
  v175 := Tryz.zeroValue219
  t210 := Tryz.underlying339
  a210 := Tryz.isAgg339
  z210 := Tryz.sizeOf339
  v210 := Tryz.zeroValue339
  t212 := Tryz.underlying351
  a212 := Tryz.isAgg351
  z212 := Tryz.sizeOf351
  v212 := Tryz.zeroValue351
  t213 := Tryz.underlying352
  a213 := Tryz.isAgg352
  z213 := Tryz.sizeOf352
  t232 := Tryz.underlying363
  a232 := Tryz.isAgg363
  z232 := Tryz.sizeOf363
  v232 := Tryz.zeroValue363
  t233 := Tryz.underlying364
  a233 := Tryz.isAgg364
  z233 := Tryz.sizeOf364
  v233 := Tryz.zeroValue364
  g15 := by kernel_rfl
  g16 := by kernel_rfl
  g17 := by kernel_rfl
  g18 := by kernel_rfl
  g19 := by kernel_rfl
  t80 := Tryz.underlying312
  a80 := Tryz.isAgg312
  z80 := Tryz.sizeOf312
  v80 := Tryz.zeroValue312
  i0 := by kernel_rfl
  i2 := by kernel_rfl
  i3 := by kernel_rfl
  i4 := by kernel_rfl
  i5 := by kernel_rfl
  i9 := by kernel_rfl
  i20 := by kernel_rfl
  i21 := by kernel_rfl
  i37 := by kernel_rfl
  i46 := by kernel_rfl
  i51 := by kernel_rfl
  i53 := by kernel_rfl
  i75 := by kernel_rfl
  i76 := by kernel_rfl
  i80 := by kernel_rfl
  i85 := by kernel_rfl
  i127 := by kernel_rfl
  i143 := by kernel_rfl
  i145 := by kernel_rfl
  i167 := by kernel_rfl
  i168 := by kernel_rfl
  i171 := by kernel_rfl
  i173 := by kernel_rfl
  i175 := by kernel_rfl
  i210 := by kernel_rfl
  i212 := by kernel_rfl
  i232 := by kernel_rfl
  i233 := by kernel_rfl
  m15 := by kernel_rfl
  m16 := by kernel_rfl
  m17 := by kernel_rfl
  m18 := by kernel_rfl
  m19 := by kernel_rfl
  c0 := by kernel_rfl
  c2 := by kernel_rfl
  c3 := by kernel_rfl
  c4 := by kernel_rfl
  c5 := by kernel_rfl
  c9 := by kernel_rfl
  c20 := by kernel_rfl
  c21 := by kernel_rfl
  c37 := by kernel_rfl
  c46 := by kernel_rfl
  c51 := by kernel_rfl
  c53 := by kernel_rfl
  c75 := by kernel_rfl
  c76 := by kernel_rfl
  c80 := by kernel_rfl
  c85 := by kernel_rfl
  c127 := by kernel_rfl
  c143 := by kernel_rfl
  c145 := by kernel_rfl
  c167 := by kernel_rfl
  c168 := by kernel_rfl
  c171 := by kernel_rfl
  c173 := by kernel_rfl
  c175 := by kernel_rfl
  c210 := by kernel_rfl
  c212 := by kernel_rfl
  c213 := by kernel_rfl
  c232 := by kernel_rfl
  c233 := by kernel_rfl }
def Tryz.laySplit_ren : Go.Shelf.Ren := ⟨fun | 146 => 144 | 221 => 215 | 268 => 255 | 138 => 256 | 143 => 257 | 195 => 286 | 197 => 287 | 218 => 288 | 219 => 289 | 260 => 304 | 217 => 305 | 225 => 306 | 224 => 307 | 267 => 308 | 266 => 317 | 314 => 318 | n => n, fun | 9 => 9 | 31 => 37 | 3 => 3 | 4 => 4 | 0 => 0 | 105 => 328 | 21 => 21 | 5 => 5 | 46 => 189 | 119 => 357 | 139 => 360 | 138 => 359 | 146 => 361 | 51 => 50 | n => n, fun | 1 => 2 | 3 => 4 | 4 => 5 | n => n⟩
theorem Tryz.laySplit : Go.Proofs.Lays.n146 Tryz.prog Tryz.laySplit_ren := {
  mixed := by kernel_rfl
  f138 := Tryz.func256.trans (congrArg some (by kernel_rfl))
  f143 := Tryz.func257.trans (congrArg some (by kernel_rfl))
  f146 := Tryz.func144.trans (congrArg some (by kernel_rfl))
  f195 := Tryz.func286.trans (congrArg some (by kernel_rfl))
  f197 := Tryz.func287.trans (congrArg some (by kernel_rfl))
  f217 := Tryz.func305.trans (congrArg some (by kernel_rfl))
  f218 := Tryz.func288.trans (congrArg some (by kernel_rfl))
  f219 := Tryz.func289.trans (congrArg some (by kernel_rfl))
  f221 := Tryz.func215.trans (congrArg some (by kernel_rfl))
  f224 := Tryz.func307.trans (congrArg some (by kernel_rfl))
  f225 := Tryz.func306.trans (congrArg some (by kernel_rfl))
  f260 := Tryz.func304.trans (congrArg some (by kernel_rfl))
  f266 := Tryz.func317.trans (congrArg some (by kernel_rfl))
  f267 := Tryz.func308.trans (congrArg some (by kernel_rfl))
  f268 := Tryz.func255.trans (congrArg some (by kernel_rfl))
  f314 := Tryz.func318.trans (congrArg some (by kernel_rfl))
  t0 := Tryz.underlying0
  a0 := Tryz.isAgg0
  z0 := Tryz.sizeOf0
  v0 := Tryz.zeroValue0
  t3 := Tryz.underlying3
  a3 := Tryz.isAgg3
  z3 := Tryz.sizeOf3
  v3 := Tryz.zeroValue3
  t4 := Tryz.underlying4
  a4 := Tryz.isAgg4
  z4 := Tryz.sizeOf4
  v4 := Tryz.zeroValue4
  t5 := Tryz.underlying5
  a5 := Tryz.isAgg5
  z5 := Tryz.sizeOf5
  v5 := Tryz.zeroValue5
  t9 := Tryz.underlying9
  a9 := Tryz.isAgg9
  z9 := Tryz.sizeOf9
  v9 := Tryz.zeroValue9
  t21 := Tryz.underlying21
  a21 := Tryz.isAgg21
  z21 := Tryz.sizeOf21
  v21 := Tryz.zeroValue21
  t31 := Tryz.underlying37
  a31 := Tryz.isAgg37
  z31 := Tryz.sizeOf37
  v31 := Tryz.zeroValue37
  t46 := Tryz.underlying189
  a46 := Tryz.isAgg189
  z46 := Tryz.sizeOf189
  v46 := Tryz.zeroValue189
  t51 := Tryz.underlying50
  a51 := Tryz.isAgg50
  z51 := Tryz.sizeOf50
  v51 := Tryz.zeroValue50
  t105 := Tryz.underlying328
  a105 := Tryz.isAgg328
  z105 := Tryz.sizeOf328
  v105 := Tryz.zeroValue328
  t119 := Tryz.underlying357
  a119 := Tryz.isAgg357
  z119 := Tryz.sizeOf357
  t138 := Tryz.underlying359
  a138 := Tryz.isAgg359
  z138 := Tryz.sizeOf359
  v138 := Tryz.zeroValue359
  t139 := Tryz.underlying360
  a139 := Tryz.isAgg360
  z139 := Tryz.sizeOf360
  v139 := Tryz.zeroValue360
  t146 := Tryz.underlying361
  a146 := Tryz.isAgg361
  z146 := Tryz.sizeOf361
  v146 := Tryz.zeroValue361
  g1 := by kernel_rfl
  g3 := by kernel_rfl
  g4 := by kernel_rfl }
def Tryz.layCut_ren : Go.Shelf.Ren := ⟨fun | 145 => 224 | 220 => 270 | 219 => 289 | 217 => 305 | 225 => 306 | 224 => 307 | 267 => 308 | 266 => 317 | 314 => 318 | n => n, fun | 9 => 9 | 4 => 4 | 59 => 277 | 3 => 3 | 5 => 5 | 46 => 189 | 146 => 361 | 51 => 50 | n => n, fun | 1 => 2 | n => n⟩
theorem Tryz.layCut : Go.Proofs.Lays.n145 Tryz.prog Tryz.layCut_ren := {
  mixed := by kernel_rfl
  f145 := Tryz.func224.trans (congrArg some (by kernel_rfl))
  f217 := Tryz.func305.trans (congrArg some (by kernel_rfl))
  f219 := Tryz.func289.trans (congrArg some (by kernel_rfl))
  f220 := Tryz.func270.trans (congrArg some (by kernel_rfl))
  f224 := Tryz.func307.trans (congrArg some (by kernel_rfl))
  f225 := Tryz.func306.trans (congrArg some (by kernel_rfl))
  f266 := Tryz.func317.trans (congrArg some (by kernel_rfl))
  f267 := Tryz.func308.trans (congrArg some (by kernel_rfl))
  f314 := Tryz.func318.trans (congrArg some (by kernel_rfl))
  t3 := Tryz.underlying3
  a3 := Tryz.isAgg3
  z3 := Tryz.sizeOf3
  v3 := Tryz.zeroValue3
  t4 := Tryz.underlying4
  a4 := Tryz.isAgg4
  z4 := Tryz.sizeOf4
  v4 := Tryz.zeroValue4
  t5 := Tryz.underlying5
  a5 := Tryz.isAgg5
  z5 := Tryz.sizeOf5
  v5 := Tryz.zeroValue5
  t9 := Tryz.underlying9
  a9 := Tryz.isAgg9
  z9 := Tryz.sizeOf9
  v9 := Tryz.zeroValue9
  t46 := Tryz.underlying189
  a46 := Tryz.isAgg189
  z46 := Tryz.sizeOf189
  v46 := Tryz.zeroValue189
  t51 := Tryz.underlying50
  a51 := Tryz.isAgg50
  z51 := Tryz.sizeOf50
  v51 := Tryz.zeroValue50
  t59 := Tryz.underlying277
  a59 := Tryz.isAgg277
  z59 := Tryz.sizeOf277
  v59 := Tryz.zeroValue277
  t146 := Tryz.underlying361
  a146 := Tryz.isAgg361
  z146 := Tryz.sizeOf361
  v146 := Tryz.zeroValue361
  g1 := by kernel_rfl }
def Tryz.layContains_ren : Go.Shelf.Ren := ⟨fun | 144 => 225 | 143 => 257 | 219 => 289 | 217 => 305 | 225 => 306 | 224 => 307 | 267 => 308 | 266 => 317 | 314 => 318 | n => n, fun | 9 => 9 | 4 => 4 | 3 => 3 | 5 => 5 | 46 => 189 | 146 => 361 | 51 => 50 | n => n, fun | 1 => 2 | n => n⟩
theorem Tryz.layContains : Go.Proofs.Lays.n144 Tryz.prog Tryz.layContains_ren := {
  mixed := by kernel_rfl
  f143 := Tryz.func257.trans (congrArg some (by kernel_rfl))
  f144 := Tryz.func225.trans (congrArg some (by kernel_rfl))
  f217 := Tryz.func305.trans (congrArg some (by kernel_rfl))
  f219 := Tryz.func289.trans (congrArg some (by kernel_rfl))
  f224 := Tryz.func307.trans (congrArg some (by kernel_rfl))
  f225 := Tryz.func306.trans (congrArg some (by kernel_rfl))
  f266 := Tryz.func317.trans (congrArg some (by kernel_rfl))
  f267 := Tryz.func308.trans (congrArg some (by kernel_rfl))
  f314 := Tryz.func318.trans (congrArg some (by kernel_rfl))
  t3 := Tryz.underlying3
  a3 := Tryz.isAgg3
  z3 := Tryz.sizeOf3
  v3 := Tryz.zeroValue3
  t4 := Tryz.underlying4
  a4 := Tryz.isAgg4
  z4 := Tryz.sizeOf4
  v4 := Tryz.zeroValue4
  t5 := Tryz.underlying5
  a5 := Tryz.isAgg5
  z5 := Tryz.sizeOf5
  v5 := Tryz.zeroValue5
  t9 := Tryz.underlying9
  a9 := Tryz.isAgg9
  z9 := Tryz.sizeOf9
  v9 := Tryz.zeroValue9
  t46 := Tryz.underlying189
  a46 := Tryz.isAgg189
  z46 := Tryz.sizeOf189
  v46 := Tryz.zeroValue189
  t51 := Tryz.underlying50
  a51 := Tryz.isAgg50
  z51 := Tryz.sizeOf50
  v51 := Tryz.zeroValue50
  t146 := Tryz.underlying361
  a146 := Tryz.isAgg361
  z146 := Tryz.sizeOf361
  v146 := Tryz.zeroValue361
  g1 := by kernel_rfl }
def Tryz.layPu_ren : Go.Shelf.Ren := ⟨fun | 14 => 152 | 16 => 222 | 17 => 221 | 19 => 268 | 20 => 269 | 21 => 264 | 22 => 265 | 23 => 266 | 24 => 267 | 25 => 297 | 27 => 216 | 26 => 298 | 28 => 258 | 29 => 290 | 30 => 293 | 31 => 294 | 32 => 295 | 33 => 296 | 35 => 207 | 34 => 311 | 36 => 312 | 37 => 313 | 38 => 314 | 39 => 319 | 40 => 320 | n => n, fun | 9 => 9 | 3 => 3 | 22 => 22 | 24 => 216 | 25 => 219 | 4 => 4 | 34 => 313 | 5 => 5 | 36 => 189 | 37 => 238 | 0 => 0 | 39 => 316 | 21 => 21 | 44 => 339 | 47 => 332 | 50 => 355 | 48 => 353 | 2 => 2 | 52 => 333 | 55 => 335 | 59 => 351 | 60 => 50 | 20 => 20 | 61 => 352 | 65 => 363 | 66 => 364 | 67 => 312 | n => n, fun | 0 => 0 | 1 => 1 | 2 => 3 | 3 => 6 | 4 => 7 | n => n⟩
theorem Tryz.layPu : Go.Proofs.LaysPu.n14 Tryz.prog Tryz.layPu_ren := {
  mixed := by kernel_rfl
  f14 := Tryz.func152.trans (congrArg some (by kernel_rfl))
  f16 := Tryz.func222.trans (congrArg some (by kernel_rfl))
  f17 := Tryz.func221.trans (congrArg some (by kernel_rfl))
  f19 := Tryz.func268.trans (congrArg some (by kernel_rfl))
  f20 := Tryz.func269.trans (congrArg some (by kernel_rfl))
  f21 := Tryz.func264.trans (congrArg some (by kernel_rfl))
  f22 := Tryz.func265.trans (congrArg some (by kernel_rfl))
  f23 := Tryz.func266.trans (congrArg some (by kernel_rfl))
  f24 := Tryz.func267.trans (congrArg some (by kernel_rfl))
  f25 := Tryz.func297.trans (congrArg some (by kernel_rfl))
  f26 := Tryz.func298.trans (congrArg some (by kernel_rfl))
  f27 := Tryz.func216.trans (congrArg some (by kernel_rfl))
  f28 := Tryz.func258.trans (congrArg some (by kernel_rfl))
  f29 := Tryz.func290.trans (congrArg some (by kernel_rfl))
  f30 := Tryz.func293.trans (congrArg some (by kernel_rfl))
  f31 := Tryz.func294.trans (congrArg some (by kernel_rfl))
  f32 := Tryz.func295.trans (congrArg some (by kernel_rfl))
  f33 := Tryz.func296.trans (congrArg some (by kernel_rfl))
  f34 := Tryz.func311.trans (congrArg some (by kernel_rfl))
  f35 := Tryz.func207.trans (congrArg some (by kernel_rfl))
  f36 := Tryz.func312.trans (congrArg some (by kernel_rfl))
  f37 := Tryz.func313.trans (congrArg some (by kernel_rfl))
  f38 := Tryz.func314.trans (congrArg some (by kernel_rfl))
  f39 := Tryz.func319.trans (congrArg some (by kernel_rfl))
  f40 := Tryz.func320.trans (congrArg some (by kernel_rfl))
  t0 := Tryz.underlying0
  a0 := Tryz.isAgg0
  z0 := Tryz.sizeOf0
  v0 := Tryz.zeroValue0
  i0 := by kernel_rfl
  t2 := Tryz.underlying2
  a2 := Tryz.isAgg2
  z2 := Tryz.sizeOf2
  v2 := Tryz.zeroValue2
  i2 := by kernel_rfl
  t3 := Tryz.underlying3
  a3 := Tryz.isAgg3
  z3 := Tryz.sizeOf3
  v3 := Tryz.zeroValue3
  i3 := by kernel_rfl
  t4 := Tryz.underlying4
  a4 := Tryz.isAgg4
  z4 := Tryz.sizeOf4
  v4 := Tryz.zeroValue4
  i4 := by kernel_rfl
  t5 := Tryz.underlying5
  a5 := Tryz.isAgg5
  z5 := Tryz.sizeOf5
  v5 := Tryz.zeroValue5
  i5 := by kernel_rfl
  t9 := Tryz.underlying9
  a9 := Tryz.isAgg9
  z9 := Tryz.sizeOf9
  v9 := Tryz.zeroValue9
  i9 := by kernel_rfl
  t20 := Tryz.underlying20
  a20 := Tryz.isAgg20
  z20 := Tryz.sizeOf20
  v20 := Tryz.zeroValue20
  i20 := by kernel_rfl
  t21 := Tryz.underlying21
  a21 := Tryz.isAgg21
  z21 := Tryz.sizeOf21
  v21 := Tryz.zeroValue21
  i21 := by kernel_rfl
  t22 := Tryz.underlying22
  a22 := Tryz.isAgg22
  z22 := Tryz.sizeOf22
  v22 := Tryz.zeroValue22
  i22 := by kernel_rfl
  t24 := Tryz.underlying216
  a24 := Tryz.isAgg216
  z24 := Tryz.sizeOf216
  v24 := Tryz.zeroValue216
  i24 := by kernel_rfl
  t25 := Tryz.underlying219
  a25 := Tryz.isAgg219
  z25 := Tryz.sizeOf219
  v25 := Tryz.zeroValue219
  i25 := by kernel_rfl
  t34 := Tryz.underlying313
  a34 := Tryz.isAgg313
  z34 := Tryz.sizeOf313
  v34 := Tryz.zeroValue313
  i34 := by kernel_rfl
  c34 := by kernel_rfl
  t36 := Tryz.underlying189
  a36 := Tryz.isAgg189
  z36 := Tryz.sizeOf189
  v36 := Tryz.zeroValue189
  i36 := by kernel_rfl
  t37 := Tryz.underlying238
  a37 := Tryz.isAgg238
  z37 := Tryz.sizeOf238
  v37 := Tryz.zeroValue238
  i37 := by kernel_rfl
  t39 := Tryz.underlying316
  a39 := Tryz.isAgg316
  z39 := Tryz.sizeOf316
  v39 := Tryz.zeroValue316
  i39 := by kernel_rfl
  t44 := Tryz.underlying339
  a44 := Tryz.isAgg339
  z44 := Tryz.sizeOf339
  v44 := Tryz.zeroValue339
  i44 := by kernel_rfl
  t47 := Tryz.underlying332
  a47 := Tryz.isAgg332
  z47 := Tryz.sizeOf332
  v47 := Tryz.zeroValue332
  i47 := by kernel_rfl
  t48 := Tryz.underlying353
  a48 := Tryz.isAgg353
  z48 := Tryz.sizeOf353
  v48 := Tryz.zeroValue353
  i48 := by kernel_rfl
  t50 := Tryz.underlying355
  a50 := Tryz.isAgg355
  z50 := Tryz.sizeOf355
  v50 := Tryz.zeroValue355
  i50 := by kernel_rfl
  t52 := Tryz.underlying333
  a52 := Tryz.isAgg333
  z52 := Tryz.sizeOf333
  v52 := Tryz.zeroValue333
  i52 := by kernel_rfl
  t55 := Tryz.underlying335
  a55 := Tryz.isAgg335
  z55 := Tryz.sizeOf335
  v55 := Tryz.zeroValue335
  i55 := by kernel_rfl
  t59 := Tryz.underlying351
  a59 := Tryz.isAgg351
  z59 := Tryz.sizeOf351
  v59 := Tryz.zeroValue351
  i59 := by kernel_rfl
  t60 := Tryz.underlying50
  a60 := Tryz.isAgg50
  z60 := Tryz.sizeOf50
  v60 := Tryz.zeroValue50
  i60 := by kernel_rfl
  t61 := Tryz.underlying352
  a61 := Tryz.isAgg352
  z61 := Tryz.sizeOf352
  t65 := Tryz.underlying363
  a65 := Tryz.isAgg363
  z65 := Tryz.sizeOf363
  v65 := Tryz.zeroValue363
  i65 := by kernel_rfl
  t66 := Tryz.underlying364
  a66 := Tryz.isAgg364
  z66 := Tryz.sizeOf364
  v66 := Tryz.zeroValue364
  i66 := by kernel_rfl
  t67 := Tryz.underlying312
  a67 := Tryz.isAgg312
  z67 := Tryz.sizeOf312
  v67 := Tryz.zeroValue312
  i67 := by kernel_rfl
  g0 := by kernel_rfl
  m0 := by kernel_rfl
  g1 := by kernel_rfl
  m1 := by kernel_rfl
  g2 := by kernel_rfl
  m2 := by kernel_rfl
  g3 := by kernel_rfl
  m3 := by kernel_rfl
  g4 := by kernel_rfl
  m4 := by kernel_rfl }
end Go.Proofs
end
section
namespace Go.Proofs.T
open Go Go.Proofs Go.Shelf Go.RowKit Go.Sort Go.Lib
theorem zero0 (w : World) (T : TypeId) (nd : Nat) (hs : nd ≤ 24) : Holds (fun (b : UInt8) => Value.int .u8 (b.toNat : Int)) (w.alloc (.cells zeros24 T)) w.heap.size 0 (Array.replicate nd (0 : UInt8)) := fun j hj => by
  have hj' : j < nd := by simpa using hj
  refine ⟨?_, World.frozen?_alloc_new _ _ _ _⟩
  rw [World.cell?_alloc_new, zeros24_at _ (by omega), getElem!_pos _ j hj]
  simp
theorem fin0 (w : World) (o : Obj) (dk : Array UInt8) (k : Nat) : ∃ os, (putRow (fun (b : UInt8) => Value.int .u8 (b.toNat : Int)) (w.alloc o) w.heap.size 0 dk).drewN k = grow (w.drewN k) os := by
  rw [alloc_eq_grow]
  obtain ⟨os', _, e⟩ := putRow_grow_new (fun (b : UInt8) => Value.int .u8 (b.toNat : Int)) w #[o] w.heap.size 0 dk (Nat.le_refl _)
  exact ⟨os', by rw [e]; rfl⟩
set_option maxHeartbeats 6400000 in
set_option maxRecDepth 100000 in
theorem fmtU_in (u : Nat) (hu64 : u < 18446744073709551616) (w : World) (htab : Lib.TabIs Tryz.prog w "internal/strconv.uint64pow10" .u64 Lib.pow10Tab) :
    Calls Tryz.prog 262 #[.int .u64 u, .int .i64 10] w fun e w' => e = .returned (.string ⟨(Lib.decDigits u).toArray⟩) ∧ ∃ k os, w' = grow (w.drewN k) os := by
  have L := Tryz.layItoa
  have e293 : ∀ args w, (callFunc 293 args).run Tryz.prog w = .ok (.enter 293 args) w := enters_of Tryz.func293 (by kernel_rfl) rfl
  have e294 : ∀ args w, (callFunc 294 args).run Tryz.prog w = .ok (.enter 294 args) w := enters_of Tryz.func294 (by kernel_rfl) rfl
  have e295 : ∀ args w, (callFunc 295 args).run Tryz.prog w = .ok (.enter 295 args) w := enters_of Tryz.func295 (by kernel_rfl) rfl
  by_cases hs : u < 100
  · go_enter Tryz.func262, Tryz.ntmps262
    go_wp2_with (go_at_fn 293; refine (Any.internal_strconv_small { L with } u hs _).mono ?_; rintro e w' ⟨rfl, rfl⟩)
    go_ret
    exact ⟨rfl, 0, #[], by simp [World.drewN_zero]⟩
  · have hu1 : 1 ≤ u := by omega
    have hnd20 : Lib.nDigits u ≤ 20 := by have := Lib.numDigits_eq u hu1 hu64; split at this <;> omega
    have hal : Tryz.prog.arrayLen 333 = 24 := by simp [Program.arrayLen, Tryz.underlying333]
    have hsl1 : ∀ W, (Instr.sliceAt 333 (.pointer (some ⟨w.heap.size, 0, none⟩)) none (some (.int .i64 (Lib.nDigits u : Int))) none).run Tryz.prog W = .ok (.slice (some ⟨w.heap.size, 0, none⟩) (Lib.nDigits u) 24) W := fun W => by
      rw [run_sliceAt_array_h W 333 ⟨w.heap.size, 0, none⟩ (by simp [Program.arrayLen, Program.elem, Tryz.underlying333]) .i64 (Lib.nDigits u : Int) (by omega) (by rw [hal]; omega)]
      go_simp
      try omega
    have hH0 := zero0 w 333 (Lib.nDigits u) (by omega)
    have hfmt := Any.internal_strconv_formatBase10 { L with } w.heap.size 0 24 u (Array.replicate (Lib.nDigits u) 0) (w.alloc (.cells Lib.zeros24 333)) hH0 (by rw [Array.size_replicate]; exact Lib.lt_pow_nDigits u) hu64 (by rw [Array.size_replicate]; omega)
    rw [Array.size_replicate] at hfmt
    have HH0 := Lib.hid hH0
    clear hH0 hal
    go_enter Tryz.func262, Tryz.ntmps262
    go_wp2_with (first
      | (go_at_fn 294; refine (Any.internal_strconv_numDigits { L with } u hu1 hu64 _ (Lib.tabIs_alloc htab _)).mono ?_; rintro e w' ⟨rfl, rfl⟩))
    go_at_fn 295
    refine hfmt.mono ?_
    rintro e w' ⟨rfl, k, v', dk, rfl, hF⟩
    have hcv : (convert 238 9 (.slice (some ⟨w.heap.size, 0, none⟩) (Lib.nDigits u) 24)).run Tryz.prog ((putRow (fun (b : UInt8) => Value.int .u8 (b.toNat : Int)) (w.alloc (.cells Lib.zeros24 333)) w.heap.size 0 dk).drewN k) = .ok (.string ⟨(Lib.decDigits u).toArray⟩) ((putRow (fun (b : UInt8) => Value.int .u8 (b.toNat : Int)) (w.alloc (.cells Lib.zeros24 333)) w.heap.size 0 dk).drewN k) := by
      have h := run_convert_bytes_back (P := Tryz.prog) ((putRow (fun (b : UInt8) => Value.int .u8 (b.toNat : Int)) (w.alloc (.cells Lib.zeros24 333)) w.heap.size 0 dk).drewN k) 238 9 5 ⟨w.heap.size, 0, none⟩ 24 (Lib.decDigits u) Tryz.underlying238 Tryz.underlying5 Tryz.underlying9 (fun j hj => by
        rw [Lib.row_is_numeral hF j hj, Lib.add_plain, World.cell?_drewN]
        exact cell?_putRow (fun (b : UInt8) => Value.int .u8 (b.toNat : Int)) _ w.heap.size 0 _ dk HH0.out (by rw [hF.size, Array.size_replicate]) j (by rw [hF.size]; rw [Lib.decDigits_length] at hj; exact hj))
      rw [Lib.decDigits_length] at h
      exact h
    go_wp2
    go_ret
    obtain ⟨os, eo⟩ := fin0 w (.cells Lib.zeros24 333) dk k
    exact ⟨rfl, k, os, eo⟩
end Go.Proofs.T
end
section
namespace Go.Proofs.T
open Go Go.Lib
def dig (c : UInt8) : Bool := decide (48 ≤ c.toNat) && decide (c.toNat ≤ 57)
theorem index_hit : ∀ (a s : List UInt8), (32 : UInt8) ∉ a → index (a ++ 32 :: s) [32] = (a.length : Int)
  | [], s, _ => by simp [index]
  | c :: a, s, h => by
    have hc : c ≠ 32 := fun e => h (by simp [e])
    have ih := index_hit a s (fun e => h (by simp [e]))
    simp only [List.cons_append, index]
    rw [if_neg (by simp [Ne.symm hc]), ih, if_neg (by simp)]
    simp
theorem index_miss : ∀ (a : List UInt8), (32 : UInt8) ∉ a → index a [32] = -1
  | [], _ => by simp [index]
  | c :: a, h => by
    have hc : c ≠ 32 := fun e => h (by simp [e])
    have ih := index_miss a (fun e => h (by simp [e]))
    simp only [index]
    rw [if_neg (by simp [Ne.symm hc]), ih, if_pos (by simp)]
theorem split_one {a : List UInt8} (h : (32 : UInt8) ∉ a) : split a [32] = [a] := by
  unfold split; rw [count_miss (index_miss a h)]; rfl
theorem split_cons {a s : List UInt8} (h : (32 : UInt8) ∉ a) : split (a ++ 32 :: s) [32] = a :: split s [32] := by
  have hi := index_hit a s h
  have hd : (a ++ 32 :: s).drop (a.length + [(32 : UInt8)].length) = s := by
    rw [← List.drop_drop, List.drop_left]; rfl
  unfold split
  rw [count_hit (by simp) hi, hd, Nat.add_comm, splitK, hi, if_neg (by simp)]
  simp only [Int.toNat_natCast, Nat.add_zero, List.take_left]
  rw [hd]
end Go.Proofs.T
end
section
namespace Go.AM
open Go Go.Lib
attribute [go_sem] List.size_toArray List.take_length List.drop_zero
end Go.AM
end
section
namespace Go.Proofs.T
open Go Go.Lib Go.AM
def nmL : List (List UInt8) := [[], [99, 111, 110, 102, 105, 103], [115, 104, 97, 112, 101], [99, 108, 111, 99, 107], [111, 114, 100, 101, 114], [105, 100], [103, 114, 111, 117, 112], [99, 112, 117], [109, 97, 115, 107], [112, 108, 97, 99, 101], [116, 97, 115, 107], [115, 112, 111, 116], [114, 111, 111, 116], [99, 117, 114, 114, 101, 110, 116], [102, 108, 111, 111, 114], [98, 97, 99, 107], [102, 101, 108, 108], [111, 116, 104, 101, 114]]
def nm (r : Nat) : List UInt8 := nmL.getD r []
end Go.Proofs.T
end
section
namespace Go.Proofs.T
open Go Go.AM Go.Proofs Go.Lib
set_option maxRecDepth 20000
variable {Γ : List (Nat × List AVal)}
structure GT (Γ : List (Nat × List AVal)) : Prop where
  pow : AM.look Γ 3 = some (Lib.pow10Tab.map fun z => .lit (.int .u64 z))
  errS : ∃ te pe, AM.look Γ 0 = some [.lit (.iface te pe)]
  errR : ∃ te pe, AM.look Γ 1 = some [.lit (.iface te pe)]
  maxL : ∃ m, AM.look Γ 2 = some [.lit (.int .i64 m)]
theorem itoa_c (hG : GT Γ) (n : Int) (h0 : -9223372036854775808 ≤ n) (h1 : n ≤ 9223372036854775807) : Pure Tryz.prog Γ 216 [.lit (.int .i64 n)] (.lit (.string (ByteArray.mk (itoa n).toArray))) :=
  Pure_Itoa (g := 3) Tryz.layItoa (by kernel_rfl) hG.pow n h0 h1
theorem atoi_c (hG : GT Γ) (l : List UInt8) (hl : l.length ≤ 281474976710656) : Pure Tryz.prog Γ 150 [.lit (.string (ByteArray.mk l.toArray))] (.tup [.lit (.int .i64 (atoiV l)), .junk]) := by
  obtain ⟨te, pe, h1⟩ := hG.errS
  obtain ⟨te', pe', h2⟩ := hG.errR
  exact Pure_Atoi Tryz.layAtoi h1 h2 l hl
theorem split_c (hG : GT Γ) (l : List UInt8) (hl : l.length < 4294967281) : Pure Tryz.prog Γ 144 [.lit (.string (ByteArray.mk l.toArray)), .lit (.string (ByteArray.mk [(32 : UInt8)].toArray))] (strs (split l [32])) := by
  obtain ⟨m, h1⟩ := hG.maxL
  exact Pure_Split Tryz.laySplit (by kernel_rfl) h1 l [32] hl (by simp)
end Go.Proofs.T
end
section
namespace Go.AM
open Go
def digF : Nat → Nat → List UInt8
  | 0, _ => []
  | f + 1, u => match Nat.blt u 10 with
    | true => [UInt8.ofNat (48 + u)]
    | false => digF f (u / 10) ++ [UInt8.ofNat (48 + u % 10)]
theorem digF_dec : ∀ (f u : Nat), u < 10 ^ (f + 1) → digF (f + 1) u = Lib.decDigits u
  | f, u, h => by
    rw [digF, Lib.decDigits]
    by_cases hu : u < 10
    · rw [dif_pos hu, show Nat.blt u 10 = true from by rw [Nat.blt_eq]; exact hu]
    · rw [dif_neg hu, show Nat.blt u 10 = false from by rw [Bool.eq_false_iff, ne_eq, Nat.blt_eq]; exact hu]
      simp only
      cases f with
      | zero => simp at h; omega
      | succ f => rw [digF_dec f (u / 10) (by rw [Nat.pow_succ] at h; omega)]
def itoF (n : Int) : List UInt8 := match n with
  | .ofNat u => digF 20 u
  | .negSucc u => 45 :: digF 20 (u + 1)
def wordsF : List UInt8 → List (List UInt8)
  | [] => [[]]
  | c :: r => match c.toNat == 32, wordsF r with
    | true, ws => [] :: ws
    | false, w :: ws => (c :: w) :: ws
    | false, [] => [[c]]
end Go.AM
end
section
namespace Go.AM
open Go
section
variable {P : Program} {Γ : List (Nat × List AVal)} {o : Oper} {ev ev' : Operand → Option AVal} {get : Nat → Option Blk} {k : Nat}
theorem Good.evs {out : Out} (h : ∀ x v, ev' x = some v → ∃ u, ev x = some u ∧ VLe u v) (hg : Good P Γ o ev' get k out) : Good P Γ o ev get k out :=
  ⟨fun w G ρ H A a hr hA hf hrd hop => hg.ok w G ρ H A a hr hA hf hrd (fun x hx v hv => by
    obtain ⟨u, hu, hl⟩ := h x v hv
    exact hl _ _ _ _ _ (hop x hx u hu)), hg.rds, hg.le⟩
theorem deS_le (v : AVal) : VLe v (deS v) := fun w G ρ A cv h => deS_V h
theorem bsl0_good {t s by' : Nat} {zrow : List AVal} (ho : o.op = .buildSlice t 0 #[]) (hz : ezero P t = some (s, by', zrow)) : Good P Γ o ev get k ⟨.slc k 0 0 0, k + 1, [(k, some ⟨s, true, []⟩)], []⟩ := by
  refine ⟨fun w G ρ H A a hr hA hf hrd hop next Q hn => ?_, fun i hi => by simp at hi, Nat.le_succ _⟩
  obtain ⟨e, i, hu, hi⟩ : ∃ e i, P.underlying t = some (.slice e) ∧ P.info? e = some i := by
    unfold ezero at hz
    split at hz
    · rename_i e hu
      split at hz
      · rename_i i hi
        exact ⟨e, i, hu, hi⟩
      · cases hz
    · cases hz
  have hrun : (execOp a.eval o).run P w = .ok (.value (.slice (some ⟨w.heap.size, 0, none⟩) 0 0)) (w.alloc (.cells #[] e)) := by
    simp [execOp, ho, Instr.buildSlice, underlying, hu, sizeOf, typeInfo, hi, newRow, Instr.fill]
    congr 2
    exact Array.ext (by simp) (fun i h1 h2 => by simp at h2)
  have hkA : ¬ A k := fun hk => Nat.lt_irrefl _ (hA k hk)
  obtain ⟨hρ, hfr⟩ := hf k (Nat.le_refl _) (Nat.lt_succ_self _)
  have hrel := hr.alloc k hρ hfr ⟨s, true, []⟩ #[] e A (fun i => A i ∨ (k ≤ i ∧ i < k + 1)) hkA (fun _ h => .inl h) (.inr ⟨Nat.le_refl _, Nat.lt_succ_self _⟩) (fun r row h => by simp at h) (fun r row c v h => by simp at h) w rfl rfl rfl rfl
  have hst := step_alloc (w := w) (G := G) (ρ := ρ) k s (.cells #[] e) w rfl rfl rfl rfl
  unfold Oper.wp
  rw [hrun]
  refine hn _ G _ _ hrel (.slc (b := w.heap.size) (s := s) (ty := e) (m := 0) (.inr ⟨Nat.le_refl _, Nat.lt_succ_self _⟩) (by simp [setN]) ?_ (by simp) (Nat.le_refl _) (by unfold maxLen; omega) (.inl rfl)) ⟨hst.size, hst.keep, hst.shape, hst.g, hst.g', hst.own, fun id hid => hst.ids id (fun he => hid (show k ≤ id ∧ id < k + 1 by omega)), hst.os, hst.tape, hst.output⟩
  have := heap_push_new w (.cells #[] e)
  unfold World.shape?
  rw [this]; rfl
end
def srcNo (get : Nat → Option Blk) : AVal → Option (List Nat)
  | .sl id r 0 => match get id with
    | some B => match Nat.ble r B.rows.length with
      | true => some [id]
      | false => none
    | none => none
  | .rd _ 0 _ => some []
  | .lit (.slice none 0 0) => some []
  | _ => none
def slcOp (P : Program) (Γ : List (Nat × List AVal)) (o : Oper) (ev : Operand → Option AVal) (get : Nat → Option Blk) (k : Nat) : Option Out :=
  match (match o.op with
  | .buildSlice t 0 parts => match parts.toList, ezero P t with
    | [], some (s, _, _) => some ⟨.slc k 0 0 0, k + 1, [(k, some ⟨s, true, []⟩)], []⟩
    | _, _ => none
  | .binOp .eql t x y _ => match ev x, ev y, P.underlying t with
    | some (.slc id _ _ _), some (.lit (.slice none 0 0)), some (.slice _) => match get id with
      | some _ => some ⟨.lit (.bool false), k, [], [id]⟩
      | none => none
    | _, _, _ => none
  | .call { callee := .builtin .append, args := args, argTypes := ty } => match args.toList, ty.toList with
    | [x, y], [t, t'] => match Nat.beq t t', ezero P t, ev x, ev y with
      | true, some _, some (.slc id r n c), some v => match get id, srcNo get (deS v) with
        | some _, some ids => some ⟨.slc id r n c, k, [], id :: ids⟩
        | _, _ => none
      | _, _, _, _ => none
    | _, _ => none
  | _ => (none : Option Out)) with
  | some out => some out
  | none => match aop P Γ o ev get k with
    | some out => some out
    | none => aop P Γ o (fun x => (ev x).map deS) get k
section
variable {P : Program} {Γ : List (Nat × List AVal)} {o : Oper} {ev : Operand → Option AVal} {get : Nat → Option Blk} {k : Nat}
theorem srcNo_ok {v : AVal} {ids : List Nat} (h : srcNo get v = some ids) : ∃ s rows p, SrcA get v s 0 rows p ids := by
  unfold srcNo at h
  split at h
  · rename_i id r
    split at h
    · rename_i B hB
      split at h
      · rename_i hr
        cases h
        exact ⟨_, _, _, .sl hB (Nat.le_of_ble_eq_true hr)⟩
      · cases h
    · cases h
  · cases h; exact ⟨_, _, _, .rd⟩
  · cases h; exact ⟨_, _, _, .nil⟩
  · cases h
theorem slcOp_good {out : Out} (h : slcOp P Γ o ev get k = some out) : Good P Γ o ev get k out := by
  unfold slcOp at h
  split at h
  · rename_i out' h1
    cases h
    split at h1
    · rename_i t parts ho
      split at h1
      · rename_i s b z hp hz
        cases h1
        obtain rfl : parts = #[] := Array.ext' hp
        exact bsl0_good ho hz
      · cases h1
    · rename_i t x y ty ho
      split at h1
      · rename_i id r n c e hx hy hu
        split at h1
        · rename_i B hB
          cases h1
          exact slcNil_good ho hu hx hB hy
        · cases h1
      · cases h1
    · rename_i args ty ho
      split at h1
      · rename_i x y t t' ha ht
        split at h1
        · rename_i z id r n c v hb hz hx hy
          split at h1
          · rename_i B ids hB hs
            cases h1
            obtain ⟨s', rows, p, hsrc⟩ := srcNo_ok hs
            obtain rfl : args = #[x, y] := Array.ext' ha
            obtain rfl : ty = #[t, t'] := Array.ext' ht
            obtain rfl := Nat.eq_of_beq_eq_true hb
            obtain ⟨s, b, zr⟩ := z
            exact app0_good ho hz hx hB hy hsrc
          · cases h1
        · cases h1
      · cases h1
    · cases h1
  · split at h
    · rename_i h2
      cases h; exact aop_good h2
    · refine Good.evs (fun x v hv => ?_) (aop_good h)
      simp only [Option.map_eq_some_iff] at hv
      obtain ⟨u, hu, rfl⟩ := hv
      exact ⟨u, hu, deS_le u⟩
end
end Go.AM
end
