import Derived.Test.YtegccfgfddpmpaaGreatDoorZAO
import Derived.KernelRfl

section
set_option linter.unusedVariables false
set_option linter.unusedSimpArgs false
namespace Go.Proofs.T
open Go Go.AM Go.Proofs
set_option linter.unusedVariables false
variable {Γ : List (Nat × List AVal)}
section
variable (p q : Int) (g0 g1 g2 : Int × Int) (k0 k1 u0 u1 u2 : Int) (t0 t1 t2 : Tk) (a b c d e f : Sp)
theorem spLu_0 : SpEq Γ (Lu p q g0 g1 g2 k0 k1 u0 u1 u2 t0 t1 t2 a b c d e f) 0 := by unfold SpEq; kernel_rfl
theorem spLu_1 : SpEq Γ (Lu p q g0 g1 g2 k0 k1 u0 u1 u2 t0 t1 t2 a b c d e f) 1 := by unfold SpEq; kernel_rfl
theorem spLu_2 : SpEq Γ (Lu p q g0 g1 g2 k0 k1 u0 u1 u2 t0 t1 t2 a b c d e f) 2 := by unfold SpEq; kernel_rfl
theorem spLu_3 : SpEq Γ (Lu p q g0 g1 g2 k0 k1 u0 u1 u2 t0 t1 t2 a b c d e f) 3 := by unfold SpEq; kernel_rfl
theorem spLu_4 : SpEq Γ (Lu p q g0 g1 g2 k0 k1 u0 u1 u2 t0 t1 t2 a b c d e f) 4 := by unfold SpEq; kernel_rfl
theorem spLu_5 : SpEq Γ (Lu p q g0 g1 g2 k0 k1 u0 u1 u2 t0 t1 t2 a b c d e f) 5 := by unfold SpEq; kernel_rfl
theorem spLu_6 : SpEq Γ (Lu p q g0 g1 g2 k0 k1 u0 u1 u2 t0 t1 t2 a b c d e f) 6 := by unfold SpEq; kernel_rfl
theorem spLu_7 : SpEq Γ (Lu p q g0 g1 g2 k0 k1 u0 u1 u2 t0 t1 t2 a b c d e f) 7 := by unfold SpEq; kernel_rfl
theorem spLu_8 : SpEq Γ (Lu p q g0 g1 g2 k0 k1 u0 u1 u2 t0 t1 t2 a b c d e f) 8 := by unfold SpEq; kernel_rfl
theorem spLu_9 : SpEq Γ (Lu p q g0 g1 g2 k0 k1 u0 u1 u2 t0 t1 t2 a b c d e f) 9 := by unfold SpEq; kernel_rfl
theorem spLu_10 : SpEq Γ (Lu p q g0 g1 g2 k0 k1 u0 u1 u2 t0 t1 t2 a b c d e f) 10 := by unfold SpEq; kernel_rfl
theorem spLu_11 : SpEq Γ (Lu p q g0 g1 g2 k0 k1 u0 u1 u2 t0 t1 t2 a b c d e f) 11 := by unfold SpEq; kernel_rfl
theorem spLu_12 : SpEq Γ (Lu p q g0 g1 g2 k0 k1 u0 u1 u2 t0 t1 t2 a b c d e f) 12 := by unfold SpEq; kernel_rfl
theorem spLu_13 : SpEq Γ (Lu p q g0 g1 g2 k0 k1 u0 u1 u2 t0 t1 t2 a b c d e f) 13 := by unfold SpEq; kernel_rfl
theorem spLu_14 : SpEq Γ (Lu p q g0 g1 g2 k0 k1 u0 u1 u2 t0 t1 t2 a b c d e f) 14 := by unfold SpEq; kernel_rfl
theorem spLu_15 : SpEq Γ (Lu p q g0 g1 g2 k0 k1 u0 u1 u2 t0 t1 t2 a b c d e f) 15 := by unfold SpEq; kernel_rfl
theorem spLu_16 : SpEq Γ (Lu p q g0 g1 g2 k0 k1 u0 u1 u2 t0 t1 t2 a b c d e f) 16 := by unfold SpEq; kernel_rfl
theorem spLu_17 : SpEq Γ (Lu p q g0 g1 g2 k0 k1 u0 u1 u2 t0 t1 t2 a b c d e f) 17 := by unfold SpEq; kernel_rfl
theorem spLu_18 : SpEq Γ (Lu p q g0 g1 g2 k0 k1 u0 u1 u2 t0 t1 t2 a b c d e f) 18 := by unfold SpEq; kernel_rfl
theorem spLu_19 : SpEq Γ (Lu p q g0 g1 g2 k0 k1 u0 u1 u2 t0 t1 t2 a b c d e f) 19 := by unfold SpEq; kernel_rfl
theorem spLu_20 : SpEq Γ (Lu p q g0 g1 g2 k0 k1 u0 u1 u2 t0 t1 t2 a b c d e f) 20 := by unfold SpEq; kernel_rfl
theorem spLu_21 : SpEq Γ (Lu p q g0 g1 g2 k0 k1 u0 u1 u2 t0 t1 t2 a b c d e f) 21 := by unfold SpEq; kernel_rfl
theorem spLu_22 : SpEq Γ (Lu p q g0 g1 g2 k0 k1 u0 u1 u2 t0 t1 t2 a b c d e f) 22 := by unfold SpEq; kernel_rfl
theorem spLu_23 : SpEq Γ (Lu p q g0 g1 g2 k0 k1 u0 u1 u2 t0 t1 t2 a b c d e f) 23 := by unfold SpEq; kernel_rfl
theorem spLu_24 : SpEq Γ (Lu p q g0 g1 g2 k0 k1 u0 u1 u2 t0 t1 t2 a b c d e f) 24 := by unfold SpEq; kernel_rfl
theorem spLu_25 : SpEq Γ (Lu p q g0 g1 g2 k0 k1 u0 u1 u2 t0 t1 t2 a b c d e f) 25 := by unfold SpEq; kernel_rfl
theorem spLu_26 : SpEq Γ (Lu p q g0 g1 g2 k0 k1 u0 u1 u2 t0 t1 t2 a b c d e f) 26 := by unfold SpEq; kernel_rfl
theorem spLu_27 : SpEq Γ (Lu p q g0 g1 g2 k0 k1 u0 u1 u2 t0 t1 t2 a b c d e f) 27 := by unfold SpEq; kernel_rfl
theorem spLu_28 : SpEq Γ (Lu p q g0 g1 g2 k0 k1 u0 u1 u2 t0 t1 t2 a b c d e f) 28 := by unfold SpEq; kernel_rfl
theorem spLu_29 : SpEq Γ (Lu p q g0 g1 g2 k0 k1 u0 u1 u2 t0 t1 t2 a b c d e f) 29 := by unfold SpEq; kernel_rfl
theorem spLu_30 : SpEq Γ (Lu p q g0 g1 g2 k0 k1 u0 u1 u2 t0 t1 t2 a b c d e f) 30 := by unfold SpEq; kernel_rfl
theorem spLu_31 : SpEq Γ (Lu p q g0 g1 g2 k0 k1 u0 u1 u2 t0 t1 t2 a b c d e f) 31 := by unfold SpEq; kernel_rfl
theorem spLu_32 : SpEq Γ (Lu p q g0 g1 g2 k0 k1 u0 u1 u2 t0 t1 t2 a b c d e f) 32 := by unfold SpEq; kernel_rfl
theorem spLu_33 : SpEq Γ (Lu p q g0 g1 g2 k0 k1 u0 u1 u2 t0 t1 t2 a b c d e f) 33 := by unfold SpEq; kernel_rfl
theorem spLu_34 : SpEq Γ (Lu p q g0 g1 g2 k0 k1 u0 u1 u2 t0 t1 t2 a b c d e f) 34 := by unfold SpEq; kernel_rfl
theorem spLu_35 : SpEq Γ (Lu p q g0 g1 g2 k0 k1 u0 u1 u2 t0 t1 t2 a b c d e f) 35 := by unfold SpEq; kernel_rfl
theorem spLu_36 : SpEq Γ (Lu p q g0 g1 g2 k0 k1 u0 u1 u2 t0 t1 t2 a b c d e f) 36 := by unfold SpEq; kernel_rfl
theorem spLu_37 : SpEq Γ (Lu p q g0 g1 g2 k0 k1 u0 u1 u2 t0 t1 t2 a b c d e f) 37 := by unfold SpEq; kernel_rfl
theorem spLu_38 : SpEq Γ (Lu p q g0 g1 g2 k0 k1 u0 u1 u2 t0 t1 t2 a b c d e f) 38 := by unfold SpEq; kernel_rfl
theorem spLu_39 : SpEq Γ (Lu p q g0 g1 g2 k0 k1 u0 u1 u2 t0 t1 t2 a b c d e f) 39 := by unfold SpEq; kernel_rfl
end
theorem spLu (p q : Int) (g0 g1 g2 : Int × Int) (k0 k1 u0 u1 u2 : Int) (t0 t1 t2 : Tk) (a b c d e f : Sp) (w : Nat) (hw : w < 40) : SpEq Γ (Lu p q g0 g1 g2 k0 k1 u0 u1 u2 t0 t1 t2 a b c d e f) w :=
  upto40 (spLu_0 _ _ _ _ _ _ _ _ _ _ _ _ _ _ _ _ _ _ _) (spLu_1 _ _ _ _ _ _ _ _ _ _ _ _ _ _ _ _ _ _ _) (spLu_2 _ _ _ _ _ _ _ _ _ _ _ _ _ _ _ _ _ _ _) (spLu_3 _ _ _ _ _ _ _ _ _ _ _ _ _ _ _ _ _ _ _) (spLu_4 _ _ _ _ _ _ _ _ _ _ _ _ _ _ _ _ _ _ _) (spLu_5 _ _ _ _ _ _ _ _ _ _ _ _ _ _ _ _ _ _ _) (spLu_6 _ _ _ _ _ _ _ _ _ _ _ _ _ _ _ _ _ _ _) (spLu_7 _ _ _ _ _ _ _ _ _ _ _ _ _ _ _ _ _ _ _) (spLu_8 _ _ _ _ _ _ _ _ _ _ _ _ _ _ _ _ _ _ _) (spLu_9 _ _ _ _ _ _ _ _ _ _ _ _ _ _ _ _ _ _ _) (spLu_10 _ _ _ _ _ _ _ _ _ _ _ _ _ _ _ _ _ _ _) (spLu_11 _ _ _ _ _ _ _ _ _ _ _ _ _ _ _ _ _ _ _) (spLu_12 _ _ _ _ _ _ _ _ _ _ _ _ _ _ _ _ _ _ _) (spLu_13 _ _ _ _ _ _ _ _ _ _ _ _ _ _ _ _ _ _ _) (spLu_14 _ _ _ _ _ _ _ _ _ _ _ _ _ _ _ _ _ _ _) (spLu_15 _ _ _ _ _ _ _ _ _ _ _ _ _ _ _ _ _ _ _) (spLu_16 _ _ _ _ _ _ _ _ _ _ _ _ _ _ _ _ _ _ _) (spLu_17 _ _ _ _ _ _ _ _ _ _ _ _ _ _ _ _ _ _ _) (spLu_18 _ _ _ _ _ _ _ _ _ _ _ _ _ _ _ _ _ _ _) (spLu_19 _ _ _ _ _ _ _ _ _ _ _ _ _ _ _ _ _ _ _) (spLu_20 _ _ _ _ _ _ _ _ _ _ _ _ _ _ _ _ _ _ _) (spLu_21 _ _ _ _ _ _ _ _ _ _ _ _ _ _ _ _ _ _ _) (spLu_22 _ _ _ _ _ _ _ _ _ _ _ _ _ _ _ _ _ _ _) (spLu_23 _ _ _ _ _ _ _ _ _ _ _ _ _ _ _ _ _ _ _) (spLu_24 _ _ _ _ _ _ _ _ _ _ _ _ _ _ _ _ _ _ _) (spLu_25 _ _ _ _ _ _ _ _ _ _ _ _ _ _ _ _ _ _ _) (spLu_26 _ _ _ _ _ _ _ _ _ _ _ _ _ _ _ _ _ _ _) (spLu_27 _ _ _ _ _ _ _ _ _ _ _ _ _ _ _ _ _ _ _) (spLu_28 _ _ _ _ _ _ _ _ _ _ _ _ _ _ _ _ _ _ _) (spLu_29 _ _ _ _ _ _ _ _ _ _ _ _ _ _ _ _ _ _ _) (spLu_30 _ _ _ _ _ _ _ _ _ _ _ _ _ _ _ _ _ _ _) (spLu_31 _ _ _ _ _ _ _ _ _ _ _ _ _ _ _ _ _ _ _) (spLu_32 _ _ _ _ _ _ _ _ _ _ _ _ _ _ _ _ _ _ _) (spLu_33 _ _ _ _ _ _ _ _ _ _ _ _ _ _ _ _ _ _ _) (spLu_34 _ _ _ _ _ _ _ _ _ _ _ _ _ _ _ _ _ _ _) (spLu_35 _ _ _ _ _ _ _ _ _ _ _ _ _ _ _ _ _ _ _) (spLu_36 _ _ _ _ _ _ _ _ _ _ _ _ _ _ _ _ _ _ _) (spLu_37 _ _ _ _ _ _ _ _ _ _ _ _ _ _ _ _ _ _ _) (spLu_38 _ _ _ _ _ _ _ _ _ _ _ _ _ _ _ _ _ _ _) (spLu_39 _ _ _ _ _ _ _ _ _ _ _ _ _ _ _ _ _ _ _) w hw
section
variable (p q : Int) (g0 g1 g2 : Int × Int) (k0 k1 u0 u1 : Int) (t0 t1 t2 : Tk) (a b c d e f h : Sp)
theorem spLs_0 : SpEq Γ (Ls p q g0 g1 g2 k0 k1 u0 u1 t0 t1 t2 a b c d e f h) 0 := by unfold SpEq; kernel_rfl
theorem spLs_1 : SpEq Γ (Ls p q g0 g1 g2 k0 k1 u0 u1 t0 t1 t2 a b c d e f h) 1 := by unfold SpEq; kernel_rfl
theorem spLs_2 : SpEq Γ (Ls p q g0 g1 g2 k0 k1 u0 u1 t0 t1 t2 a b c d e f h) 2 := by unfold SpEq; kernel_rfl
theorem spLs_3 : SpEq Γ (Ls p q g0 g1 g2 k0 k1 u0 u1 t0 t1 t2 a b c d e f h) 3 := by unfold SpEq; kernel_rfl
theorem spLs_4 : SpEq Γ (Ls p q g0 g1 g2 k0 k1 u0 u1 t0 t1 t2 a b c d e f h) 4 := by unfold SpEq; kernel_rfl
theorem spLs_5 : SpEq Γ (Ls p q g0 g1 g2 k0 k1 u0 u1 t0 t1 t2 a b c d e f h) 5 := by unfold SpEq; kernel_rfl
theorem spLs_6 : SpEq Γ (Ls p q g0 g1 g2 k0 k1 u0 u1 t0 t1 t2 a b c d e f h) 6 := by unfold SpEq; kernel_rfl
theorem spLs_7 : SpEq Γ (Ls p q g0 g1 g2 k0 k1 u0 u1 t0 t1 t2 a b c d e f h) 7 := by unfold SpEq; kernel_rfl
theorem spLs_8 : SpEq Γ (Ls p q g0 g1 g2 k0 k1 u0 u1 t0 t1 t2 a b c d e f h) 8 := by unfold SpEq; kernel_rfl
theorem spLs_9 : SpEq Γ (Ls p q g0 g1 g2 k0 k1 u0 u1 t0 t1 t2 a b c d e f h) 9 := by unfold SpEq; kernel_rfl
theorem spLs_10 : SpEq Γ (Ls p q g0 g1 g2 k0 k1 u0 u1 t0 t1 t2 a b c d e f h) 10 := by unfold SpEq; kernel_rfl
theorem spLs_11 : SpEq Γ (Ls p q g0 g1 g2 k0 k1 u0 u1 t0 t1 t2 a b c d e f h) 11 := by unfold SpEq; kernel_rfl
theorem spLs_12 : SpEq Γ (Ls p q g0 g1 g2 k0 k1 u0 u1 t0 t1 t2 a b c d e f h) 12 := by unfold SpEq; kernel_rfl
theorem spLs_13 : SpEq Γ (Ls p q g0 g1 g2 k0 k1 u0 u1 t0 t1 t2 a b c d e f h) 13 := by unfold SpEq; kernel_rfl
theorem spLs_14 : SpEq Γ (Ls p q g0 g1 g2 k0 k1 u0 u1 t0 t1 t2 a b c d e f h) 14 := by unfold SpEq; kernel_rfl
theorem spLs_15 : SpEq Γ (Ls p q g0 g1 g2 k0 k1 u0 u1 t0 t1 t2 a b c d e f h) 15 := by unfold SpEq; kernel_rfl
theorem spLs_16 : SpEq Γ (Ls p q g0 g1 g2 k0 k1 u0 u1 t0 t1 t2 a b c d e f h) 16 := by unfold SpEq; kernel_rfl
theorem spLs_17 : SpEq Γ (Ls p q g0 g1 g2 k0 k1 u0 u1 t0 t1 t2 a b c d e f h) 17 := by unfold SpEq; kernel_rfl
theorem spLs_18 : SpEq Γ (Ls p q g0 g1 g2 k0 k1 u0 u1 t0 t1 t2 a b c d e f h) 18 := by unfold SpEq; kernel_rfl
theorem spLs_19 : SpEq Γ (Ls p q g0 g1 g2 k0 k1 u0 u1 t0 t1 t2 a b c d e f h) 19 := by unfold SpEq; kernel_rfl
theorem spLs_20 : SpEq Γ (Ls p q g0 g1 g2 k0 k1 u0 u1 t0 t1 t2 a b c d e f h) 20 := by unfold SpEq; kernel_rfl
theorem spLs_21 : SpEq Γ (Ls p q g0 g1 g2 k0 k1 u0 u1 t0 t1 t2 a b c d e f h) 21 := by unfold SpEq; kernel_rfl
theorem spLs_22 : SpEq Γ (Ls p q g0 g1 g2 k0 k1 u0 u1 t0 t1 t2 a b c d e f h) 22 := by unfold SpEq; kernel_rfl
theorem spLs_23 : SpEq Γ (Ls p q g0 g1 g2 k0 k1 u0 u1 t0 t1 t2 a b c d e f h) 23 := by unfold SpEq; kernel_rfl
theorem spLs_24 : SpEq Γ (Ls p q g0 g1 g2 k0 k1 u0 u1 t0 t1 t2 a b c d e f h) 24 := by unfold SpEq; kernel_rfl
theorem spLs_25 : SpEq Γ (Ls p q g0 g1 g2 k0 k1 u0 u1 t0 t1 t2 a b c d e f h) 25 := by unfold SpEq; kernel_rfl
theorem spLs_26 : SpEq Γ (Ls p q g0 g1 g2 k0 k1 u0 u1 t0 t1 t2 a b c d e f h) 26 := by unfold SpEq; kernel_rfl
theorem spLs_27 : SpEq Γ (Ls p q g0 g1 g2 k0 k1 u0 u1 t0 t1 t2 a b c d e f h) 27 := by unfold SpEq; kernel_rfl
theorem spLs_28 : SpEq Γ (Ls p q g0 g1 g2 k0 k1 u0 u1 t0 t1 t2 a b c d e f h) 28 := by unfold SpEq; kernel_rfl
theorem spLs_29 : SpEq Γ (Ls p q g0 g1 g2 k0 k1 u0 u1 t0 t1 t2 a b c d e f h) 29 := by unfold SpEq; kernel_rfl
theorem spLs_30 : SpEq Γ (Ls p q g0 g1 g2 k0 k1 u0 u1 t0 t1 t2 a b c d e f h) 30 := by unfold SpEq; kernel_rfl
theorem spLs_31 : SpEq Γ (Ls p q g0 g1 g2 k0 k1 u0 u1 t0 t1 t2 a b c d e f h) 31 := by unfold SpEq; kernel_rfl
theorem spLs_32 : SpEq Γ (Ls p q g0 g1 g2 k0 k1 u0 u1 t0 t1 t2 a b c d e f h) 32 := by unfold SpEq; kernel_rfl
theorem spLs_33 : SpEq Γ (Ls p q g0 g1 g2 k0 k1 u0 u1 t0 t1 t2 a b c d e f h) 33 := by unfold SpEq; kernel_rfl
theorem spLs_34 : SpEq Γ (Ls p q g0 g1 g2 k0 k1 u0 u1 t0 t1 t2 a b c d e f h) 34 := by unfold SpEq; kernel_rfl
theorem spLs_35 : SpEq Γ (Ls p q g0 g1 g2 k0 k1 u0 u1 t0 t1 t2 a b c d e f h) 35 := by unfold SpEq; kernel_rfl
theorem spLs_36 : SpEq Γ (Ls p q g0 g1 g2 k0 k1 u0 u1 t0 t1 t2 a b c d e f h) 36 := by unfold SpEq; kernel_rfl
theorem spLs_37 : SpEq Γ (Ls p q g0 g1 g2 k0 k1 u0 u1 t0 t1 t2 a b c d e f h) 37 := by unfold SpEq; kernel_rfl
theorem spLs_38 : SpEq Γ (Ls p q g0 g1 g2 k0 k1 u0 u1 t0 t1 t2 a b c d e f h) 38 := by unfold SpEq; kernel_rfl
theorem spLs_39 : SpEq Γ (Ls p q g0 g1 g2 k0 k1 u0 u1 t0 t1 t2 a b c d e f h) 39 := by unfold SpEq; kernel_rfl
end
theorem spLs (p q : Int) (g0 g1 g2 : Int × Int) (k0 k1 u0 u1 : Int) (t0 t1 t2 : Tk) (a b c d e f h : Sp) (w : Nat) (hw : w < 40) : SpEq Γ (Ls p q g0 g1 g2 k0 k1 u0 u1 t0 t1 t2 a b c d e f h) w :=
  upto40 (spLs_0 _ _ _ _ _ _ _ _ _ _ _ _ _ _ _ _ _ _ _) (spLs_1 _ _ _ _ _ _ _ _ _ _ _ _ _ _ _ _ _ _ _) (spLs_2 _ _ _ _ _ _ _ _ _ _ _ _ _ _ _ _ _ _ _) (spLs_3 _ _ _ _ _ _ _ _ _ _ _ _ _ _ _ _ _ _ _) (spLs_4 _ _ _ _ _ _ _ _ _ _ _ _ _ _ _ _ _ _ _) (spLs_5 _ _ _ _ _ _ _ _ _ _ _ _ _ _ _ _ _ _ _) (spLs_6 _ _ _ _ _ _ _ _ _ _ _ _ _ _ _ _ _ _ _) (spLs_7 _ _ _ _ _ _ _ _ _ _ _ _ _ _ _ _ _ _ _) (spLs_8 _ _ _ _ _ _ _ _ _ _ _ _ _ _ _ _ _ _ _) (spLs_9 _ _ _ _ _ _ _ _ _ _ _ _ _ _ _ _ _ _ _) (spLs_10 _ _ _ _ _ _ _ _ _ _ _ _ _ _ _ _ _ _ _) (spLs_11 _ _ _ _ _ _ _ _ _ _ _ _ _ _ _ _ _ _ _) (spLs_12 _ _ _ _ _ _ _ _ _ _ _ _ _ _ _ _ _ _ _) (spLs_13 _ _ _ _ _ _ _ _ _ _ _ _ _ _ _ _ _ _ _) (spLs_14 _ _ _ _ _ _ _ _ _ _ _ _ _ _ _ _ _ _ _) (spLs_15 _ _ _ _ _ _ _ _ _ _ _ _ _ _ _ _ _ _ _) (spLs_16 _ _ _ _ _ _ _ _ _ _ _ _ _ _ _ _ _ _ _) (spLs_17 _ _ _ _ _ _ _ _ _ _ _ _ _ _ _ _ _ _ _) (spLs_18 _ _ _ _ _ _ _ _ _ _ _ _ _ _ _ _ _ _ _) (spLs_19 _ _ _ _ _ _ _ _ _ _ _ _ _ _ _ _ _ _ _) (spLs_20 _ _ _ _ _ _ _ _ _ _ _ _ _ _ _ _ _ _ _) (spLs_21 _ _ _ _ _ _ _ _ _ _ _ _ _ _ _ _ _ _ _) (spLs_22 _ _ _ _ _ _ _ _ _ _ _ _ _ _ _ _ _ _ _) (spLs_23 _ _ _ _ _ _ _ _ _ _ _ _ _ _ _ _ _ _ _) (spLs_24 _ _ _ _ _ _ _ _ _ _ _ _ _ _ _ _ _ _ _) (spLs_25 _ _ _ _ _ _ _ _ _ _ _ _ _ _ _ _ _ _ _) (spLs_26 _ _ _ _ _ _ _ _ _ _ _ _ _ _ _ _ _ _ _) (spLs_27 _ _ _ _ _ _ _ _ _ _ _ _ _ _ _ _ _ _ _) (spLs_28 _ _ _ _ _ _ _ _ _ _ _ _ _ _ _ _ _ _ _) (spLs_29 _ _ _ _ _ _ _ _ _ _ _ _ _ _ _ _ _ _ _) (spLs_30 _ _ _ _ _ _ _ _ _ _ _ _ _ _ _ _ _ _ _) (spLs_31 _ _ _ _ _ _ _ _ _ _ _ _ _ _ _ _ _ _ _) (spLs_32 _ _ _ _ _ _ _ _ _ _ _ _ _ _ _ _ _ _ _) (spLs_33 _ _ _ _ _ _ _ _ _ _ _ _ _ _ _ _ _ _ _) (spLs_34 _ _ _ _ _ _ _ _ _ _ _ _ _ _ _ _ _ _ _) (spLs_35 _ _ _ _ _ _ _ _ _ _ _ _ _ _ _ _ _ _ _) (spLs_36 _ _ _ _ _ _ _ _ _ _ _ _ _ _ _ _ _ _ _) (spLs_37 _ _ _ _ _ _ _ _ _ _ _ _ _ _ _ _ _ _ _) (spLs_38 _ _ _ _ _ _ _ _ _ _ _ _ _ _ _ _ _ _ _) (spLs_39 _ _ _ _ _ _ _ _ _ _ _ _ _ _ _ _ _ _ _) w hw
end Go.Proofs.T
end
