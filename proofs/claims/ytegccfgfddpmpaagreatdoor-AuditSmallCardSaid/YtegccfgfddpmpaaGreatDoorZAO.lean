import Derived.Test.YtegccfgfddpmpaaGreatDoorZAN
import Derived.KernelRfl

section
set_option linter.unusedVariables false
set_option linter.unusedSimpArgs false
namespace Go.Proofs.T
open Go Go.AM Go.Proofs
set_option linter.unusedVariables false
variable {Γ : List (Nat × List AVal)}
section
variable (p q : Int) (g0 g1 g2 : Int × Int) (k0 k1 u0 u1 : Int) (t0 t1 t2 : Tk) (a b c d e f : Sp)
theorem spL0_0 : SpEq Γ (L0 p q g0 g1 g2 k0 k1 u0 u1 t0 t1 t2 a b c d e f) 0 := by unfold SpEq; kernel_rfl
theorem spL0_1 : SpEq Γ (L0 p q g0 g1 g2 k0 k1 u0 u1 t0 t1 t2 a b c d e f) 1 := by unfold SpEq; kernel_rfl
theorem spL0_2 : SpEq Γ (L0 p q g0 g1 g2 k0 k1 u0 u1 t0 t1 t2 a b c d e f) 2 := by unfold SpEq; kernel_rfl
theorem spL0_3 : SpEq Γ (L0 p q g0 g1 g2 k0 k1 u0 u1 t0 t1 t2 a b c d e f) 3 := by unfold SpEq; kernel_rfl
theorem spL0_4 : SpEq Γ (L0 p q g0 g1 g2 k0 k1 u0 u1 t0 t1 t2 a b c d e f) 4 := by unfold SpEq; kernel_rfl
theorem spL0_5 : SpEq Γ (L0 p q g0 g1 g2 k0 k1 u0 u1 t0 t1 t2 a b c d e f) 5 := by unfold SpEq; kernel_rfl
theorem spL0_6 : SpEq Γ (L0 p q g0 g1 g2 k0 k1 u0 u1 t0 t1 t2 a b c d e f) 6 := by unfold SpEq; kernel_rfl
theorem spL0_7 : SpEq Γ (L0 p q g0 g1 g2 k0 k1 u0 u1 t0 t1 t2 a b c d e f) 7 := by unfold SpEq; kernel_rfl
theorem spL0_8 : SpEq Γ (L0 p q g0 g1 g2 k0 k1 u0 u1 t0 t1 t2 a b c d e f) 8 := by unfold SpEq; kernel_rfl
theorem spL0_9 : SpEq Γ (L0 p q g0 g1 g2 k0 k1 u0 u1 t0 t1 t2 a b c d e f) 9 := by unfold SpEq; kernel_rfl
theorem spL0_10 : SpEq Γ (L0 p q g0 g1 g2 k0 k1 u0 u1 t0 t1 t2 a b c d e f) 10 := by unfold SpEq; kernel_rfl
theorem spL0_11 : SpEq Γ (L0 p q g0 g1 g2 k0 k1 u0 u1 t0 t1 t2 a b c d e f) 11 := by unfold SpEq; kernel_rfl
theorem spL0_12 : SpEq Γ (L0 p q g0 g1 g2 k0 k1 u0 u1 t0 t1 t2 a b c d e f) 12 := by unfold SpEq; kernel_rfl
theorem spL0_13 : SpEq Γ (L0 p q g0 g1 g2 k0 k1 u0 u1 t0 t1 t2 a b c d e f) 13 := by unfold SpEq; kernel_rfl
theorem spL0_14 : SpEq Γ (L0 p q g0 g1 g2 k0 k1 u0 u1 t0 t1 t2 a b c d e f) 14 := by unfold SpEq; kernel_rfl
theorem spL0_15 : SpEq Γ (L0 p q g0 g1 g2 k0 k1 u0 u1 t0 t1 t2 a b c d e f) 15 := by unfold SpEq; kernel_rfl
theorem spL0_16 : SpEq Γ (L0 p q g0 g1 g2 k0 k1 u0 u1 t0 t1 t2 a b c d e f) 16 := by unfold SpEq; kernel_rfl
theorem spL0_17 : SpEq Γ (L0 p q g0 g1 g2 k0 k1 u0 u1 t0 t1 t2 a b c d e f) 17 := by unfold SpEq; kernel_rfl
theorem spL0_18 : SpEq Γ (L0 p q g0 g1 g2 k0 k1 u0 u1 t0 t1 t2 a b c d e f) 18 := by unfold SpEq; kernel_rfl
theorem spL0_19 : SpEq Γ (L0 p q g0 g1 g2 k0 k1 u0 u1 t0 t1 t2 a b c d e f) 19 := by unfold SpEq; kernel_rfl
theorem spL0_20 : SpEq Γ (L0 p q g0 g1 g2 k0 k1 u0 u1 t0 t1 t2 a b c d e f) 20 := by unfold SpEq; kernel_rfl
theorem spL0_21 : SpEq Γ (L0 p q g0 g1 g2 k0 k1 u0 u1 t0 t1 t2 a b c d e f) 21 := by unfold SpEq; kernel_rfl
theorem spL0_22 : SpEq Γ (L0 p q g0 g1 g2 k0 k1 u0 u1 t0 t1 t2 a b c d e f) 22 := by unfold SpEq; kernel_rfl
theorem spL0_23 : SpEq Γ (L0 p q g0 g1 g2 k0 k1 u0 u1 t0 t1 t2 a b c d e f) 23 := by unfold SpEq; kernel_rfl
theorem spL0_24 : SpEq Γ (L0 p q g0 g1 g2 k0 k1 u0 u1 t0 t1 t2 a b c d e f) 24 := by unfold SpEq; kernel_rfl
theorem spL0_25 : SpEq Γ (L0 p q g0 g1 g2 k0 k1 u0 u1 t0 t1 t2 a b c d e f) 25 := by unfold SpEq; kernel_rfl
theorem spL0_26 : SpEq Γ (L0 p q g0 g1 g2 k0 k1 u0 u1 t0 t1 t2 a b c d e f) 26 := by unfold SpEq; kernel_rfl
theorem spL0_27 : SpEq Γ (L0 p q g0 g1 g2 k0 k1 u0 u1 t0 t1 t2 a b c d e f) 27 := by unfold SpEq; kernel_rfl
theorem spL0_28 : SpEq Γ (L0 p q g0 g1 g2 k0 k1 u0 u1 t0 t1 t2 a b c d e f) 28 := by unfold SpEq; kernel_rfl
theorem spL0_29 : SpEq Γ (L0 p q g0 g1 g2 k0 k1 u0 u1 t0 t1 t2 a b c d e f) 29 := by unfold SpEq; kernel_rfl
theorem spL0_30 : SpEq Γ (L0 p q g0 g1 g2 k0 k1 u0 u1 t0 t1 t2 a b c d e f) 30 := by unfold SpEq; kernel_rfl
theorem spL0_31 : SpEq Γ (L0 p q g0 g1 g2 k0 k1 u0 u1 t0 t1 t2 a b c d e f) 31 := by unfold SpEq; kernel_rfl
theorem spL0_32 : SpEq Γ (L0 p q g0 g1 g2 k0 k1 u0 u1 t0 t1 t2 a b c d e f) 32 := by unfold SpEq; kernel_rfl
theorem spL0_33 : SpEq Γ (L0 p q g0 g1 g2 k0 k1 u0 u1 t0 t1 t2 a b c d e f) 33 := by unfold SpEq; kernel_rfl
theorem spL0_34 : SpEq Γ (L0 p q g0 g1 g2 k0 k1 u0 u1 t0 t1 t2 a b c d e f) 34 := by unfold SpEq; kernel_rfl
theorem spL0_35 : SpEq Γ (L0 p q g0 g1 g2 k0 k1 u0 u1 t0 t1 t2 a b c d e f) 35 := by unfold SpEq; kernel_rfl
theorem spL0_36 : SpEq Γ (L0 p q g0 g1 g2 k0 k1 u0 u1 t0 t1 t2 a b c d e f) 36 := by unfold SpEq; kernel_rfl
theorem spL0_37 : SpEq Γ (L0 p q g0 g1 g2 k0 k1 u0 u1 t0 t1 t2 a b c d e f) 37 := by unfold SpEq; kernel_rfl
theorem spL0_38 : SpEq Γ (L0 p q g0 g1 g2 k0 k1 u0 u1 t0 t1 t2 a b c d e f) 38 := by unfold SpEq; kernel_rfl
theorem spL0_39 : SpEq Γ (L0 p q g0 g1 g2 k0 k1 u0 u1 t0 t1 t2 a b c d e f) 39 := by unfold SpEq; kernel_rfl
end
theorem spL0 (p q : Int) (g0 g1 g2 : Int × Int) (k0 k1 u0 u1 : Int) (t0 t1 t2 : Tk) (a b c d e f : Sp) (w : Nat) (hw : w < 40) : SpEq Γ (L0 p q g0 g1 g2 k0 k1 u0 u1 t0 t1 t2 a b c d e f) w :=
  upto40 (spL0_0 _ _ _ _ _ _ _ _ _ _ _ _ _ _ _ _ _ _) (spL0_1 _ _ _ _ _ _ _ _ _ _ _ _ _ _ _ _ _ _) (spL0_2 _ _ _ _ _ _ _ _ _ _ _ _ _ _ _ _ _ _) (spL0_3 _ _ _ _ _ _ _ _ _ _ _ _ _ _ _ _ _ _) (spL0_4 _ _ _ _ _ _ _ _ _ _ _ _ _ _ _ _ _ _) (spL0_5 _ _ _ _ _ _ _ _ _ _ _ _ _ _ _ _ _ _) (spL0_6 _ _ _ _ _ _ _ _ _ _ _ _ _ _ _ _ _ _) (spL0_7 _ _ _ _ _ _ _ _ _ _ _ _ _ _ _ _ _ _) (spL0_8 _ _ _ _ _ _ _ _ _ _ _ _ _ _ _ _ _ _) (spL0_9 _ _ _ _ _ _ _ _ _ _ _ _ _ _ _ _ _ _) (spL0_10 _ _ _ _ _ _ _ _ _ _ _ _ _ _ _ _ _ _) (spL0_11 _ _ _ _ _ _ _ _ _ _ _ _ _ _ _ _ _ _) (spL0_12 _ _ _ _ _ _ _ _ _ _ _ _ _ _ _ _ _ _) (spL0_13 _ _ _ _ _ _ _ _ _ _ _ _ _ _ _ _ _ _) (spL0_14 _ _ _ _ _ _ _ _ _ _ _ _ _ _ _ _ _ _) (spL0_15 _ _ _ _ _ _ _ _ _ _ _ _ _ _ _ _ _ _) (spL0_16 _ _ _ _ _ _ _ _ _ _ _ _ _ _ _ _ _ _) (spL0_17 _ _ _ _ _ _ _ _ _ _ _ _ _ _ _ _ _ _) (spL0_18 _ _ _ _ _ _ _ _ _ _ _ _ _ _ _ _ _ _) (spL0_19 _ _ _ _ _ _ _ _ _ _ _ _ _ _ _ _ _ _) (spL0_20 _ _ _ _ _ _ _ _ _ _ _ _ _ _ _ _ _ _) (spL0_21 _ _ _ _ _ _ _ _ _ _ _ _ _ _ _ _ _ _) (spL0_22 _ _ _ _ _ _ _ _ _ _ _ _ _ _ _ _ _ _) (spL0_23 _ _ _ _ _ _ _ _ _ _ _ _ _ _ _ _ _ _) (spL0_24 _ _ _ _ _ _ _ _ _ _ _ _ _ _ _ _ _ _) (spL0_25 _ _ _ _ _ _ _ _ _ _ _ _ _ _ _ _ _ _) (spL0_26 _ _ _ _ _ _ _ _ _ _ _ _ _ _ _ _ _ _) (spL0_27 _ _ _ _ _ _ _ _ _ _ _ _ _ _ _ _ _ _) (spL0_28 _ _ _ _ _ _ _ _ _ _ _ _ _ _ _ _ _ _) (spL0_29 _ _ _ _ _ _ _ _ _ _ _ _ _ _ _ _ _ _) (spL0_30 _ _ _ _ _ _ _ _ _ _ _ _ _ _ _ _ _ _) (spL0_31 _ _ _ _ _ _ _ _ _ _ _ _ _ _ _ _ _ _) (spL0_32 _ _ _ _ _ _ _ _ _ _ _ _ _ _ _ _ _ _) (spL0_33 _ _ _ _ _ _ _ _ _ _ _ _ _ _ _ _ _ _) (spL0_34 _ _ _ _ _ _ _ _ _ _ _ _ _ _ _ _ _ _) (spL0_35 _ _ _ _ _ _ _ _ _ _ _ _ _ _ _ _ _ _) (spL0_36 _ _ _ _ _ _ _ _ _ _ _ _ _ _ _ _ _ _) (spL0_37 _ _ _ _ _ _ _ _ _ _ _ _ _ _ _ _ _ _) (spL0_38 _ _ _ _ _ _ _ _ _ _ _ _ _ _ _ _ _ _) (spL0_39 _ _ _ _ _ _ _ _ _ _ _ _ _ _ _ _ _ _) w hw
section
variable (p q : Int) (g0 g1 g2 : Int × Int) (k0 k1 k2 u0 u1 : Int) (t0 t1 t2 : Tk) (a b c d e f : Sp)
theorem spLk_0 : SpEq Γ (Lk p q g0 g1 g2 k0 k1 k2 u0 u1 t0 t1 t2 a b c d e f) 0 := by unfold SpEq; kernel_rfl
theorem spLk_1 : SpEq Γ (Lk p q g0 g1 g2 k0 k1 k2 u0 u1 t0 t1 t2 a b c d e f) 1 := by unfold SpEq; kernel_rfl
theorem spLk_2 : SpEq Γ (Lk p q g0 g1 g2 k0 k1 k2 u0 u1 t0 t1 t2 a b c d e f) 2 := by unfold SpEq; kernel_rfl
theorem spLk_3 : SpEq Γ (Lk p q g0 g1 g2 k0 k1 k2 u0 u1 t0 t1 t2 a b c d e f) 3 := by unfold SpEq; kernel_rfl
theorem spLk_4 : SpEq Γ (Lk p q g0 g1 g2 k0 k1 k2 u0 u1 t0 t1 t2 a b c d e f) 4 := by unfold SpEq; kernel_rfl
theorem spLk_5 : SpEq Γ (Lk p q g0 g1 g2 k0 k1 k2 u0 u1 t0 t1 t2 a b c d e f) 5 := by unfold SpEq; kernel_rfl
theorem spLk_6 : SpEq Γ (Lk p q g0 g1 g2 k0 k1 k2 u0 u1 t0 t1 t2 a b c d e f) 6 := by unfold SpEq; kernel_rfl
theorem spLk_7 : SpEq Γ (Lk p q g0 g1 g2 k0 k1 k2 u0 u1 t0 t1 t2 a b c d e f) 7 := by unfold SpEq; kernel_rfl
theorem spLk_8 : SpEq Γ (Lk p q g0 g1 g2 k0 k1 k2 u0 u1 t0 t1 t2 a b c d e f) 8 := by unfold SpEq; kernel_rfl
theorem spLk_9 : SpEq Γ (Lk p q g0 g1 g2 k0 k1 k2 u0 u1 t0 t1 t2 a b c d e f) 9 := by unfold SpEq; kernel_rfl
theorem spLk_10 : SpEq Γ (Lk p q g0 g1 g2 k0 k1 k2 u0 u1 t0 t1 t2 a b c d e f) 10 := by unfold SpEq; kernel_rfl
theorem spLk_11 : SpEq Γ (Lk p q g0 g1 g2 k0 k1 k2 u0 u1 t0 t1 t2 a b c d e f) 11 := by unfold SpEq; kernel_rfl
theorem spLk_12 : SpEq Γ (Lk p q g0 g1 g2 k0 k1 k2 u0 u1 t0 t1 t2 a b c d e f) 12 := by unfold SpEq; kernel_rfl
theorem spLk_13 : SpEq Γ (Lk p q g0 g1 g2 k0 k1 k2 u0 u1 t0 t1 t2 a b c d e f) 13 := by unfold SpEq; kernel_rfl
theorem spLk_14 : SpEq Γ (Lk p q g0 g1 g2 k0 k1 k2 u0 u1 t0 t1 t2 a b c d e f) 14 := by unfold SpEq; kernel_rfl
theorem spLk_15 : SpEq Γ (Lk p q g0 g1 g2 k0 k1 k2 u0 u1 t0 t1 t2 a b c d e f) 15 := by unfold SpEq; kernel_rfl
theorem spLk_16 : SpEq Γ (Lk p q g0 g1 g2 k0 k1 k2 u0 u1 t0 t1 t2 a b c d e f) 16 := by unfold SpEq; kernel_rfl
theorem spLk_17 : SpEq Γ (Lk p q g0 g1 g2 k0 k1 k2 u0 u1 t0 t1 t2 a b c d e f) 17 := by unfold SpEq; kernel_rfl
theorem spLk_18 : SpEq Γ (Lk p q g0 g1 g2 k0 k1 k2 u0 u1 t0 t1 t2 a b c d e f) 18 := by unfold SpEq; kernel_rfl
theorem spLk_19 : SpEq Γ (Lk p q g0 g1 g2 k0 k1 k2 u0 u1 t0 t1 t2 a b c d e f) 19 := by unfold SpEq; kernel_rfl
theorem spLk_20 : SpEq Γ (Lk p q g0 g1 g2 k0 k1 k2 u0 u1 t0 t1 t2 a b c d e f) 20 := by unfold SpEq; kernel_rfl
theorem spLk_21 : SpEq Γ (Lk p q g0 g1 g2 k0 k1 k2 u0 u1 t0 t1 t2 a b c d e f) 21 := by unfold SpEq; kernel_rfl
theorem spLk_22 : SpEq Γ (Lk p q g0 g1 g2 k0 k1 k2 u0 u1 t0 t1 t2 a b c d e f) 22 := by unfold SpEq; kernel_rfl
theorem spLk_23 : SpEq Γ (Lk p q g0 g1 g2 k0 k1 k2 u0 u1 t0 t1 t2 a b c d e f) 23 := by unfold SpEq; kernel_rfl
theorem spLk_24 : SpEq Γ (Lk p q g0 g1 g2 k0 k1 k2 u0 u1 t0 t1 t2 a b c d e f) 24 := by unfold SpEq; kernel_rfl
theorem spLk_25 : SpEq Γ (Lk p q g0 g1 g2 k0 k1 k2 u0 u1 t0 t1 t2 a b c d e f) 25 := by unfold SpEq; kernel_rfl
theorem spLk_26 : SpEq Γ (Lk p q g0 g1 g2 k0 k1 k2 u0 u1 t0 t1 t2 a b c d e f) 26 := by unfold SpEq; kernel_rfl
theorem spLk_27 : SpEq Γ (Lk p q g0 g1 g2 k0 k1 k2 u0 u1 t0 t1 t2 a b c d e f) 27 := by unfold SpEq; kernel_rfl
theorem spLk_28 : SpEq Γ (Lk p q g0 g1 g2 k0 k1 k2 u0 u1 t0 t1 t2 a b c d e f) 28 := by unfold SpEq; kernel_rfl
theorem spLk_29 : SpEq Γ (Lk p q g0 g1 g2 k0 k1 k2 u0 u1 t0 t1 t2 a b c d e f) 29 := by unfold SpEq; kernel_rfl
theorem spLk_30 : SpEq Γ (Lk p q g0 g1 g2 k0 k1 k2 u0 u1 t0 t1 t2 a b c d e f) 30 := by unfold SpEq; kernel_rfl
theorem spLk_31 : SpEq Γ (Lk p q g0 g1 g2 k0 k1 k2 u0 u1 t0 t1 t2 a b c d e f) 31 := by unfold SpEq; kernel_rfl
theorem spLk_32 : SpEq Γ (Lk p q g0 g1 g2 k0 k1 k2 u0 u1 t0 t1 t2 a b c d e f) 32 := by unfold SpEq; kernel_rfl
theorem spLk_33 : SpEq Γ (Lk p q g0 g1 g2 k0 k1 k2 u0 u1 t0 t1 t2 a b c d e f) 33 := by unfold SpEq; kernel_rfl
theorem spLk_34 : SpEq Γ (Lk p q g0 g1 g2 k0 k1 k2 u0 u1 t0 t1 t2 a b c d e f) 34 := by unfold SpEq; kernel_rfl
theorem spLk_35 : SpEq Γ (Lk p q g0 g1 g2 k0 k1 k2 u0 u1 t0 t1 t2 a b c d e f) 35 := by unfold SpEq; kernel_rfl
theorem spLk_36 : SpEq Γ (Lk p q g0 g1 g2 k0 k1 k2 u0 u1 t0 t1 t2 a b c d e f) 36 := by unfold SpEq; kernel_rfl
theorem spLk_37 : SpEq Γ (Lk p q g0 g1 g2 k0 k1 k2 u0 u1 t0 t1 t2 a b c d e f) 37 := by unfold SpEq; kernel_rfl
theorem spLk_38 : SpEq Γ (Lk p q g0 g1 g2 k0 k1 k2 u0 u1 t0 t1 t2 a b c d e f) 38 := by unfold SpEq; kernel_rfl
theorem spLk_39 : SpEq Γ (Lk p q g0 g1 g2 k0 k1 k2 u0 u1 t0 t1 t2 a b c d e f) 39 := by unfold SpEq; kernel_rfl
end
theorem spLk (p q : Int) (g0 g1 g2 : Int × Int) (k0 k1 k2 u0 u1 : Int) (t0 t1 t2 : Tk) (a b c d e f : Sp) (w : Nat) (hw : w < 40) : SpEq Γ (Lk p q g0 g1 g2 k0 k1 k2 u0 u1 t0 t1 t2 a b c d e f) w :=
  upto40 (spLk_0 _ _ _ _ _ _ _ _ _ _ _ _ _ _ _ _ _ _ _) (spLk_1 _ _ _ _ _ _ _ _ _ _ _ _ _ _ _ _ _ _ _) (spLk_2 _ _ _ _ _ _ _ _ _ _ _ _ _ _ _ _ _ _ _) (spLk_3 _ _ _ _ _ _ _ _ _ _ _ _ _ _ _ _ _ _ _) (spLk_4 _ _ _ _ _ _ _ _ _ _ _ _ _ _ _ _ _ _ _) (spLk_5 _ _ _ _ _ _ _ _ _ _ _ _ _ _ _ _ _ _ _) (spLk_6 _ _ _ _ _ _ _ _ _ _ _ _ _ _ _ _ _ _ _) (spLk_7 _ _ _ _ _ _ _ _ _ _ _ _ _ _ _ _ _ _ _) (spLk_8 _ _ _ _ _ _ _ _ _ _ _ _ _ _ _ _ _ _ _) (spLk_9 _ _ _ _ _ _ _ _ _ _ _ _ _ _ _ _ _ _ _) (spLk_10 _ _ _ _ _ _ _ _ _ _ _ _ _ _ _ _ _ _ _) (spLk_11 _ _ _ _ _ _ _ _ _ _ _ _ _ _ _ _ _ _ _) (spLk_12 _ _ _ _ _ _ _ _ _ _ _ _ _ _ _ _ _ _ _) (spLk_13 _ _ _ _ _ _ _ _ _ _ _ _ _ _ _ _ _ _ _) (spLk_14 _ _ _ _ _ _ _ _ _ _ _ _ _ _ _ _ _ _ _) (spLk_15 _ _ _ _ _ _ _ _ _ _ _ _ _ _ _ _ _ _ _) (spLk_16 _ _ _ _ _ _ _ _ _ _ _ _ _ _ _ _ _ _ _) (spLk_17 _ _ _ _ _ _ _ _ _ _ _ _ _ _ _ _ _ _ _) (spLk_18 _ _ _ _ _ _ _ _ _ _ _ _ _ _ _ _ _ _ _) (spLk_19 _ _ _ _ _ _ _ _ _ _ _ _ _ _ _ _ _ _ _) (spLk_20 _ _ _ _ _ _ _ _ _ _ _ _ _ _ _ _ _ _ _) (spLk_21 _ _ _ _ _ _ _ _ _ _ _ _ _ _ _ _ _ _ _) (spLk_22 _ _ _ _ _ _ _ _ _ _ _ _ _ _ _ _ _ _ _) (spLk_23 _ _ _ _ _ _ _ _ _ _ _ _ _ _ _ _ _ _ _) (spLk_24 _ _ _ _ _ _ _ _ _ _ _ _ _ _ _ _ _ _ _) (spLk_25 _ _ _ _ _ _ _ _ _ _ _ _ _ _ _ _ _ _ _) (spLk_26 _ _ _ _ _ _ _ _ _ _ _ _ _ _ _ _ _ _ _) (spLk_27 _ _ _ _ _ _ _ _ _ _ _ _ _ _ _ _ _ _ _) (spLk_28 _ _ _ _ _ _ _ _ _ _ _ _ _ _ _ _ _ _ _) (spLk_29 _ _ _ _ _ _ _ _ _ _ _ _ _ _ _ _ _ _ _) (spLk_30 _ _ _ _ _ _ _ _ _ _ _ _ _ _ _ _ _ _ _) (spLk_31 _ _ _ _ _ _ _ _ _ _ _ _ _ _ _ _ _ _ _) (spLk_32 _ _ _ _ _ _ _ _ _ _ _ _ _ _ _ _ _ _ _) (spLk_33 _ _ _ _ _ _ _ _ _ _ _ _ _ _ _ _ _ _ _) (spLk_34 _ _ _ _ _ _ _ _ _ _ _ _ _ _ _ _ _ _ _) (spLk_35 _ _ _ _ _ _ _ _ _ _ _ _ _ _ _ _ _ _ _) (spLk_36 _ _ _ _ _ _ _ _ _ _ _ _ _ _ _ _ _ _ _) (spLk_37 _ _ _ _ _ _ _ _ _ _ _ _ _ _ _ _ _ _ _) (spLk_38 _ _ _ _ _ _ _ _ _ _ _ _ _ _ _ _ _ _ _) (spLk_39 _ _ _ _ _ _ _ _ _ _ _ _ _ _ _ _ _ _ _) w hw
theorem spLg (p q : Int) (g0 g1 : Int × Int) (k0 k1 u0 u1 : Int) (t0 t1 t2 : Tk) (a b c d e f : Sp) (w : Nat) : SpEq Γ (Lg p q g0 g1 k0 k1 u0 u1 t0 t1 t2 a b c d e f) w := by unfold SpEq; kernel_rfl
theorem spLr (p q : Int) (g0 g1 g2 : Int × Int) (k0 k1 u0 u1 : Int) (t0 t1 t2 : Tk) (a b c d : Sp) (w : Nat) : SpEq Γ (Lr p q g0 g1 g2 k0 k1 u0 u1 t0 t1 t2 a b c d) w := by unfold SpEq; kernel_rfl
theorem spLc (p q : Int) (g0 g1 g2 : Int × Int) (k0 k1 u0 u1 : Int) (t0 t1 t2 : Tk) (a b c e f : Sp) (w : Nat) : SpEq Γ (Lc p q g0 g1 g2 k0 k1 u0 u1 t0 t1 t2 a b c e f) w := by unfold SpEq; kernel_rfl
end Go.Proofs.T
end
