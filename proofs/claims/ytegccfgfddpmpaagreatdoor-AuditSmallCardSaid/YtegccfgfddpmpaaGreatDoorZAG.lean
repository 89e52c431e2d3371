import Derived.Test.YtegccfgfddpmpaaGreatDoorZAF

section
set_option linter.unusedVariables false
set_option linter.unusedSimpArgs false
namespace Go.Proofs.T
open Go Go.AM Go.Proofs
set_option linter.unusedSimpArgs false
set_option linter.unusedVariables false
set_option maxRecDepth 4000
variable {Γ : List (Nat × List AVal)}
theorem copyInts (n : Nat) (f : Nat → Int) (hn : n ≤ 1000) : Pure Tryz.prog Γ 45 [.rd 1 n (fun i => [.lit (.int .i64 (f i))])] (.rd 1 n (fun i => [.lit (.int .i64 (f i))])) := by
  refine Pure_at Tryz.func45 rfl 7 rfl (Nat.le_of_ble_eq_true rfl) rfl fun k => ?_
  rcases Nat.eq_zero_or_pos n with rfl | hpos
  · (repeat' (first | (refine C_seq rfl ?_) | (refine C_block rfl ?_) | (refine C_skip rfl ?_; (try simp -dsimp -implicitDefEqProofs only [go_sem, eq_self, ↓reduceIte])) | (refine C_exit rfl ?_; (try simp -dsimp -implicitDefEqProofs only [go_sem, eq_self, ↓reduceIte])) | (refine C_cond rfl _ rfl (fun ht => ?_) (fun ht => ?_) <;> (try (simp only [nf] at ht)) <;> (try (exfalso; omega))) | ((first | (refine S_reg0 rfl [0,2,3] rfl rfl (fun K hK => ?_)) | (refine S_drw0 rfl [0,2,3] rfl (by kernel_rfl) rfl (fun K hK => ?_))); simp -dsimp -implicitDefEqProofs only [go_sem, eq_self, ↓reduceIte]; (repeat' (first | (refine And.intro ?_ ?_) | (refine gs_both (fun hb => ?_) (fun hb => ?_) <;> (have hg := hb; (try simp only [nfb] at hg); simp -dsimp -implicitDefEqProofs only [go_sem, hb, hg, eq_self, ↓reduceIte]; clear hb; (try simp only [nfe] at hg))))); any_goals ((first | (refine hK _ _ _ _ (fun hx => ?_)) | (refine hK _ _ _ _ (drawA (fun i => i - k)) (fun hx => ?_)) | (refine hK _ _ _ _ drawB (fun hx => ?_))); clear hx hK; simp -dsimp -implicitDefEqProofs only [go_sem, eq_self, ↓reduceIte]; (try simp (disch := omega) only [wrap_i64, wrap_u64, wrap_u32, wrap_u8]))) | omega))
    exact C_ret rfl ⟨_, rfl, VLe.nil _ _⟩
  · have hne : n ≠ 0 := by omega
    (repeat' (first | (refine C_seq rfl ?_) | (refine C_block rfl ?_) | (refine C_skip rfl ?_; (try simp -dsimp -implicitDefEqProofs only [go_sem, hne, hpos, eq_self, ↓reduceIte])) | (refine C_exit rfl ?_; (try simp -dsimp -implicitDefEqProofs only [go_sem, hne, hpos, eq_self, ↓reduceIte])) | (refine C_cond rfl _ rfl (fun ht => ?_) (fun ht => ?_) <;> (try (simp only [nf] at ht)) <;> (try (exfalso; omega))) | ((first | (refine S_reg0 rfl [0,2,3] rfl rfl (fun K hK => ?_)) | (refine S_drw0 rfl [0,2,3] rfl (by kernel_rfl) rfl (fun K hK => ?_))); simp -dsimp -implicitDefEqProofs only [go_sem, hne, hpos, eq_self, ↓reduceIte]; (repeat' (first | (refine And.intro ?_ ?_) | (refine gs_both (fun hb => ?_) (fun hb => ?_) <;> (have hg := hb; (try simp only [nfb] at hg); simp -dsimp -implicitDefEqProofs only [go_sem, hne, hpos, hb, hg, eq_self, ↓reduceIte]; clear hb; (try simp only [nfe] at hg))))); any_goals ((first | (refine hK _ _ _ _ (fun hx => ?_)) | (refine hK _ _ _ _ (drawOk_names (fun i => i - k) (by simp only [List.map_cons, List.map_nil, shG, hne, hpos, ↓reduceIte, Nat.add_sub_cancel_left, Nat.sub_self]; rfl) (by decide +kernel) (by simp -dsimp -implicitDefEqProofs only [go_sem, hne, hpos, eq_self, ↓reduceIte])) (fun hx => ?_)) | (refine hK _ _ _ _ (drawOk_of (by kernel_rfl) (by simp -dsimp -implicitDefEqProofs only [go_sem, hne, hpos, eq_self, ↓reduceIte])) (fun hx => ?_))); clear hx hK; simp -dsimp -implicitDefEqProofs only [go_sem, hne, hpos, eq_self, ↓reduceIte]; (try simp (disch := omega) only [wrap_i64, wrap_u64, wrap_u32, wrap_u8]))) | omega))
    refine M_ret rfl (Mv.frz_copy (id := k) 2 (by simp -dsimp -implicitDefEqProofs only [go_sem, hne, hpos, List.map_append, List.map_cons, List.map_nil, Flt.row, eq_self, ↓reduceIte]) (by simp -dsimp -implicitDefEqProofs only [go_sem, hne, hpos, List.map_append, List.map_cons, List.map_nil, Flt.row, eq_self, ↓reduceIte])) ⟨_, rfl, VLe.refl _⟩
theorem sameListT (s : St) (n : Nat) (hn : n ≤ 1000) : Pure Tryz.prog Γ 72 [.rd 8 n (tf s), .rd 8 n (tf s)] (.lit (.bool true)) := by
  refine Pure_at Tryz.func72 rfl 26 rfl (Nat.le_of_ble_eq_true rfl) rfl fun k => ?_
  (repeat' (first | (refine C_seq rfl ?_) | (refine C_block rfl ?_) | (refine C_skip rfl ?_; (try simp -dsimp -implicitDefEqProofs only [go_sem, eq_self, ↓reduceIte])) | (refine C_exit rfl ?_; (try simp -dsimp -implicitDefEqProofs only [go_sem, eq_self, ↓reduceIte])) | (refine C_cond rfl _ rfl (fun ht => ?_) (fun ht => ?_) <;> (try (simp only [nf] at ht)) <;> (try (exfalso; omega))) | ((first | (refine S_reg0 rfl [0,1,4,5,10,14,25] rfl rfl (fun K hK => ?_)) | (refine S_drw0 rfl [0,1,4,5,10,14,25] rfl (by kernel_rfl) rfl (fun K hK => ?_))); simp -dsimp -implicitDefEqProofs only [go_sem, eq_self, ↓reduceIte]; (repeat' (first | (refine And.intro ?_ ?_) | (refine gs_both (fun hb => ?_) (fun hb => ?_) <;> (have hg := hb; (try simp only [nfb] at hg); simp -dsimp -implicitDefEqProofs only [go_sem, hb, hg, eq_self, ↓reduceIte]; clear hb; (try simp only [nfe] at hg))))); any_goals ((first | (refine hK _ _ _ _ (fun hx => ?_)) | (refine hK _ _ _ _ (drawA (fun i => i - k)) (fun hx => ?_)) | (refine hK _ _ _ _ drawB (fun hx => ?_))); clear hx hK; simp -dsimp -implicitDefEqProofs only [go_sem, eq_self, ↓reduceIte]; (try simp (disch := omega) only [wrap_i64, wrap_u64, wrap_u32, wrap_u8]))) | omega))
  refine M_forO (X := Nat) rfl [0,1,4,5,10,14,25] k (fun i => [(5, .lit (.int .i64 (i : Int)))]) (fun i => []) (fun i => i ≤ n) (fun i => n - i) 0 ?_ (Nat.zero_le _) ?_
  · simp -dsimp -implicitDefEqProofs only [go_sem, eq_self, ↓reduceIte]
    exact wkF
  intro i hi
  simp -dsimp -implicitDefEqProofs only [go_sem, eq_self, ↓reduceIte]
  (repeat' (first | (refine C_seq rfl ?_) | (refine C_block rfl ?_) | (refine C_skip rfl ?_; (try simp -dsimp -implicitDefEqProofs only [go_sem, eq_self, ↓reduceIte])) | (refine C_exit rfl ?_; (try simp -dsimp -implicitDefEqProofs only [go_sem, eq_self, ↓reduceIte])) | (refine C_cond rfl _ rfl (fun ht => ?_) (fun ht => ?_) <;> (try (simp only [nf] at ht)) <;> (try (exfalso; omega))) | ((first | (refine S_reg0 rfl [0,1,4,5,10,14,25] rfl rfl (fun K hK => ?_)) | (refine S_drw0 rfl [0,1,4,5,10,14,25] rfl (by kernel_rfl) rfl (fun K hK => ?_))); simp -dsimp -implicitDefEqProofs only [go_sem, eq_self, ↓reduceIte]; (repeat' (first | (refine And.intro ?_ ?_) | (refine gs_both (fun hb => ?_) (fun hb => ?_) <;> (have hg := hb; (try simp only [nfb] at hg); simp -dsimp -implicitDefEqProofs only [go_sem, hb, hg, eq_self, ↓reduceIte]; clear hb; (try simp only [nfe] at hg))))); any_goals ((first | (refine hK _ _ _ _ (fun hx => ?_)) | (refine hK _ _ _ _ (drawA (fun i => i - k)) (fun hx => ?_)) | (refine hK _ _ _ _ drawB (fun hx => ?_))); clear hx hK; simp -dsimp -implicitDefEqProofs only [go_sem, eq_self, ↓reduceIte]; (try simp (disch := omega) only [wrap_i64, wrap_u64, wrap_u32, wrap_u8]))) | omega))
  · refine ⟨i + 1, by omega, by omega, ?_⟩
    simp -dsimp -implicitDefEqProofs only [go_sem, eq_self, ↓reduceIte]
    exact wkF
  · exact C_ret rfl ⟨_, rfl, VLe.refl _⟩
theorem sameListS (s : St) (g : Nat) (n : Nat) (hn : n ≤ 1000) : Pure Tryz.prog Γ 73 [.rd 3 n (sf s g), .rd 3 n (sf s g)] (.lit (.bool true)) := by
  refine Pure_at Tryz.func73 rfl 26 rfl (Nat.le_of_ble_eq_true rfl) rfl fun k => ?_
  (repeat' (first | (refine C_seq rfl ?_) | (refine C_block rfl ?_) | (refine C_skip rfl ?_; (try simp -dsimp -implicitDefEqProofs only [go_sem, eq_self, ↓reduceIte])) | (refine C_exit rfl ?_; (try simp -dsimp -implicitDefEqProofs only [go_sem, eq_self, ↓reduceIte])) | (refine C_cond rfl _ rfl (fun ht => ?_) (fun ht => ?_) <;> (try (simp only [nf] at ht)) <;> (try (exfalso; omega))) | ((first | (refine S_reg0 rfl [0,1,4,5,10,14,25] rfl rfl (fun K hK => ?_)) | (refine S_drw0 rfl [0,1,4,5,10,14,25] rfl (by kernel_rfl) rfl (fun K hK => ?_))); simp -dsimp -implicitDefEqProofs only [go_sem, eq_self, ↓reduceIte]; (repeat' (first | (refine And.intro ?_ ?_) | (refine gs_both (fun hb => ?_) (fun hb => ?_) <;> (have hg := hb; (try simp only [nfb] at hg); simp -dsimp -implicitDefEqProofs only [go_sem, hb, hg, eq_self, ↓reduceIte]; clear hb; (try simp only [nfe] at hg))))); any_goals ((first | (refine hK _ _ _ _ (fun hx => ?_)) | (refine hK _ _ _ _ (drawA (fun i => i - k)) (fun hx => ?_)) | (refine hK _ _ _ _ drawB (fun hx => ?_))); clear hx hK; simp -dsimp -implicitDefEqProofs only [go_sem, eq_self, ↓reduceIte]; (try simp (disch := omega) only [wrap_i64, wrap_u64, wrap_u32, wrap_u8]))) | omega))
  refine M_forO (X := Nat) rfl [0,1,4,5,10,14,25] k (fun i => [(5, .lit (.int .i64 (i : Int)))]) (fun i => []) (fun i => i ≤ n) (fun i => n - i) 0 ?_ (Nat.zero_le _) ?_
  · simp -dsimp -implicitDefEqProofs only [go_sem, eq_self, ↓reduceIte]
    exact wkF
  intro i hi
  simp -dsimp -implicitDefEqProofs only [go_sem, eq_self, ↓reduceIte]
  (repeat' (first | (refine C_seq rfl ?_) | (refine C_block rfl ?_) | (refine C_skip rfl ?_; (try simp -dsimp -implicitDefEqProofs only [go_sem, eq_self, ↓reduceIte])) | (refine C_exit rfl ?_; (try simp -dsimp -implicitDefEqProofs only [go_sem, eq_self, ↓reduceIte])) | (refine C_cond rfl _ rfl (fun ht => ?_) (fun ht => ?_) <;> (try (simp only [nf] at ht)) <;> (try (exfalso; omega))) | ((first | (refine S_reg0 rfl [0,1,4,5,10,14,25] rfl rfl (fun K hK => ?_)) | (refine S_drw0 rfl [0,1,4,5,10,14,25] rfl (by kernel_rfl) rfl (fun K hK => ?_))); simp -dsimp -implicitDefEqProofs only [go_sem, eq_self, ↓reduceIte]; (repeat' (first | (refine And.intro ?_ ?_) | (refine gs_both (fun hb => ?_) (fun hb => ?_) <;> (have hg := hb; (try simp only [nfb] at hg); simp -dsimp -implicitDefEqProofs only [go_sem, hb, hg, eq_self, ↓reduceIte]; clear hb; (try simp only [nfe] at hg))))); any_goals ((first | (refine hK _ _ _ _ (fun hx => ?_)) | (refine hK _ _ _ _ (drawA (fun i => i - k)) (fun hx => ?_)) | (refine hK _ _ _ _ drawB (fun hx => ?_))); clear hx hK; simp -dsimp -implicitDefEqProofs only [go_sem, eq_self, ↓reduceIte]; (try simp (disch := omega) only [wrap_i64, wrap_u64, wrap_u32, wrap_u8]))) | omega))
  · refine ⟨i + 1, by omega, by omega, ?_⟩
    simp -dsimp -implicitDefEqProofs only [go_sem, eq_self, ↓reduceIte]
    exact wkF
  · exact C_ret rfl ⟨_, rfl, VLe.refl _⟩
theorem sameListG (s : St) (n : Nat) (hn : n ≤ 1000) : Pure Tryz.prog Γ 90 [.rd 2 n (gf s), .rd 2 n (gf s)] (.lit (.bool true)) := by
  refine Pure_at Tryz.func90 rfl 26 rfl (Nat.le_of_ble_eq_true rfl) rfl fun k => ?_
  (repeat' (first | (refine C_seq rfl ?_) | (refine C_block rfl ?_) | (refine C_skip rfl ?_; (try simp -dsimp -implicitDefEqProofs only [go_sem, eq_self, ↓reduceIte])) | (refine C_exit rfl ?_; (try simp -dsimp -implicitDefEqProofs only [go_sem, eq_self, ↓reduceIte])) | (refine C_cond rfl _ rfl (fun ht => ?_) (fun ht => ?_) <;> (try (simp only [nf] at ht)) <;> (try (exfalso; omega))) | ((first | (refine S_reg0 rfl [0,1,4,5,10,14,25] rfl rfl (fun K hK => ?_)) | (refine S_drw0 rfl [0,1,4,5,10,14,25] rfl (by kernel_rfl) rfl (fun K hK => ?_))); simp -dsimp -implicitDefEqProofs only [go_sem, eq_self, ↓reduceIte]; (repeat' (first | (refine And.intro ?_ ?_) | (refine gs_both (fun hb => ?_) (fun hb => ?_) <;> (have hg := hb; (try simp only [nfb] at hg); simp -dsimp -implicitDefEqProofs only [go_sem, hb, hg, eq_self, ↓reduceIte]; clear hb; (try simp only [nfe] at hg))))); any_goals ((first | (refine hK _ _ _ _ (fun hx => ?_)) | (refine hK _ _ _ _ (drawA (fun i => i - k)) (fun hx => ?_)) | (refine hK _ _ _ _ drawB (fun hx => ?_))); clear hx hK; simp -dsimp -implicitDefEqProofs only [go_sem, eq_self, ↓reduceIte]; (try simp (disch := omega) only [wrap_i64, wrap_u64, wrap_u32, wrap_u8]))) | omega))
  refine M_forO (X := Nat) rfl [0,1,4,5,10,14,25] k (fun i => [(5, .lit (.int .i64 (i : Int)))]) (fun i => []) (fun i => i ≤ n) (fun i => n - i) 0 ?_ (Nat.zero_le _) ?_
  · simp -dsimp -implicitDefEqProofs only [go_sem, eq_self, ↓reduceIte]
    exact wkF
  intro i hi
  simp -dsimp -implicitDefEqProofs only [go_sem, eq_self, ↓reduceIte]
  (repeat' (first | (refine C_seq rfl ?_) | (refine C_block rfl ?_) | (refine C_skip rfl ?_; (try simp -dsimp -implicitDefEqProofs only [go_sem, eq_self, ↓reduceIte])) | (refine C_exit rfl ?_; (try simp -dsimp -implicitDefEqProofs only [go_sem, eq_self, ↓reduceIte])) | (refine C_cond rfl _ rfl (fun ht => ?_) (fun ht => ?_) <;> (try (simp only [nf] at ht)) <;> (try (exfalso; omega))) | ((first | (refine S_reg0 rfl [0,1,4,5,10,14,25] rfl rfl (fun K hK => ?_)) | (refine S_drw0 rfl [0,1,4,5,10,14,25] rfl (by kernel_rfl) rfl (fun K hK => ?_))); simp -dsimp -implicitDefEqProofs only [go_sem, eq_self, ↓reduceIte]; (repeat' (first | (refine And.intro ?_ ?_) | (refine gs_both (fun hb => ?_) (fun hb => ?_) <;> (have hg := hb; (try simp only [nfb] at hg); simp -dsimp -implicitDefEqProofs only [go_sem, hb, hg, eq_self, ↓reduceIte]; clear hb; (try simp only [nfe] at hg))))); any_goals ((first | (refine hK _ _ _ _ (fun hx => ?_)) | (refine hK _ _ _ _ (drawA (fun i => i - k)) (fun hx => ?_)) | (refine hK _ _ _ _ drawB (fun hx => ?_))); clear hx hK; simp -dsimp -implicitDefEqProofs only [go_sem, eq_self, ↓reduceIte]; (try simp (disch := omega) only [wrap_i64, wrap_u64, wrap_u32, wrap_u8]))) | omega))
  · refine ⟨i + 1, by omega, by omega, ?_⟩
    simp -dsimp -implicitDefEqProofs only [go_sem, eq_self, ↓reduceIte]
    exact wkF
  · exact C_ret rfl ⟨_, rfl, VLe.refl _⟩
theorem sameIntsK (s : St) (n : Nat) (hn : n ≤ 1000) : Pure Tryz.prog Γ 51 [.rd 1 n (kf s), .rd 1 n (kf s)] (.lit (.bool true)) := by
  refine Pure_at Tryz.func51 rfl 26 rfl (Nat.le_of_ble_eq_true rfl) rfl fun k => ?_
  (repeat' (first | (refine C_seq rfl ?_) | (refine C_block rfl ?_) | (refine C_skip rfl ?_; (try simp -dsimp -implicitDefEqProofs only [go_sem, eq_self, ↓reduceIte])) | (refine C_exit rfl ?_; (try simp -dsimp -implicitDefEqProofs only [go_sem, eq_self, ↓reduceIte])) | (refine C_cond rfl _ rfl (fun ht => ?_) (fun ht => ?_) <;> (try (simp only [nf] at ht)) <;> (try (exfalso; omega))) | ((first | (refine S_reg0 rfl [0,1,4,5,10,14,25] rfl rfl (fun K hK => ?_)) | (refine S_drw0 rfl [0,1,4,5,10,14,25] rfl (by kernel_rfl) rfl (fun K hK => ?_))); simp -dsimp -implicitDefEqProofs only [go_sem, eq_self, ↓reduceIte]; (repeat' (first | (refine And.intro ?_ ?_) | (refine gs_both (fun hb => ?_) (fun hb => ?_) <;> (have hg := hb; (try simp only [nfb] at hg); simp -dsimp -implicitDefEqProofs only [go_sem, hb, hg, eq_self, ↓reduceIte]; clear hb; (try simp only [nfe] at hg))))); any_goals ((first | (refine hK _ _ _ _ (fun hx => ?_)) | (refine hK _ _ _ _ (drawA (fun i => i - k)) (fun hx => ?_)) | (refine hK _ _ _ _ drawB (fun hx => ?_))); clear hx hK; simp -dsimp -implicitDefEqProofs only [go_sem, eq_self, ↓reduceIte]; (try simp (disch := omega) only [wrap_i64, wrap_u64, wrap_u32, wrap_u8]))) | omega))
  refine M_forO (X := Nat) rfl [0,1,4,5,10,14,25] k (fun i => [(5, .lit (.int .i64 (i : Int)))]) (fun i => []) (fun i => i ≤ n) (fun i => n - i) 0 ?_ (Nat.zero_le _) ?_
  · simp -dsimp -implicitDefEqProofs only [go_sem, eq_self, ↓reduceIte]
    exact wkF
  intro i hi
  simp -dsimp -implicitDefEqProofs only [go_sem, eq_self, ↓reduceIte]
  (repeat' (first | (refine C_seq rfl ?_) | (refine C_block rfl ?_) | (refine C_skip rfl ?_; (try simp -dsimp -implicitDefEqProofs only [go_sem, eq_self, ↓reduceIte])) | (refine C_exit rfl ?_; (try simp -dsimp -implicitDefEqProofs only [go_sem, eq_self, ↓reduceIte])) | (refine C_cond rfl _ rfl (fun ht => ?_) (fun ht => ?_) <;> (try (simp only [nf] at ht)) <;> (try (exfalso; omega))) | ((first | (refine S_reg0 rfl [0,1,4,5,10,14,25] rfl rfl (fun K hK => ?_)) | (refine S_drw0 rfl [0,1,4,5,10,14,25] rfl (by kernel_rfl) rfl (fun K hK => ?_))); simp -dsimp -implicitDefEqProofs only [go_sem, eq_self, ↓reduceIte]; (repeat' (first | (refine And.intro ?_ ?_) | (refine gs_both (fun hb => ?_) (fun hb => ?_) <;> (have hg := hb; (try simp only [nfb] at hg); simp -dsimp -implicitDefEqProofs only [go_sem, hb, hg, eq_self, ↓reduceIte]; clear hb; (try simp only [nfe] at hg))))); any_goals ((first | (refine hK _ _ _ _ (fun hx => ?_)) | (refine hK _ _ _ _ (drawA (fun i => i - k)) (fun hx => ?_)) | (refine hK _ _ _ _ drawB (fun hx => ?_))); clear hx hK; simp -dsimp -implicitDefEqProofs only [go_sem, eq_self, ↓reduceIte]; (try simp (disch := omega) only [wrap_i64, wrap_u64, wrap_u32, wrap_u8]))) | omega))
  · refine ⟨i + 1, by omega, by omega, ?_⟩
    simp -dsimp -implicitDefEqProofs only [go_sem, eq_self, ↓reduceIte]
    exact wkF
  · exact C_ret rfl ⟨_, rfl, VLe.refl _⟩
theorem sameIntsU (s : St) (n : Nat) (hn : n ≤ 1000) : Pure Tryz.prog Γ 51 [.rd 1 n (uf s), .rd 1 n (uf s)] (.lit (.bool true)) := by
  refine Pure_at Tryz.func51 rfl 26 rfl (Nat.le_of_ble_eq_true rfl) rfl fun k => ?_
  (repeat' (first | (refine C_seq rfl ?_) | (refine C_block rfl ?_) | (refine C_skip rfl ?_; (try simp -dsimp -implicitDefEqProofs only [go_sem, eq_self, ↓reduceIte])) | (refine C_exit rfl ?_; (try simp -dsimp -implicitDefEqProofs only [go_sem, eq_self, ↓reduceIte])) | (refine C_cond rfl _ rfl (fun ht => ?_) (fun ht => ?_) <;> (try (simp only [nf] at ht)) <;> (try (exfalso; omega))) | ((first | (refine S_reg0 rfl [0,1,4,5,10,14,25] rfl rfl (fun K hK => ?_)) | (refine S_drw0 rfl [0,1,4,5,10,14,25] rfl (by kernel_rfl) rfl (fun K hK => ?_))); simp -dsimp -implicitDefEqProofs only [go_sem, eq_self, ↓reduceIte]; (repeat' (first | (refine And.intro ?_ ?_) | (refine gs_both (fun hb => ?_) (fun hb => ?_) <;> (have hg := hb; (try simp only [nfb] at hg); simp -dsimp -implicitDefEqProofs only [go_sem, hb, hg, eq_self, ↓reduceIte]; clear hb; (try simp only [nfe] at hg))))); any_goals ((first | (refine hK _ _ _ _ (fun hx => ?_)) | (refine hK _ _ _ _ (drawA (fun i => i - k)) (fun hx => ?_)) | (refine hK _ _ _ _ drawB (fun hx => ?_))); clear hx hK; simp -dsimp -implicitDefEqProofs only [go_sem, eq_self, ↓reduceIte]; (try simp (disch := omega) only [wrap_i64, wrap_u64, wrap_u32, wrap_u8]))) | omega))
  refine M_forO (X := Nat) rfl [0,1,4,5,10,14,25] k (fun i => [(5, .lit (.int .i64 (i : Int)))]) (fun i => []) (fun i => i ≤ n) (fun i => n - i) 0 ?_ (Nat.zero_le _) ?_
  · simp -dsimp -implicitDefEqProofs only [go_sem, eq_self, ↓reduceIte]
    exact wkF
  intro i hi
  simp -dsimp -implicitDefEqProofs only [go_sem, eq_self, ↓reduceIte]
  (repeat' (first | (refine C_seq rfl ?_) | (refine C_block rfl ?_) | (refine C_skip rfl ?_; (try simp -dsimp -implicitDefEqProofs only [go_sem, eq_self, ↓reduceIte])) | (refine C_exit rfl ?_; (try simp -dsimp -implicitDefEqProofs only [go_sem, eq_self, ↓reduceIte])) | (refine C_cond rfl _ rfl (fun ht => ?_) (fun ht => ?_) <;> (try (simp only [nf] at ht)) <;> (try (exfalso; omega))) | ((first | (refine S_reg0 rfl [0,1,4,5,10,14,25] rfl rfl (fun K hK => ?_)) | (refine S_drw0 rfl [0,1,4,5,10,14,25] rfl (by kernel_rfl) rfl (fun K hK => ?_))); simp -dsimp -implicitDefEqProofs only [go_sem, eq_self, ↓reduceIte]; (repeat' (first | (refine And.intro ?_ ?_) | (refine gs_both (fun hb => ?_) (fun hb => ?_) <;> (have hg := hb; (try simp only [nfb] at hg); simp -dsimp -implicitDefEqProofs only [go_sem, hb, hg, eq_self, ↓reduceIte]; clear hb; (try simp only [nfe] at hg))))); any_goals ((first | (refine hK _ _ _ _ (fun hx => ?_)) | (refine hK _ _ _ _ (drawA (fun i => i - k)) (fun hx => ?_)) | (refine hK _ _ _ _ drawB (fun hx => ?_))); clear hx hK; simp -dsimp -implicitDefEqProofs only [go_sem, eq_self, ↓reduceIte]; (try simp (disch := omega) only [wrap_i64, wrap_u64, wrap_u32, wrap_u8]))) | omega))
  · refine ⟨i + 1, by omega, by omega, ?_⟩
    simp -dsimp -implicitDefEqProofs only [go_sem, eq_self, ↓reduceIte]
    exact wkF
  · exact C_ret rfl ⟨_, rfl, VLe.refl _⟩
theorem sameTasks (s : St) (n : Nat) (hn : n ≤ 1000) : Pure Tryz.prog Γ 52 [.rd 8 n (tf s), .rd 8 n (tf s)] (.lit (.bool true)) := by
  refine Pure_at Tryz.func52 rfl 8 rfl (Nat.le_of_ble_eq_true rfl) rfl fun k => ?_
  (repeat' (first | (refine C_seq rfl ?_) | (refine C_block rfl ?_) | (refine C_skip rfl ?_; (try simp -dsimp -implicitDefEqProofs only [go_sem, eq_self, ↓reduceIte])) | (refine C_exit rfl ?_; (try simp -dsimp -implicitDefEqProofs only [go_sem, eq_self, ↓reduceIte])) | (refine C_cond rfl _ rfl (fun ht => ?_) (fun ht => ?_) <;> (try (simp only [nf] at ht)) <;> (try (exfalso; omega))) | ((first | (refine S_reg0 rfl [0,1,4] rfl rfl (fun K hK => ?_)) | (refine S_drw0 rfl [0,1,4] rfl (by kernel_rfl) rfl (fun K hK => ?_))); simp -dsimp -implicitDefEqProofs only [go_sem, eq_self, ↓reduceIte]; (repeat' (first | (refine And.intro ?_ ?_) | (refine gs_both (fun hb => ?_) (fun hb => ?_) <;> (have hg := hb; (try simp only [nfb] at hg); simp -dsimp -implicitDefEqProofs only [go_sem, hb, hg, eq_self, ↓reduceIte]; clear hb; (try simp only [nfe] at hg))))); any_goals ((first | (refine hK _ _ _ _ (fun hx => ?_)) | (refine hK _ _ _ _ (drawA (fun i => i - k)) (fun hx => ?_)) | (refine hK _ _ _ _ drawB (fun hx => ?_))); clear hx hK; simp -dsimp -implicitDefEqProofs only [go_sem, eq_self, ↓reduceIte]; (try simp (disch := omega) only [wrap_i64, wrap_u64, wrap_u32, wrap_u8]))) | omega))
  refine S_reg rfl [0,1,4] [.ret (.lit (.bool true))] rfl (fun K hK => ?_); simp -dsimp -implicitDefEqProofs only [go_sem, eq_self, ↓reduceIte]; (repeat' (first | (refine And.intro ?_ ?_) | (refine gs_both (fun hb => ?_) (fun hb => ?_) <;> (have hg := hb; (try simp only [nfb] at hg); simp -dsimp -implicitDefEqProofs only [go_sem, hb, hg, eq_self, ↓reduceIte]; clear hb; (try simp only [nfe] at hg))))); (any_goals ((refine hK _ _ _ _ (fun hx => ?_)); clear hx hK; simp -dsimp -implicitDefEqProofs only [go_sem, eq_self, ↓reduceIte]; (try simp (disch := omega) only [wrap_i64, wrap_u64, wrap_u32, wrap_u8]))); (all_goals (try omega))
  · exact sameListT s n hn
  · exact C_ret rfl ⟨_, rfl, VLe.refl _⟩
theorem sameSpots (s : St) (g : Nat) (n : Nat) (hn : n ≤ 1000) : Pure Tryz.prog Γ 53 [.rd 3 n (sf s g), .rd 3 n (sf s g)] (.lit (.bool true)) := by
  refine Pure_at Tryz.func53 rfl 8 rfl (Nat.le_of_ble_eq_true rfl) rfl fun k => ?_
  (repeat' (first | (refine C_seq rfl ?_) | (refine C_block rfl ?_) | (refine C_skip rfl ?_; (try simp -dsimp -implicitDefEqProofs only [go_sem, eq_self, ↓reduceIte])) | (refine C_exit rfl ?_; (try simp -dsimp -implicitDefEqProofs only [go_sem, eq_self, ↓reduceIte])) | (refine C_cond rfl _ rfl (fun ht => ?_) (fun ht => ?_) <;> (try (simp only [nf] at ht)) <;> (try (exfalso; omega))) | ((first | (refine S_reg0 rfl [0,1,4] rfl rfl (fun K hK => ?_)) | (refine S_drw0 rfl [0,1,4] rfl (by kernel_rfl) rfl (fun K hK => ?_))); simp -dsimp -implicitDefEqProofs only [go_sem, eq_self, ↓reduceIte]; (repeat' (first | (refine And.intro ?_ ?_) | (refine gs_both (fun hb => ?_) (fun hb => ?_) <;> (have hg := hb; (try simp only [nfb] at hg); simp -dsimp -implicitDefEqProofs only [go_sem, hb, hg, eq_self, ↓reduceIte]; clear hb; (try simp only [nfe] at hg))))); any_goals ((first | (refine hK _ _ _ _ (fun hx => ?_)) | (refine hK _ _ _ _ (drawA (fun i => i - k)) (fun hx => ?_)) | (refine hK _ _ _ _ drawB (fun hx => ?_))); clear hx hK; simp -dsimp -implicitDefEqProofs only [go_sem, eq_self, ↓reduceIte]; (try simp (disch := omega) only [wrap_i64, wrap_u64, wrap_u32, wrap_u8]))) | omega))
  refine S_reg rfl [0,1,4] [.ret (.lit (.bool true))] rfl (fun K hK => ?_); simp -dsimp -implicitDefEqProofs only [go_sem, eq_self, ↓reduceIte]; (repeat' (first | (refine And.intro ?_ ?_) | (refine gs_both (fun hb => ?_) (fun hb => ?_) <;> (have hg := hb; (try simp only [nfb] at hg); simp -dsimp -implicitDefEqProofs only [go_sem, hb, hg, eq_self, ↓reduceIte]; clear hb; (try simp only [nfe] at hg))))); (any_goals ((refine hK _ _ _ _ (fun hx => ?_)); clear hx hK; simp -dsimp -implicitDefEqProofs only [go_sem, eq_self, ↓reduceIte]; (try simp (disch := omega) only [wrap_i64, wrap_u64, wrap_u32, wrap_u8]))); (all_goals (try omega))
  · exact sameListS s g n hn
  · exact C_ret rfl ⟨_, rfl, VLe.refl _⟩
theorem sameGroups (s : St) (n : Nat) (hn : n ≤ 1000) : Pure Tryz.prog Γ 71 [.rd 2 n (gf s), .rd 2 n (gf s)] (.lit (.bool true)) := by
  refine Pure_at Tryz.func71 rfl 8 rfl (Nat.le_of_ble_eq_true rfl) rfl fun k => ?_
  (repeat' (first | (refine C_seq rfl ?_) | (refine C_block rfl ?_) | (refine C_skip rfl ?_; (try simp -dsimp -implicitDefEqProofs only [go_sem, eq_self, ↓reduceIte])) | (refine C_exit rfl ?_; (try simp -dsimp -implicitDefEqProofs only [go_sem, eq_self, ↓reduceIte])) | (refine C_cond rfl _ rfl (fun ht => ?_) (fun ht => ?_) <;> (try (simp only [nf] at ht)) <;> (try (exfalso; omega))) | ((first | (refine S_reg0 rfl [0,1,4] rfl rfl (fun K hK => ?_)) | (refine S_drw0 rfl [0,1,4] rfl (by kernel_rfl) rfl (fun K hK => ?_))); simp -dsimp -implicitDefEqProofs only [go_sem, eq_self, ↓reduceIte]; (repeat' (first | (refine And.intro ?_ ?_) | (refine gs_both (fun hb => ?_) (fun hb => ?_) <;> (have hg := hb; (try simp only [nfb] at hg); simp -dsimp -implicitDefEqProofs only [go_sem, hb, hg, eq_self, ↓reduceIte]; clear hb; (try simp only [nfe] at hg))))); any_goals ((first | (refine hK _ _ _ _ (fun hx => ?_)) | (refine hK _ _ _ _ (drawA (fun i => i - k)) (fun hx => ?_)) | (refine hK _ _ _ _ drawB (fun hx => ?_))); clear hx hK; simp -dsimp -implicitDefEqProofs only [go_sem, eq_self, ↓reduceIte]; (try simp (disch := omega) only [wrap_i64, wrap_u64, wrap_u32, wrap_u8]))) | omega))
  refine S_reg rfl [0,1,4] [.ret (.lit (.bool true))] rfl (fun K hK => ?_); simp -dsimp -implicitDefEqProofs only [go_sem, eq_self, ↓reduceIte]; (repeat' (first | (refine And.intro ?_ ?_) | (refine gs_both (fun hb => ?_) (fun hb => ?_) <;> (have hg := hb; (try simp only [nfb] at hg); simp -dsimp -implicitDefEqProofs only [go_sem, hb, hg, eq_self, ↓reduceIte]; clear hb; (try simp only [nfe] at hg))))); (any_goals ((refine hK _ _ _ _ (fun hx => ?_)); clear hx hK; simp -dsimp -implicitDefEqProofs only [go_sem, eq_self, ↓reduceIte]; (try simp (disch := omega) only [wrap_i64, wrap_u64, wrap_u32, wrap_u8]))); (all_goals (try omega))
  · exact sameListG s n hn
  · exact C_ret rfl ⟨_, rfl, VLe.refl _⟩
def St.cfg (s : St) : List AVal := [.lit (.int .i64 s.cpus), .lit (.int .u64 s.credit), .rd 2 s.ng (gf s)]
attribute [go_sem] St.cfg
structure St.Small (s : St) : Prop where
  ng : s.ng ≤ 1000
  nk : s.nk ≤ 1000
  nu : s.nu ≤ 1000
  nt : s.nt ≤ 1000
  ns : s.ns ≤ 1000
  nsp : ∀ g, g < s.ns → s.nsp g ≤ 1000
theorem sameConfig (s : St) (hs : s.Small) : Pure Tryz.prog Γ 50 [.agg s.cfg, .agg s.cfg] (.lit (.bool true)) := by
  have hng := hs.ng
  refine Pure_at Tryz.func50 rfl 24 rfl (Nat.le_of_ble_eq_true rfl) rfl fun k => ?_
  (repeat' (first | (refine C_seq rfl ?_) | (refine C_block rfl ?_) | (refine C_skip rfl ?_; (try simp -dsimp -implicitDefEqProofs only [go_sem, eq_self, ↓reduceIte])) | (refine C_exit rfl ?_; (try simp -dsimp -implicitDefEqProofs only [go_sem, eq_self, ↓reduceIte])) | (refine C_cond rfl _ rfl (fun ht => ?_) (fun ht => ?_) <;> (try (simp only [nf] at ht)) <;> (try (exfalso; omega))) | ((first | (refine S_reg0 rfl [0,1,2,3,4] rfl rfl (fun K hK => ?_)) | (refine S_drw0 rfl [0,1,2,3,4] rfl (by kernel_rfl) rfl (fun K hK => ?_))); simp -dsimp -implicitDefEqProofs only [go_sem, eq_self, ↓reduceIte]; (repeat' (first | (refine And.intro ?_ ?_) | (refine gs_both (fun hb => ?_) (fun hb => ?_) <;> (have hg := hb; (try simp only [nfb] at hg); simp -dsimp -implicitDefEqProofs only [go_sem, hb, hg, eq_self, ↓reduceIte]; clear hb; (try simp only [nfe] at hg))))); any_goals ((first | (refine hK _ _ _ _ (fun hx => ?_)) | (refine hK _ _ _ _ (drawA (fun i => i - k)) (fun hx => ?_)) | (refine hK _ _ _ _ drawB (fun hx => ?_))); clear hx hK; simp -dsimp -implicitDefEqProofs only [go_sem, eq_self, ↓reduceIte]; (try simp (disch := omega) only [wrap_i64, wrap_u64, wrap_u32, wrap_u8]))) | omega))
  refine S_reg rfl [0,1,2,3,4] [.ret (.lit (.bool true))] rfl (fun K hK => ?_); simp -dsimp -implicitDefEqProofs only [go_sem, eq_self, ↓reduceIte]; (repeat' (first | (refine And.intro ?_ ?_) | (refine gs_both (fun hb => ?_) (fun hb => ?_) <;> (have hg := hb; (try simp only [nfb] at hg); simp -dsimp -implicitDefEqProofs only [go_sem, hb, hg, eq_self, ↓reduceIte]; clear hb; (try simp only [nfe] at hg))))); (any_goals ((refine hK _ _ _ _ (fun hx => ?_)); clear hx hK; simp -dsimp -implicitDefEqProofs only [go_sem, eq_self, ↓reduceIte]; (try simp (disch := omega) only [wrap_i64, wrap_u64, wrap_u32, wrap_u8]))); (all_goals (try omega))
  · exact sameGroups s s.ng hng
  all_goals (exact C_ret rfl ⟨_, rfl, VLe.refl _⟩)
theorem sameState (s : St) (hs : s.Small) : Pure Tryz.prog Γ 27 [.agg s.cells, .agg s.cells] (.lit (.bool true)) := by
  obtain ⟨hng, hnk, hnu, hnt, hns, hnsp⟩ := hs
  refine Pure_at Tryz.func27 rfl 64 rfl (Nat.le_of_ble_eq_true rfl) rfl fun k => ?_
  (repeat' (first | (refine C_seq rfl ?_) | (refine C_block rfl ?_) | (refine C_skip rfl ?_; (try simp -dsimp -implicitDefEqProofs only [go_sem, eq_self, ↓reduceIte])) | (refine C_exit rfl ?_; (try simp -dsimp -implicitDefEqProofs only [go_sem, eq_self, ↓reduceIte])) | (refine C_cond rfl _ rfl (fun ht => ?_) (fun ht => ?_) <;> (try (simp only [nf] at ht)) <;> (try (exfalso; omega))) | ((first | (refine S_reg0 rfl [0,1,2,3,4,5,44,49,63] rfl rfl (fun K hK => ?_)) | (refine S_drw0 rfl [0,1,2,3,4,5,44,49,63] rfl (by kernel_rfl) rfl (fun K hK => ?_))); simp -dsimp -implicitDefEqProofs only [go_sem, eq_self, ↓reduceIte]; (repeat' (first | (refine And.intro ?_ ?_) | (refine gs_both (fun hb => ?_) (fun hb => ?_) <;> (have hg := hb; (try simp only [nfb] at hg); simp -dsimp -implicitDefEqProofs only [go_sem, hb, hg, eq_self, ↓reduceIte]; clear hb; (try simp only [nfe] at hg))))); any_goals ((first | (refine hK _ _ _ _ (fun hx => ?_)) | (refine hK _ _ _ _ (drawA (fun i => i - k)) (fun hx => ?_)) | (refine hK _ _ _ _ drawB (fun hx => ?_))); clear hx hK; simp -dsimp -implicitDefEqProofs only [go_sem, eq_self, ↓reduceIte]; (try simp (disch := omega) only [wrap_i64, wrap_u64, wrap_u32, wrap_u8]))) | omega))
  refine S_reg rfl [0,1,2,3,4,5,44,49,63] [.ret (.lit (.bool true)), .ret (.lit (.bool true)), .ret (.lit (.bool true)), .ret (.lit (.bool true))] rfl (fun K hK => ?_); simp -dsimp -implicitDefEqProofs only [go_sem, eq_self, ↓reduceIte]; (repeat' (first | (refine And.intro ?_ ?_) | (refine gs_both (fun hb => ?_) (fun hb => ?_) <;> (have hg := hb; (try simp only [nfb] at hg); simp -dsimp -implicitDefEqProofs only [go_sem, hb, hg, eq_self, ↓reduceIte]; clear hb; (try simp only [nfe] at hg))))); (any_goals ((refine hK _ _ _ _ (fun hx => ?_)); clear hx hK; simp -dsimp -implicitDefEqProofs only [go_sem, eq_self, ↓reduceIte]; (try simp (disch := omega) only [wrap_i64, wrap_u64, wrap_u32, wrap_u8]))); (all_goals (try omega))
  · exact sameConfig s ⟨hng, hnk, hnu, hnt, hns, hnsp⟩
  · exact sameIntsK s s.nk hnk
  · exact sameIntsU s s.nu hnu
  · exact sameTasks s s.nt hnt
  (repeat' (first | (refine C_seq rfl ?_) | (refine C_block rfl ?_) | (refine C_skip rfl ?_; (try simp -dsimp -implicitDefEqProofs only [go_sem, eq_self, ↓reduceIte])) | (refine C_exit rfl ?_; (try simp -dsimp -implicitDefEqProofs only [go_sem, eq_self, ↓reduceIte])) | (refine C_cond rfl _ rfl (fun ht => ?_) (fun ht => ?_) <;> (try (simp only [nf] at ht)) <;> (try (exfalso; omega))) | ((first | (refine S_reg0 rfl [0,1,2,3,4,5,44,49,63] rfl rfl (fun K hK => ?_)) | (refine S_drw0 rfl [0,1,2,3,4,5,44,49,63] rfl (by kernel_rfl) rfl (fun K hK => ?_))); simp -dsimp -implicitDefEqProofs only [go_sem, eq_self, ↓reduceIte]; (repeat' (first | (refine And.intro ?_ ?_) | (refine gs_both (fun hb => ?_) (fun hb => ?_) <;> (have hg := hb; (try simp only [nfb] at hg); simp -dsimp -implicitDefEqProofs only [go_sem, hb, hg, eq_self, ↓reduceIte]; clear hb; (try simp only [nfe] at hg))))); any_goals ((first | (refine hK _ _ _ _ (fun hx => ?_)) | (refine hK _ _ _ _ (drawA (fun i => i - k)) (fun hx => ?_)) | (refine hK _ _ _ _ drawB (fun hx => ?_))); clear hx hK; simp -dsimp -implicitDefEqProofs only [go_sem, eq_self, ↓reduceIte]; (try simp (disch := omega) only [wrap_i64, wrap_u64, wrap_u32, wrap_u8]))) | omega))
  refine M_forO (X := Nat) rfl [0,1,2,3,4,5,44,49,63] (k + 2) (fun i => [(5, .lit (.int .i64 (i : Int)))]) (fun i => [(k + 1, ⟨7, true, [s.cells]⟩), (k, ⟨7, true, [s.cells]⟩)]) (fun i => i ≤ s.ns) (fun i => s.ns - i) 0 ?_ (Nat.zero_le _) ?_
  · simp -dsimp -implicitDefEqProofs only [go_sem, eq_self, ↓reduceIte]
    exact wkF
  intro i hi
  simp -dsimp -implicitDefEqProofs only [go_sem, eq_self, ↓reduceIte]
  (repeat' (first | (refine C_seq rfl ?_) | (refine C_block rfl ?_) | (refine C_skip rfl ?_; (try simp -dsimp -implicitDefEqProofs only [go_sem, eq_self, ↓reduceIte])) | (refine C_exit rfl ?_; (try simp -dsimp -implicitDefEqProofs only [go_sem, eq_self, ↓reduceIte])) | (refine C_cond rfl _ rfl (fun ht => ?_) (fun ht => ?_) <;> (try (simp only [nf] at ht)) <;> (try (exfalso; omega))) | ((first | (refine S_reg0 rfl [0,1,2,3,4,5,44,49,63] rfl rfl (fun K hK => ?_)) | (refine S_drw0 rfl [0,1,2,3,4,5,44,49,63] rfl (by kernel_rfl) rfl (fun K hK => ?_))); simp -dsimp -implicitDefEqProofs only [go_sem, eq_self, ↓reduceIte]; (repeat' (first | (refine And.intro ?_ ?_) | (refine gs_both (fun hb => ?_) (fun hb => ?_) <;> (have hg := hb; (try simp only [nfb] at hg); simp -dsimp -implicitDefEqProofs only [go_sem, hb, hg, eq_self, ↓reduceIte]; clear hb; (try simp only [nfe] at hg))))); any_goals ((first | (refine hK _ _ _ _ (fun hx => ?_)) | (refine hK _ _ _ _ (drawA (fun i => i - k)) (fun hx => ?_)) | (refine hK _ _ _ _ drawB (fun hx => ?_))); clear hx hK; simp -dsimp -implicitDefEqProofs only [go_sem, eq_self, ↓reduceIte]; (try simp (disch := omega) only [wrap_i64, wrap_u64, wrap_u32, wrap_u8]))) | omega))
  · have hi2 : s.nsp i ≤ 1000 := hnsp i (by omega)
    refine S_drw rfl [0,1,2,3,4,5,44,49,63] [.ret (.lit (.bool true))] (by kernel_rfl) rfl (fun K hK => ?_); simp -dsimp -implicitDefEqProofs only [go_sem, eq_self, ↓reduceIte]; (repeat' (first | (refine And.intro ?_ ?_) | (refine gs_both (fun hb => ?_) (fun hb => ?_) <;> (have hg := hb; (try simp only [nfb] at hg); simp -dsimp -implicitDefEqProofs only [go_sem, hb, hg, eq_self, ↓reduceIte]; clear hb; (try simp only [nfe] at hg))))); (any_goals ((first | (refine hK _ _ _ _ (drawA (fun i => i - k)) (fun hx => ?_)) | (refine hK _ _ _ _ drawB (fun hx => ?_))); clear hx hK; simp -dsimp -implicitDefEqProofs only [go_sem, eq_self, ↓reduceIte]; (try simp (disch := omega) only [wrap_i64, wrap_u64, wrap_u32, wrap_u8]))); (all_goals (try omega))
    all_goals (try omega)
    · exact sameSpots s i (s.nsp i) hi2
    (repeat' (first | (refine C_seq rfl ?_) | (refine C_block rfl ?_) | (refine C_skip rfl ?_; (try simp -dsimp -implicitDefEqProofs only [go_sem, eq_self, ↓reduceIte])) | (refine C_exit rfl ?_; (try simp -dsimp -implicitDefEqProofs only [go_sem, eq_self, ↓reduceIte])) | (refine C_cond rfl _ rfl (fun ht => ?_) (fun ht => ?_) <;> (try (simp only [nf] at ht)) <;> (try (exfalso; omega))) | ((first | (refine S_reg0 rfl [0,1,2,3,4,5,44,49,63] rfl rfl (fun K hK => ?_)) | (refine S_drw0 rfl [0,1,2,3,4,5,44,49,63] rfl (by kernel_rfl) rfl (fun K hK => ?_))); simp -dsimp -implicitDefEqProofs only [go_sem, eq_self, ↓reduceIte]; (repeat' (first | (refine And.intro ?_ ?_) | (refine gs_both (fun hb => ?_) (fun hb => ?_) <;> (have hg := hb; (try simp only [nfb] at hg); simp -dsimp -implicitDefEqProofs only [go_sem, hb, hg, eq_self, ↓reduceIte]; clear hb; (try simp only [nfe] at hg))))); any_goals ((first | (refine hK _ _ _ _ (fun hx => ?_)) | (refine hK _ _ _ _ (drawA (fun i => i - k)) (fun hx => ?_)) | (refine hK _ _ _ _ drawB (fun hx => ?_))); clear hx hK; simp -dsimp -implicitDefEqProofs only [go_sem, eq_self, ↓reduceIte]; (try simp (disch := omega) only [wrap_i64, wrap_u64, wrap_u32, wrap_u8]))) | omega))
    refine ⟨i + 1, by omega, by omega, ?_⟩
    simp -dsimp -implicitDefEqProofs only [go_sem, eq_self, ↓reduceIte]
    exact wkF
  · exact C_ret rfl ⟨_, rfl, VLe.refl _⟩
end Go.Proofs.T
end

section
set_option linter.unusedVariables false
set_option linter.unusedSimpArgs false
namespace Go.Proofs.T
open Go Go.AM Go.Proofs
set_option linter.unusedSimpArgs false
set_option linter.unusedVariables false
set_option maxRecDepth 4000
variable {Γ : List (Nat × List AVal)}
theorem same_eq (l : List Flt) (hn : l.length ≤ 100000) : Pure Tryz.prog Γ 25 [rows 3 (l.map Flt.row), rows 3 (l.map Flt.row)] (.lit (.bool true)) := by
  have hrow : ∀ i : Nat, i < l.length → (l.map Flt.row).getD i [] = Flt.row (l.getD i ⟨0, 0, 0⟩) := fun i hi => by
    simp [List.getD_eq_getElem?_getD, List.getElem?_map, List.getElem?_eq_getElem hi]
  simp only [rows, List.length_map]
  refine Pure_at Tryz.func25 rfl 26 rfl (Nat.le_of_ble_eq_true rfl) rfl fun k => ?_
  (repeat' (first | (refine C_seq rfl ?_) | (refine C_block rfl ?_) | (refine C_skip rfl ?_; (try simp -dsimp -implicitDefEqProofs only [go_sem, eq_self, ↓reduceIte])) | (refine C_exit rfl ?_; (try simp -dsimp -implicitDefEqProofs only [go_sem, eq_self, ↓reduceIte])) | (refine C_cond rfl _ rfl (fun ht => ?_) (fun ht => ?_) <;> (try (simp only [nf] at ht)) <;> (try (exfalso; omega))) | ((first | (refine S_reg0 rfl [0,1,4,5,6,11,12,13,14,15,24] rfl rfl (fun K hK => ?_)) | (refine S_drw0 rfl [0,1,4,5,6,11,12,13,14,15,24] rfl (by kernel_rfl) rfl (fun K hK => ?_))); simp -dsimp -implicitDefEqProofs only [go_sem, eq_self, ↓reduceIte]; (repeat' (first | (refine And.intro ?_ ?_) | (refine gs_both (fun hb => ?_) (fun hb => ?_) <;> (have hg := hb; (try simp only [nfb] at hg); simp -dsimp -implicitDefEqProofs only [go_sem, hb, hg, eq_self, ↓reduceIte]; clear hb; (try simp only [nfe] at hg))))); any_goals ((first | (refine hK _ _ _ _ (fun hx => ?_)) | (refine hK _ _ _ _ (drawA (fun i => i - k)) (fun hx => ?_)) | (refine hK _ _ _ _ drawB (fun hx => ?_))); clear hx hK; simp -dsimp -implicitDefEqProofs only [go_sem, eq_self, ↓reduceIte]; (try simp (disch := omega) only [wrap_i64, wrap_u64, wrap_u32, wrap_u8]))) | omega))
  refine M_forO (X := Nat) rfl [0,1,4,5,6,11,12,13,14,15,24] k (fun i => [(14, .lit (.int .i64 (i : Int)))]) (fun i => []) (fun i => i ≤ l.length) (fun i => l.length - i) 0 ?_ (Nat.zero_le _) ?_
  · simp -dsimp -implicitDefEqProofs only [go_sem, eq_self, ↓reduceIte]
    exact wkF
  intro i hi
  simp -dsimp -implicitDefEqProofs only [go_sem, eq_self, ↓reduceIte]
  by_cases hlt : i < l.length
  · have hr := hrow i hlt
    (repeat' (first | (refine C_seq rfl ?_) | (refine C_block rfl ?_) | (refine C_skip rfl ?_; (try simp -dsimp -implicitDefEqProofs only [go_sem, hr, Flt.row, eq_self, ↓reduceIte])) | (refine C_exit rfl ?_; (try simp -dsimp -implicitDefEqProofs only [go_sem, hr, Flt.row, eq_self, ↓reduceIte])) | (refine C_cond rfl _ rfl (fun ht => ?_) (fun ht => ?_) <;> (try (simp only [nf] at ht)) <;> (try (exfalso; omega))) | ((first | (refine S_reg0 rfl [0,1,4,5,6,11,12,13,14,15,24] rfl rfl (fun K hK => ?_)) | (refine S_drw0 rfl [0,1,4,5,6,11,12,13,14,15,24] rfl (by kernel_rfl) rfl (fun K hK => ?_))); simp -dsimp -implicitDefEqProofs only [go_sem, hr, Flt.row, eq_self, ↓reduceIte]; (repeat' (first | (refine And.intro ?_ ?_) | (refine gs_both (fun hb => ?_) (fun hb => ?_) <;> (have hg := hb; (try simp only [nfb] at hg); simp -dsimp -implicitDefEqProofs only [go_sem, hr, Flt.row, hb, hg, eq_self, ↓reduceIte]; clear hb; (try simp only [nfe] at hg))))); any_goals ((first | (refine hK _ _ _ _ (fun hx => ?_)) | (refine hK _ _ _ _ (drawOk_names (fun i => i - k) (by simp only [List.map_cons, List.map_nil, shG, hr, Flt.row, ↓reduceIte, Nat.add_sub_cancel_left, Nat.sub_self]; rfl) (by decide +kernel) (by simp -dsimp -implicitDefEqProofs only [go_sem, hr, Flt.row, eq_self, ↓reduceIte])) (fun hx => ?_)) | (refine hK _ _ _ _ (drawOk_of (by kernel_rfl) (by simp -dsimp -implicitDefEqProofs only [go_sem, hr, Flt.row, eq_self, ↓reduceIte])) (fun hx => ?_))); clear hx hK; simp -dsimp -implicitDefEqProofs only [go_sem, hr, Flt.row, eq_self, ↓reduceIte]; (try simp (disch := omega) only [wrap_i64, wrap_u64, wrap_u32, wrap_u8]))) | omega))
    refine ⟨i + 1, by omega, by omega, ?_⟩
    simp -dsimp -implicitDefEqProofs only [go_sem, hr, Flt.row, eq_self, ↓reduceIte]
    exact Mv.wk (wk_low (by omega) (by simp -dsimp -implicitDefEqProofs only [go_sem, hr, Flt.row, List.map_append, List.map_cons, List.map_nil, Flt.row, eq_self, ↓reduceIte]) (by simp -dsimp -implicitDefEqProofs only [go_sem, hr, Flt.row, List.map_append, List.map_cons, List.map_nil, Flt.row, eq_self, ↓reduceIte]) (by simp -dsimp -implicitDefEqProofs only [go_sem, hr, Flt.row, List.map_append, List.map_cons, List.map_nil, Flt.row, eq_self, ↓reduceIte]) (by simp -dsimp -implicitDefEqProofs only [go_sem, hr, Flt.row, List.map_append, List.map_cons, List.map_nil, Flt.row, eq_self, ↓reduceIte]))
  · (repeat' (first | (refine C_seq rfl ?_) | (refine C_block rfl ?_) | (refine C_skip rfl ?_; (try simp -dsimp -implicitDefEqProofs only [go_sem, eq_self, ↓reduceIte])) | (refine C_exit rfl ?_; (try simp -dsimp -implicitDefEqProofs only [go_sem, eq_self, ↓reduceIte])) | (refine C_cond rfl _ rfl (fun ht => ?_) (fun ht => ?_) <;> (try (simp only [nf] at ht)) <;> (try (exfalso; omega))) | ((first | (refine S_reg0 rfl [0,1,4,5,6,11,12,13,14,15,24] rfl rfl (fun K hK => ?_)) | (refine S_drw0 rfl [0,1,4,5,6,11,12,13,14,15,24] rfl (by kernel_rfl) rfl (fun K hK => ?_))); simp -dsimp -implicitDefEqProofs only [go_sem, eq_self, ↓reduceIte]; (repeat' (first | (refine And.intro ?_ ?_) | (refine gs_both (fun hb => ?_) (fun hb => ?_) <;> (have hg := hb; (try simp only [nfb] at hg); simp -dsimp -implicitDefEqProofs only [go_sem, hb, hg, eq_self, ↓reduceIte]; clear hb; (try simp only [nfe] at hg))))); any_goals ((first | (refine hK _ _ _ _ (fun hx => ?_)) | (refine hK _ _ _ _ (drawA (fun i => i - k)) (fun hx => ?_)) | (refine hK _ _ _ _ drawB (fun hx => ?_))); clear hx hK; simp -dsimp -implicitDefEqProofs only [go_sem, eq_self, ↓reduceIte]; (try simp (disch := omega) only [wrap_i64, wrap_u64, wrap_u32, wrap_u8]))) | omega))
    exact C_ret rfl ⟨_, rfl, VLe.refl _⟩
def SmallP (s : St) : Prop := s.cpus ≤ 10 ∧ s.ng ≤ 10 ∧ s.nk ≤ 100 ∧ s.nu ≤ 100 ∧ s.nt ≤ 40 ∧ s.ns ≤ 12 ∧ ∀ g, g < s.ns → s.nsp g ≤ 12
instance (s : St) : Decidable (SmallP s) := by unfold SmallP; infer_instance
theorem small (s : St) : Pure Tryz.prog Γ 24 [.agg s.cells] (.lit (.bool (decide (SmallP s)))) := by
  refine Pure_at Tryz.func24 rfl 51 rfl (Nat.le_of_ble_eq_true rfl) rfl fun k => ?_
  (repeat' (first | (refine C_seq rfl ?_) | (refine C_block rfl ?_) | (refine C_skip rfl ?_; (try simp -dsimp -implicitDefEqProofs only [go_sem, eq_self, ↓reduceIte])) | (refine C_exit rfl ?_; (try simp -dsimp -implicitDefEqProofs only [go_sem, eq_self, ↓reduceIte])) | (refine C_cond rfl _ rfl (fun ht => ?_) (fun ht => ?_) <;> (try (simp only [nf] at ht)) <;> (try (exfalso; omega))) | ((first | (refine S_reg0 rfl [0,1,2,4,39,41,42,43,44,49] rfl rfl (fun K hK => ?_)) | (refine S_drw0 rfl [0,1,2,4,39,41,42,43,44,49] rfl (by kernel_rfl) rfl (fun K hK => ?_))); simp -dsimp -implicitDefEqProofs only [go_sem, eq_self, ↓reduceIte]; (repeat' (first | (refine And.intro ?_ ?_) | (refine gs_both (fun hb => ?_) (fun hb => ?_) <;> (have hg := hb; (try simp only [nfb] at hg); simp -dsimp -implicitDefEqProofs only [go_sem, hb, hg, eq_self, ↓reduceIte]; clear hb; (try simp only [nfe] at hg))))); any_goals ((first | (refine hK _ _ _ _ (fun hx => ?_)) | (refine hK _ _ _ _ (drawA (fun i => i - k)) (fun hx => ?_)) | (refine hK _ _ _ _ drawB (fun hx => ?_))); clear hx hK; simp -dsimp -implicitDefEqProofs only [go_sem, eq_self, ↓reduceIte]; (try simp (disch := omega) only [wrap_i64, wrap_u64, wrap_u32, wrap_u8]))) | omega))
  any_goals (refine C_ret rfl ⟨_, rfl, VLe.of_eq ?_⟩; rw [decide_eq_false (by rintro ⟨h1, h2, h3, h4, h5, h6, _⟩; omega)])
  refine M_forO (X := Nat) rfl [0,1,2,4,39,41,42,43,44,49] (k + 1) (fun i => [(43, .lit (.int .i64 (i : Int)))]) (fun i => [(k, ⟨7, true, [s.cells]⟩)]) (fun i => i ≤ s.ns ∧ ∀ g, g < i → s.nsp g ≤ 12) (fun i => s.ns - i) 0 ?_ ⟨Nat.zero_le _, fun g hg => absurd hg (Nat.not_lt_zero _)⟩ ?_
  · simp -dsimp -implicitDefEqProofs only [go_sem, eq_self, ↓reduceIte]
    exact wkF
  rintro i ⟨hi, hall⟩
  simp -dsimp -implicitDefEqProofs only [go_sem, eq_self, ↓reduceIte]
  (repeat' (first | (refine C_seq rfl ?_) | (refine C_block rfl ?_) | (refine C_skip rfl ?_; (try simp -dsimp -implicitDefEqProofs only [go_sem, eq_self, ↓reduceIte])) | (refine C_exit rfl ?_; (try simp -dsimp -implicitDefEqProofs only [go_sem, eq_self, ↓reduceIte])) | (refine C_cond rfl _ rfl (fun ht => ?_) (fun ht => ?_) <;> (try (simp only [nf] at ht)) <;> (try (exfalso; omega))) | ((first | (refine S_reg0 rfl [0,1,2,4,39,41,42,43,44,49] rfl rfl (fun K hK => ?_)) | (refine S_drw0 rfl [0,1,2,4,39,41,42,43,44,49] rfl (by kernel_rfl) rfl (fun K hK => ?_))); simp -dsimp -implicitDefEqProofs only [go_sem, eq_self, ↓reduceIte]; (repeat' (first | (refine And.intro ?_ ?_) | (refine gs_both (fun hb => ?_) (fun hb => ?_) <;> (have hg := hb; (try simp only [nfb] at hg); simp -dsimp -implicitDefEqProofs only [go_sem, hb, hg, eq_self, ↓reduceIte]; clear hb; (try simp only [nfe] at hg))))); any_goals ((first | (refine hK _ _ _ _ (fun hx => ?_)) | (refine hK _ _ _ _ (drawA (fun i => i - k)) (fun hx => ?_)) | (refine hK _ _ _ _ drawB (fun hx => ?_))); clear hx hK; simp -dsimp -implicitDefEqProofs only [go_sem, eq_self, ↓reduceIte]; (try simp (disch := omega) only [wrap_i64, wrap_u64, wrap_u32, wrap_u8]))) | omega))
  · refine C_ret rfl ⟨_, rfl, VLe.of_eq ?_⟩
    rw [decide_eq_false (by rintro ⟨h1, h2, h3, h4, h5, h6, h7⟩; have := h7 i (by omega); omega)]
  · refine ⟨i + 1, ⟨by omega, fun g hg => ?_⟩, by omega, ?_⟩
    · by_cases he : g = i
      · subst he; omega
      · exact hall g (by omega)
    · simp -dsimp -implicitDefEqProofs only [go_sem, eq_self, ↓reduceIte]
      exact wkF
  · refine C_ret rfl ⟨_, rfl, VLe.of_eq ?_⟩
    rw [decide_eq_true (by refine ⟨by omega, by omega, by omega, by omega, by omega, by omega, fun g hg => hall g (by omega)⟩)]
def rdep (par : Nat → Int) : Nat → Nat → Nat → Nat
  | 0, _, n => n
  | f + 1, g, n => if g = 0 then n else if par g < 0 ∨ (g : Int) ≤ par g then 5 else rdep par f (par g).toNat (n + 1)
theorem rdep0 (par : Nat → Int) (g n : Nat) : rdep par 0 g n = n := rfl
theorem depth_ref (s : St) (n g : Nat) (hg : g < n) (hn : n ≤ 1000) : Pure Tryz.prog Γ 66 [.rd 2 n (gf s), .lit (.int .i64 (g : Int))] (.lit (.int .i64 (rdep s.par 5 g 0 : Nat))) := by
  refine Pure_at Tryz.func66 rfl 35 rfl (Nat.le_of_ble_eq_true rfl) rfl fun k => ?_
  generalize hD : rdep s.par 5 g 0 = D
  (repeat' (first | (refine C_seq rfl ?_) | (refine C_block rfl ?_) | (refine C_skip rfl ?_; (try simp -dsimp -implicitDefEqProofs only [go_sem, eq_self, ↓reduceIte])) | (refine C_exit rfl ?_; (try simp -dsimp -implicitDefEqProofs only [go_sem, eq_self, ↓reduceIte])) | (refine C_cond rfl _ rfl (fun ht => ?_) (fun ht => ?_) <;> (try (simp only [nf] at ht)) <;> (try (exfalso; omega))) | ((first | (refine S_reg0 rfl [0,1,4,5,11,26] rfl rfl (fun K hK => ?_)) | (refine S_drw0 rfl [0,1,4,5,11,26] rfl (by kernel_rfl) rfl (fun K hK => ?_))); simp -dsimp -implicitDefEqProofs only [go_sem, eq_self, ↓reduceIte]; (repeat' (first | (refine And.intro ?_ ?_) | (refine gs_both (fun hb => ?_) (fun hb => ?_) <;> (have hg := hb; (try simp only [nfb] at hg); simp -dsimp -implicitDefEqProofs only [go_sem, hb, hg, eq_self, ↓reduceIte]; clear hb; (try simp only [nfe] at hg))))); any_goals ((first | (refine hK _ _ _ _ (fun hx => ?_)) | (refine hK _ _ _ _ (drawA (fun i => i - k)) (fun hx => ?_)) | (refine hK _ _ _ _ drawB (fun hx => ?_))); clear hx hK; simp -dsimp -implicitDefEqProofs only [go_sem, eq_self, ↓reduceIte]; (try simp (disch := omega) only [wrap_i64, wrap_u64, wrap_u32, wrap_u8]))) | omega))
  refine M_forO (X := Nat × Nat) rfl [0,1,4,5,11,26] k (fun x => [(1, .lit (.int .i64 (x.1 : Int))), (5, .lit (.int .i64 (x.2 : Int)))]) (fun x => []) (fun x => x.1 < n ∧ x.2 ≤ 5 ∧ rdep s.par (5 - x.2) x.1 x.2 = D) (fun x => 5 - x.2) (g, 0) ?_ ⟨hg, by omega, hD⟩ ?_
  · simp -dsimp -implicitDefEqProofs only [go_sem, eq_self, ↓reduceIte]
    exact wkF
  rintro ⟨h, m⟩ ⟨hh, hm, hr⟩
  simp only at hh hm hr
  simp -dsimp -implicitDefEqProofs only [go_sem, eq_self, ↓reduceIte]
  have hstep : ∀ (h0 : 0 < h) (h5 : m < 5), rdep s.par (5 - m) h m = if s.par h < 0 ∨ (h : Int) ≤ s.par h then 5 else rdep s.par (5 - (m + 1)) (s.par h).toNat (m + 1) := fun h0 h5 => by
    have e : 5 - m = (5 - (m + 1)) + 1 := by omega
    rw [e, rdep, if_neg (by omega)]
  (repeat' (first | (refine C_seq rfl ?_) | (refine C_block rfl ?_) | (refine C_skip rfl ?_; (try simp -dsimp -implicitDefEqProofs only [go_sem, eq_self, ↓reduceIte])) | (refine C_exit rfl ?_; (try simp -dsimp -implicitDefEqProofs only [go_sem, eq_self, ↓reduceIte])) | (refine C_cond rfl _ rfl (fun ht => ?_) (fun ht => ?_) <;> (try (simp only [nf] at ht)) <;> (try (exfalso; omega))) | ((first | (refine S_reg0 rfl [0,1,4,5,11,26] rfl rfl (fun K hK => ?_)) | (refine S_drw0 rfl [0,1,4,5,11,26] rfl (by kernel_rfl) rfl (fun K hK => ?_))); simp -dsimp -implicitDefEqProofs only [go_sem, eq_self, ↓reduceIte]; (repeat' (first | (refine And.intro ?_ ?_) | (refine gs_both (fun hb => ?_) (fun hb => ?_) <;> (have hg := hb; (try simp only [nfb] at hg); simp -dsimp -implicitDefEqProofs only [go_sem, hb, hg, eq_self, ↓reduceIte]; clear hb; (try simp only [nfe] at hg))))); any_goals ((first | (refine hK _ _ _ _ (fun hx => ?_)) | (refine hK _ _ _ _ (drawA (fun i => i - k)) (fun hx => ?_)) | (refine hK _ _ _ _ drawB (fun hx => ?_))); clear hx hK; simp -dsimp -implicitDefEqProofs only [go_sem, eq_self, ↓reduceIte]; (try simp (disch := omega) only [wrap_i64, wrap_u64, wrap_u32, wrap_u8]))) | omega))
  · refine C_ret rfl ⟨_, rfl, VLe.of_eq ?_⟩
    rw [hstep (by omega) (by omega), if_pos (by omega)] at hr
    rw [← hr]; rfl
  · refine ⟨((s.par h).toNat, m + 1), ⟨by simp only; omega, by simp only; omega, ?_⟩, by simp only; omega, ?_⟩
    · rw [hstep (by omega) (by omega), if_neg (by omega)] at hr
      exact hr
    · have hp : ((s.par h).toNat : Int) = s.par h := by omega
      simp only [hp]
      simp -dsimp -implicitDefEqProofs only [go_sem, eq_self, ↓reduceIte]
      exact wkF
  · refine C_ret rfl ⟨_, rfl, VLe.of_eq ?_⟩
    rw [hstep (by omega) (by omega), if_pos (by omega)] at hr
    rw [← hr]; rfl
  · refine C_ret rfl ⟨_, rfl, VLe.of_eq ?_⟩
    have e : m = 5 := by omega
    subst e
    rw [rdep0] at hr
    rw [← hr]
  · refine C_ret rfl ⟨_, rfl, VLe.of_eq ?_⟩
    have e : h = 0 := by omega
    subst e
    have hr' : m = D := by
      cases hm' : 5 - m with
      | zero => rw [hm', rdep0] at hr; exact hr
      | succ q => rw [hm', rdep, if_pos rfl] at hr; exact hr
    rw [← hr']
def okW (s : St) (g : Nat) : Bool := decide (1 ≤ s.wt g ∧ s.wt g ≤ 65536)
def okR (s : St) (g : Nat) : Bool := okW s g && decide (rdep s.par 5 g 0 ≤ 4)
def fb (ok : Nat → Bool) : Nat → Option Nat
  | 0 => none
  | n + 1 => match fb ok n with
    | some g => some g
    | none => if n = 0 ∨ ok n = true then none else some n
theorem fb_none {ok : Nat → Bool} : ∀ {n : Nat}, (∀ g, 1 ≤ g → g < n → ok g = true) → fb ok n = none
  | 0, _ => rfl
  | n + 1, h => by
    rw [fb, fb_none (fun g h1 h2 => h g h1 (by omega))]
    by_cases hn : n = 0
    · simp [hn]
    · simp [h n (by omega) (by omega)]
theorem fb_none_iff {ok : Nat → Bool} : ∀ {n : Nat}, fb ok n = none ↔ ∀ g, 1 ≤ g → g < n → ok g = true
  | 0 => ⟨fun _ g _ hg => by omega, fun _ => rfl⟩
  | n + 1 => by
    refine ⟨fun h g h1 h2 => ?_, fb_none⟩
    rw [fb] at h
    cases hf : fb ok n with
    | some x => rw [hf] at h; cases h
    | none =>
      rw [hf] at h
      by_cases he : g = n
      · subst he
        simp only at h
        split at h
        · rename_i hc; rcases hc with hc | hc
          · omega
          · exact hc
        · cases h
      · exact fb_none_iff.1 hf g h1 (by omega)
theorem fb_some {ok : Nat → Bool} {g : Nat} (h1 : 1 ≤ g) (hall : ∀ j, 1 ≤ j → j < g → ok j = true) (hbad : ok g = false) : ∀ {n : Nat}, g < n → fb ok n = some g
  | 0, h => by omega
  | n + 1, h => by
    rw [fb]
    by_cases he : g = n
    · subst he
      rw [fb_none hall]
      simp [hbad]; omega
    · rw [fb_some h1 hall hbad (by omega)]
def refCfg (s : St) : Bool := decide (1 ≤ s.cpus ∧ s.cpus ≤ 64 ∧ s.credit ≤ 1099511627776 ∧ 1 ≤ s.ng ∧ s.ng ≤ 256 ∧ s.par 0 = 0 ∧ s.wt 0 = 1) && (fb (okR s) s.ng).isNone
theorem rightConfig_ref (s : St) : Pure Tryz.prog Γ 46 [.agg s.cfg] (.lit (.bool (refCfg s))) := by
  refine Pure_at Tryz.func46 rfl 65 rfl (Nat.le_of_ble_eq_true rfl) rfl fun k => ?_
  (repeat' (first | (refine C_seq rfl ?_) | (refine C_block rfl ?_) | (refine C_skip rfl ?_; (try simp -dsimp -implicitDefEqProofs only [go_sem, eq_self, ↓reduceIte])) | (refine C_exit rfl ?_; (try simp -dsimp -implicitDefEqProofs only [go_sem, eq_self, ↓reduceIte])) | (refine C_cond rfl _ rfl (fun ht => ?_) (fun ht => ?_) <;> (try (simp only [nf] at ht)) <;> (try (exfalso; omega))) | ((first | (refine S_reg0 rfl [0,1,2,3,28,42,47,64] rfl rfl (fun K hK => ?_)) | (refine S_drw0 rfl [0,1,2,3,28,42,47,64] rfl (by kernel_rfl) rfl (fun K hK => ?_))); simp -dsimp -implicitDefEqProofs only [go_sem, eq_self, ↓reduceIte]; (repeat' (first | (refine And.intro ?_ ?_) | (refine gs_both (fun hb => ?_) (fun hb => ?_) <;> (have hg := hb; (try simp only [nfb] at hg); simp -dsimp -implicitDefEqProofs only [go_sem, hb, hg, eq_self, ↓reduceIte]; clear hb; (try simp only [nfe] at hg))))); any_goals ((first | (refine hK _ _ _ _ (fun hx => ?_)) | (refine hK _ _ _ _ (drawA (fun i => i - k)) (fun hx => ?_)) | (refine hK _ _ _ _ drawB (fun hx => ?_))); clear hx hK; simp -dsimp -implicitDefEqProofs only [go_sem, eq_self, ↓reduceIte]; (try simp (disch := omega) only [wrap_i64, wrap_u64, wrap_u32, wrap_u8]))) | omega))
  any_goals (refine C_ret rfl ⟨_, rfl, VLe.of_eq ?_⟩; rw [refCfg, decide_eq_false (by omega), Bool.false_and])
  refine M_forO (X := Nat) rfl [0,1,2,3,28,42,47,64] (k + 1) (fun i => [(3, .lit (.int .i64 (i : Int)))]) (fun i => [(k, ⟨3, true, [s.cfg]⟩)]) (fun i => 1 ≤ i ∧ i ≤ s.ng ∧ ∀ g, 1 ≤ g → g < i → okR s g = true) (fun i => s.ng - i) 1 ?_ ⟨by omega, by omega, fun g h1 h2 => by omega⟩ ?_
  · simp -dsimp -implicitDefEqProofs only [go_sem, eq_self, ↓reduceIte]
    exact wkF
  rintro i ⟨hi1, hi, hall⟩
  simp -dsimp -implicitDefEqProofs only [go_sem, eq_self, ↓reduceIte]
  have hok : okR s i = (okW s i && decide (rdep s.par 5 i 0 ≤ 4)) := rfl
  (repeat' (first | (refine C_seq rfl ?_) | (refine C_block rfl ?_) | (refine C_skip rfl ?_; (try simp -dsimp -implicitDefEqProofs only [go_sem, eq_self, ↓reduceIte])) | (refine C_exit rfl ?_; (try simp -dsimp -implicitDefEqProofs only [go_sem, eq_self, ↓reduceIte])) | (refine C_cond rfl _ rfl (fun ht => ?_) (fun ht => ?_) <;> (try (simp only [nf] at ht)) <;> (try (exfalso; omega))) | ((first | (refine S_reg0 rfl [0,1,2,3,28,42,47,64] rfl rfl (fun K hK => ?_)) | (refine S_drw0 rfl [0,1,2,3,28,42,47,64] rfl (by kernel_rfl) rfl (fun K hK => ?_))); simp -dsimp -implicitDefEqProofs only [go_sem, eq_self, ↓reduceIte]; (repeat' (first | (refine And.intro ?_ ?_) | (refine gs_both (fun hb => ?_) (fun hb => ?_) <;> (have hg := hb; (try simp only [nfb] at hg); simp -dsimp -implicitDefEqProofs only [go_sem, hb, hg, eq_self, ↓reduceIte]; clear hb; (try simp only [nfe] at hg))))); any_goals ((first | (refine hK _ _ _ _ (fun hx => ?_)) | (refine hK _ _ _ _ (drawA (fun i => i - k)) (fun hx => ?_)) | (refine hK _ _ _ _ drawB (fun hx => ?_))); clear hx hK; simp -dsimp -implicitDefEqProofs only [go_sem, eq_self, ↓reduceIte]; (try simp (disch := omega) only [wrap_i64, wrap_u64, wrap_u32, wrap_u8]))) | omega))
  · refine S_reg rfl [0,1,2,3,28,42,47,64] [.ret (.lit (.bool (okW s i))), .ret (.lit (.int .i64 (rdep s.par 5 i 0 : Nat)))] rfl (fun K hK => ?_); simp -dsimp -implicitDefEqProofs only [go_sem, eq_self, ↓reduceIte]; (repeat' (first | (refine And.intro ?_ ?_) | (refine gs_both (fun hb => ?_) (fun hb => ?_) <;> (have hg := hb; (try simp only [nfb] at hg); simp -dsimp -implicitDefEqProofs only [go_sem, hb, hg, eq_self, ↓reduceIte]; clear hb; (try simp only [nfe] at hg))))); (any_goals ((refine hK _ _ _ _ (fun hx => ?_)); clear hx hK; simp -dsimp -implicitDefEqProofs only [go_sem, eq_self, ↓reduceIte]; (try simp (disch := omega) only [wrap_i64, wrap_u64, wrap_u32, wrap_u8]))); (all_goals (try omega))
    all_goals (try omega)
    · exact weight_ref (s.wt i)
    · exact depth_ref s s.ng i (by omega) (by omega)
    · (repeat' (first | (refine C_seq rfl ?_) | (refine C_block rfl ?_) | (refine C_skip rfl ?_; (try simp -dsimp -implicitDefEqProofs only [go_sem, eq_self, ↓reduceIte])) | (refine C_exit rfl ?_; (try simp -dsimp -implicitDefEqProofs only [go_sem, eq_self, ↓reduceIte])) | (refine C_cond rfl _ rfl (fun ht => ?_) (fun ht => ?_) <;> (try (simp only [nf] at ht)) <;> (try (exfalso; omega))) | ((first | (refine S_reg0 rfl [0,1,2,3,28,42,47,64] rfl rfl (fun K hK => ?_)) | (refine S_drw0 rfl [0,1,2,3,28,42,47,64] rfl (by kernel_rfl) rfl (fun K hK => ?_))); simp -dsimp -implicitDefEqProofs only [go_sem, eq_self, ↓reduceIte]; (repeat' (first | (refine And.intro ?_ ?_) | (refine gs_both (fun hb => ?_) (fun hb => ?_) <;> (have hg := hb; (try simp only [nfb] at hg); simp -dsimp -implicitDefEqProofs only [go_sem, hb, hg, eq_self, ↓reduceIte]; clear hb; (try simp only [nfe] at hg))))); any_goals ((first | (refine hK _ _ _ _ (fun hx => ?_)) | (refine hK _ _ _ _ (drawA (fun i => i - k)) (fun hx => ?_)) | (refine hK _ _ _ _ drawB (fun hx => ?_))); clear hx hK; simp -dsimp -implicitDefEqProofs only [go_sem, eq_self, ↓reduceIte]; (try simp (disch := omega) only [wrap_i64, wrap_u64, wrap_u32, wrap_u8]))) | omega))
      · refine C_ret rfl ⟨_, rfl, VLe.of_eq ?_⟩
        rw [refCfg, fb_some hi1 hall (by rw [hok, decide_eq_false (by omega), Bool.and_false]) (by omega)]
        simp
      · refine ⟨i + 1, ⟨by omega, by omega, fun g h1 h2 => ?_⟩, by omega, ?_⟩
        · by_cases he : g = i
          · subst he; rw [hok, hg, decide_eq_true (by omega)]; rfl
          · exact hall g h1 (by omega)
        · simp -dsimp -implicitDefEqProofs only [go_sem, eq_self, ↓reduceIte]
          exact wkF
    · (repeat' (first | (refine C_seq rfl ?_) | (refine C_block rfl ?_) | (refine C_skip rfl ?_; (try simp -dsimp -implicitDefEqProofs only [go_sem, eq_self, ↓reduceIte])) | (refine C_exit rfl ?_; (try simp -dsimp -implicitDefEqProofs only [go_sem, eq_self, ↓reduceIte])) | (refine C_cond rfl _ rfl (fun ht => ?_) (fun ht => ?_) <;> (try (simp only [nf] at ht)) <;> (try (exfalso; omega))) | ((first | (refine S_reg0 rfl [0,1,2,3,28,42,47,64] rfl rfl (fun K hK => ?_)) | (refine S_drw0 rfl [0,1,2,3,28,42,47,64] rfl (by kernel_rfl) rfl (fun K hK => ?_))); simp -dsimp -implicitDefEqProofs only [go_sem, eq_self, ↓reduceIte]; (repeat' (first | (refine And.intro ?_ ?_) | (refine gs_both (fun hb => ?_) (fun hb => ?_) <;> (have hg := hb; (try simp only [nfb] at hg); simp -dsimp -implicitDefEqProofs only [go_sem, hb, hg, eq_self, ↓reduceIte]; clear hb; (try simp only [nfe] at hg))))); any_goals ((first | (refine hK _ _ _ _ (fun hx => ?_)) | (refine hK _ _ _ _ (drawA (fun i => i - k)) (fun hx => ?_)) | (refine hK _ _ _ _ drawB (fun hx => ?_))); clear hx hK; simp -dsimp -implicitDefEqProofs only [go_sem, eq_self, ↓reduceIte]; (try simp (disch := omega) only [wrap_i64, wrap_u64, wrap_u32, wrap_u8]))) | omega))
      refine C_ret rfl ⟨_, rfl, VLe.of_eq ?_⟩
      rw [refCfg, fb_some hi1 hall (by rw [hok, hg, Bool.false_and]) (by omega)]
      simp
  · refine C_ret rfl ⟨_, rfl, VLe.of_eq ?_⟩
    rw [refCfg, fb_none (fun g h1 h2 => hall g h1 (by omega)), decide_eq_true (by omega)]
    rfl
end Go.Proofs.T
end

section
set_option linter.unusedVariables false
set_option linter.unusedSimpArgs false
namespace Go.Proofs.T
open Go Go.AM Go.Proofs
set_option linter.unusedSimpArgs false
set_option linter.unusedVariables false
set_option maxRecDepth 4000
variable {Γ : List (Nat × List AVal)}
theorem weighsG (w : Int) : Pure Tryz.prog Γ 91 [.lit (.int .i64 w)] (.lit (.bool (decide (1 ≤ w ∧ w ≤ 65536)))) := by
  refine Pure_at Tryz.func91 rfl 9 rfl (Nat.le_of_ble_eq_true rfl) rfl fun k => ?_
  (repeat' (first | (refine C_seq rfl ?_) | (refine C_block rfl ?_) | (refine C_skip rfl ?_; (try simp -dsimp -implicitDefEqProofs only [go_sem, eq_self, ↓reduceIte])) | (refine C_exit rfl ?_; (try simp -dsimp -implicitDefEqProofs only [go_sem, eq_self, ↓reduceIte])) | (refine C_cond rfl _ rfl (fun ht => ?_) (fun ht => ?_) <;> (try (simp only [nf] at ht)) <;> (try (exfalso; omega))) | ((first | (refine S_reg0 rfl [0,2] rfl rfl (fun K hK => ?_)) | (refine S_drw0 rfl [0,2] rfl (by kernel_rfl) rfl (fun K hK => ?_))); simp -dsimp -implicitDefEqProofs only [go_sem, eq_self, ↓reduceIte]; (repeat' (first | (refine And.intro ?_ ?_) | (refine gs_both (fun hb => ?_) (fun hb => ?_) <;> (have hg := hb; (try simp only [nfb] at hg); simp -dsimp -implicitDefEqProofs only [go_sem, hb, hg, eq_self, ↓reduceIte]; clear hb; (try simp only [nfe] at hg))))); any_goals ((first | (refine hK _ _ _ _ (fun hx => ?_)) | (refine hK _ _ _ _ (drawA (fun i => i - k)) (fun hx => ?_)) | (refine hK _ _ _ _ drawB (fun hx => ?_))); clear hx hK; simp -dsimp -implicitDefEqProofs only [go_sem, eq_self, ↓reduceIte]; (try simp (disch := omega) only [wrap_i64, wrap_u64, wrap_u32, wrap_u8]))) | omega))
  all_goals (refine C_ret rfl ⟨_, rfl, VLe.of_eq ?_⟩; (simp only [AVal.lit.injEq, Value.bool.injEq]; rw [Bool.eq_iff_iff]; simp only [beq_iff_eq, bne_iff_ne, ne_eq, decide_eq_true_eq, decide_eq_false_iff_not, Bool.and_eq_true, Bool.or_eq_true, Bool.not_eq_true', beq_eq_false_iff_ne, Bool.false_eq_true, Bool.true_eq_false, true_iff, false_iff, iff_true, iff_false]; omega))
def pdep (par : Nat → Int) : Nat → Nat → Nat
  | 0, _ => 0
  | f + 1, g => if g = 0 then 0 else pdep par f (par g).toNat + 1
def DepthOk (Γ : List (Nat × List AVal)) : Prop := ∀ (s : St) (n g : Nat), g < n → n ≤ 1000 → (∀ j, 1 ≤ j → j ≤ g → 0 ≤ s.par j ∧ s.par j < j) →
  Pure Tryz.prog Γ 92 [.rd 2 n (gf s), .lit (.int .i64 (g : Int))] (.lit (.int .i64 (pdep s.par g g : Nat)))
def okP (s : St) (g : Nat) : Bool := decide (0 ≤ s.par g ∧ s.par g < g)
def okG (s : St) (g : Nat) : Bool := okP s g && (okW s g && decide (pdep s.par g g ≤ 4))
def chkE (s : St) (g : Nat) : Int := if okP s g = false then 191 else if okW s g = false then 192 else 193
def chk (s : St) : Int × Int :=
  if 256 < s.ng then (-1, 5) else if s.ng = 0 ∨ ¬ (s.par 0 = 0 ∧ s.wt 0 = 1) then (0, 190) else match fb (okG s) s.ng with
    | none => (-1, 0)
    | some g => (g, chkE s g)
theorem groupCheck (hD : DepthOk Γ) (s : St) : Pure Tryz.prog Γ 74 [.rd 2 s.ng (gf s)] (.tup [.lit (.int .i64 (chk s).1), .lit (.int .i64 (chk s).2)]) := by
  refine Pure_at Tryz.func74 rfl 58 rfl (Nat.le_of_ble_eq_true rfl) rfl fun k => ?_
  (repeat' (first | (refine C_seq rfl ?_) | (refine C_block rfl ?_) | (refine C_skip rfl ?_; (try simp -dsimp -implicitDefEqProofs only [go_sem, eq_self, ↓reduceIte])) | (refine C_exit rfl ?_; (try simp -dsimp -implicitDefEqProofs only [go_sem, eq_self, ↓reduceIte])) | (refine C_cond rfl _ rfl (fun ht => ?_) (fun ht => ?_) <;> (try (simp only [nf] at ht)) <;> (try (exfalso; omega))) | ((first | (refine S_reg0 rfl [0,2,3,4,5,9,23,26,43,52] rfl rfl (fun K hK => ?_)) | (refine S_drw0 rfl [0,2,3,4,5,9,23,26,43,52] rfl (by kernel_rfl) rfl (fun K hK => ?_))); simp -dsimp -implicitDefEqProofs only [go_sem, eq_self, ↓reduceIte]; (repeat' (first | (refine And.intro ?_ ?_) | (refine gs_both (fun hb => ?_) (fun hb => ?_) <;> (have hg := hb; (try simp only [nfb] at hg); simp -dsimp -implicitDefEqProofs only [go_sem, hb, hg, eq_self, ↓reduceIte]; clear hb; (try simp only [nfe] at hg))))); any_goals ((first | (refine hK _ _ _ _ (fun hx => ?_)) | (refine hK _ _ _ _ (drawA (fun i => i - k)) (fun hx => ?_)) | (refine hK _ _ _ _ drawB (fun hx => ?_))); clear hx hK; simp -dsimp -implicitDefEqProofs only [go_sem, eq_self, ↓reduceIte]; (try simp (disch := omega) only [wrap_i64, wrap_u64, wrap_u32, wrap_u8]))) | omega))
  · refine C_ret rfl ⟨_, rfl, VLe.of_eq ?_⟩
    rw [show chk s = (-1, 5) from by rw [chk, if_pos (by omega)]]
  · refine C_ret rfl ⟨_, rfl, VLe.of_eq ?_⟩
    rw [show chk s = (0, 190) from by
      rw [chk, if_neg (by omega), if_pos (.inr (by simpa using ht))]]
  · have hroot : s.par 0 = 0 ∧ s.wt 0 = 1 := by simpa using ht
    have hchk : chk s = match fb (okG s) s.ng with | none => (-1, 0) | some g => ((g : Int), chkE s g) := by
      rw [chk, if_neg (by omega), if_neg (by rintro (h | h); · omega
                                             · exact h hroot)]
    refine M_forO (X := Nat) rfl [0,2,3,4,5,9,23,26,43,52] k (fun i => [(4, .lit (.int .i64 (i : Int)))]) (fun i => []) (fun i => 1 ≤ i ∧ i ≤ s.ng ∧ ∀ g, 1 ≤ g → g < i → okG s g = true) (fun i => s.ng - i) 1 ?_ ⟨by omega, by omega, fun g h1 h2 => by omega⟩ ?_
    · simp -dsimp -implicitDefEqProofs only [go_sem, eq_self, ↓reduceIte]
      exact wkF
    rintro i ⟨hi1, hi, hall⟩
    simp -dsimp -implicitDefEqProofs only [go_sem, eq_self, ↓reduceIte]
    have hok : okG s i = (okP s i && (okW s i && decide (pdep s.par i i ≤ 4))) := rfl
    have hbad : i < s.ng → okG s i = false → chk s = ((i : Int), chkE s i) := fun h1 h2 => by rw [hchk, fb_some hi1 hall h2 h1]
    (repeat' (first | (refine C_seq rfl ?_) | (refine C_block rfl ?_) | (refine C_skip rfl ?_; (try simp -dsimp -implicitDefEqProofs only [go_sem, eq_self, ↓reduceIte])) | (refine C_exit rfl ?_; (try simp -dsimp -implicitDefEqProofs only [go_sem, eq_self, ↓reduceIte])) | (refine C_cond rfl _ rfl (fun ht => ?_) (fun ht => ?_) <;> (try (simp only [nf] at ht)) <;> (try (exfalso; omega))) | ((first | (refine S_reg0 rfl [0,2,3,4,5,9,23,26,43,52] rfl rfl (fun K hK => ?_)) | (refine S_drw0 rfl [0,2,3,4,5,9,23,26,43,52] rfl (by kernel_rfl) rfl (fun K hK => ?_))); simp -dsimp -implicitDefEqProofs only [go_sem, eq_self, ↓reduceIte]; (repeat' (first | (refine And.intro ?_ ?_) | (refine gs_both (fun hb => ?_) (fun hb => ?_) <;> (have hg := hb; (try simp only [nfb] at hg); simp -dsimp -implicitDefEqProofs only [go_sem, hb, hg, eq_self, ↓reduceIte]; clear hb; (try simp only [nfe] at hg))))); any_goals ((first | (refine hK _ _ _ _ (fun hx => ?_)) | (refine hK _ _ _ _ (drawA (fun i => i - k)) (fun hx => ?_)) | (refine hK _ _ _ _ drawB (fun hx => ?_))); clear hx hK; simp -dsimp -implicitDefEqProofs only [go_sem, eq_self, ↓reduceIte]; (try simp (disch := omega) only [wrap_i64, wrap_u64, wrap_u32, wrap_u8]))) | omega))
    · refine C_ret rfl ⟨_, rfl, VLe.of_eq ?_⟩
      have hp : okP s i = false := decide_eq_false (by omega)
      rw [hbad (by omega) (by rw [hok, hp]; rfl), chkE, if_pos hp]
    · have hp : okP s i = true := decide_eq_true (by omega)
      refine S_reg rfl [0,2,3,4,5,9,23,26,43,52] [.ret (.lit (.bool (okW s i)))] rfl (fun K hK => ?_); simp -dsimp -implicitDefEqProofs only [go_sem, eq_self, ↓reduceIte]; (repeat' (first | (refine And.intro ?_ ?_) | (refine gs_both (fun hb => ?_) (fun hb => ?_) <;> (have hg := hb; (try simp only [nfb] at hg); simp -dsimp -implicitDefEqProofs only [go_sem, hb, hg, eq_self, ↓reduceIte]; clear hb; (try simp only [nfe] at hg))))); (any_goals ((refine hK _ _ _ _ (fun hx => ?_)); clear hx hK; simp -dsimp -implicitDefEqProofs only [go_sem, eq_self, ↓reduceIte]; (try simp (disch := omega) only [wrap_i64, wrap_u64, wrap_u32, wrap_u8]))); (all_goals (try omega))
      · exact weighsG (s.wt i)
      (repeat' (first | (refine C_seq rfl ?_) | (refine C_block rfl ?_) | (refine C_skip rfl ?_; (try simp -dsimp -implicitDefEqProofs only [go_sem, eq_self, ↓reduceIte])) | (refine C_exit rfl ?_; (try simp -dsimp -implicitDefEqProofs only [go_sem, eq_self, ↓reduceIte])) | (refine C_cond rfl _ rfl (fun ht => ?_) (fun ht => ?_) <;> (try (simp only [nf] at ht)) <;> (try (exfalso; omega))) | ((first | (refine S_reg0 rfl [0,2,3,4,5,9,23,26,43,52] rfl rfl (fun K hK => ?_)) | (refine S_drw0 rfl [0,2,3,4,5,9,23,26,43,52] rfl (by kernel_rfl) rfl (fun K hK => ?_))); simp -dsimp -implicitDefEqProofs only [go_sem, eq_self, ↓reduceIte]; (repeat' (first | (refine And.intro ?_ ?_) | (refine gs_both (fun hb => ?_) (fun hb => ?_) <;> (have hg := hb; (try simp only [nfb] at hg); simp -dsimp -implicitDefEqProofs only [go_sem, hb, hg, eq_self, ↓reduceIte]; clear hb; (try simp only [nfe] at hg))))); any_goals ((first | (refine hK _ _ _ _ (fun hx => ?_)) | (refine hK _ _ _ _ (drawA (fun i => i - k)) (fun hx => ?_)) | (refine hK _ _ _ _ drawB (fun hx => ?_))); clear hx hK; simp -dsimp -implicitDefEqProofs only [go_sem, eq_self, ↓reduceIte]; (try simp (disch := omega) only [wrap_i64, wrap_u64, wrap_u32, wrap_u8]))) | omega))
      · refine C_ret rfl ⟨_, rfl, VLe.of_eq ?_⟩
        rw [hbad (by omega) (by rw [hok, ht, hp]; rfl), chkE, if_neg (by rw [hp]; simp), if_pos ht]
      · refine S_reg rfl [0,2,3,4,5,9,23,26,43,52] [.ret (.lit (.int .i64 (pdep s.par i i : Nat)))] rfl (fun K hK => ?_); simp -dsimp -implicitDefEqProofs only [go_sem, eq_self, ↓reduceIte]; (repeat' (first | (refine And.intro ?_ ?_) | (refine gs_both (fun hb => ?_) (fun hb => ?_) <;> (have hg := hb; (try simp only [nfb] at hg); simp -dsimp -implicitDefEqProofs only [go_sem, hb, hg, eq_self, ↓reduceIte]; clear hb; (try simp only [nfe] at hg))))); (any_goals ((refine hK _ _ _ _ (fun hx => ?_)); clear hx hK; simp -dsimp -implicitDefEqProofs only [go_sem, eq_self, ↓reduceIte]; (try simp (disch := omega) only [wrap_i64, wrap_u64, wrap_u32, wrap_u8]))); (all_goals (try omega))
        · refine hD s s.ng i (by omega) (by omega) (fun j h1 h2 => ?_)
          by_cases he : j = i
          · subst he; omega
          · have := hall j h1 (by omega)
            simp only [okG, okP, Bool.and_eq_true, decide_eq_true_eq] at this
            exact this.1
        have hw := ht
        (repeat' (first | (refine C_seq rfl ?_) | (refine C_block rfl ?_) | (refine C_skip rfl ?_; (try simp -dsimp -implicitDefEqProofs only [go_sem, eq_self, ↓reduceIte])) | (refine C_exit rfl ?_; (try simp -dsimp -implicitDefEqProofs only [go_sem, eq_self, ↓reduceIte])) | (refine C_cond rfl _ rfl (fun ht => ?_) (fun ht => ?_) <;> (try (simp only [nf] at ht)) <;> (try (exfalso; omega))) | ((first | (refine S_reg0 rfl [0,2,3,4,5,9,23,26,43,52] rfl rfl (fun K hK => ?_)) | (refine S_drw0 rfl [0,2,3,4,5,9,23,26,43,52] rfl (by kernel_rfl) rfl (fun K hK => ?_))); simp -dsimp -implicitDefEqProofs only [go_sem, eq_self, ↓reduceIte]; (repeat' (first | (refine And.intro ?_ ?_) | (refine gs_both (fun hb => ?_) (fun hb => ?_) <;> (have hg := hb; (try simp only [nfb] at hg); simp -dsimp -implicitDefEqProofs only [go_sem, hb, hg, eq_self, ↓reduceIte]; clear hb; (try simp only [nfe] at hg))))); any_goals ((first | (refine hK _ _ _ _ (fun hx => ?_)) | (refine hK _ _ _ _ (drawA (fun i => i - k)) (fun hx => ?_)) | (refine hK _ _ _ _ drawB (fun hx => ?_))); clear hx hK; simp -dsimp -implicitDefEqProofs only [go_sem, eq_self, ↓reduceIte]; (try simp (disch := omega) only [wrap_i64, wrap_u64, wrap_u32, wrap_u8]))) | omega))
        · refine C_ret rfl ⟨_, rfl, VLe.of_eq ?_⟩
          rw [hbad (by omega) (by rw [hok, hp, hw, decide_eq_false (by omega)]; rfl), chkE, if_neg (by rw [hp]; simp), if_neg (by rw [hw]; simp)]
        · refine ⟨i + 1, ⟨by omega, by omega, fun g h1 h2 => ?_⟩, by omega, ?_⟩
          · by_cases he : g = i
            · subst he; rw [hok, hp, hw, decide_eq_true (by omega)]; rfl
            · exact hall g h1 (by omega)
          · simp -dsimp -implicitDefEqProofs only [go_sem, eq_self, ↓reduceIte]
            exact wkF
    · refine C_ret rfl ⟨_, rfl, VLe.of_eq ?_⟩
      have hp : okP s i = false := decide_eq_false (by omega)
      rw [hbad (by omega) (by rw [hok, hp]; rfl), chkE, if_pos hp]
    · refine C_ret rfl ⟨_, rfl, VLe.of_eq ?_⟩
      rw [hchk, fb_none (fun g h1 h2 => hall g h1 (by omega))]
  · refine C_ret rfl ⟨_, rfl, VLe.of_eq ?_⟩
    rw [show chk s = (0, 190) from by rw [chk, if_neg (by omega), if_pos (.inl (by omega))]]
theorem groupRight (hD : DepthOk Γ) (s : St) : Pure Tryz.prog Γ 54 [.rd 2 s.ng (gf s)] (.lit (.bool ((chk s).2 == 0))) := by
  refine Pure_at Tryz.func54 rfl 12 rfl (Nat.le_of_ble_eq_true rfl) rfl fun k => ?_
  (repeat' (first | (refine C_seq rfl ?_) | (refine C_block rfl ?_) | (refine C_skip rfl ?_; (try simp -dsimp -implicitDefEqProofs only [go_sem, eq_self, ↓reduceIte])) | (refine C_exit rfl ?_; (try simp -dsimp -implicitDefEqProofs only [go_sem, eq_self, ↓reduceIte])) | (refine C_cond rfl _ rfl (fun ht => ?_) (fun ht => ?_) <;> (try (simp only [nf] at ht)) <;> (try (exfalso; omega))) | ((first | (refine S_reg0 rfl [0,2,4] rfl rfl (fun K hK => ?_)) | (refine S_drw0 rfl [0,2,4] rfl (by kernel_rfl) rfl (fun K hK => ?_))); simp -dsimp -implicitDefEqProofs only [go_sem, eq_self, ↓reduceIte]; (repeat' (first | (refine And.intro ?_ ?_) | (refine gs_both (fun hb => ?_) (fun hb => ?_) <;> (have hg := hb; (try simp only [nfb] at hg); simp -dsimp -implicitDefEqProofs only [go_sem, hb, hg, eq_self, ↓reduceIte]; clear hb; (try simp only [nfe] at hg))))); any_goals ((first | (refine hK _ _ _ _ (fun hx => ?_)) | (refine hK _ _ _ _ (drawA (fun i => i - k)) (fun hx => ?_)) | (refine hK _ _ _ _ drawB (fun hx => ?_))); clear hx hK; simp -dsimp -implicitDefEqProofs only [go_sem, eq_self, ↓reduceIte]; (try simp (disch := omega) only [wrap_i64, wrap_u64, wrap_u32, wrap_u8]))) | omega))
  refine S_reg rfl [0,2,4] [.ret (.tup [.lit (.int .i64 (chk s).1), .lit (.int .i64 (chk s).2)])] rfl (fun K hK => ?_); simp -dsimp -implicitDefEqProofs only [go_sem, eq_self, ↓reduceIte]; (repeat' (first | (refine And.intro ?_ ?_) | (refine gs_both (fun hb => ?_) (fun hb => ?_) <;> (have hg := hb; (try simp only [nfb] at hg); simp -dsimp -implicitDefEqProofs only [go_sem, hb, hg, eq_self, ↓reduceIte]; clear hb; (try simp only [nfe] at hg))))); (any_goals ((refine hK _ _ _ _ (fun hx => ?_)); clear hx hK; simp -dsimp -implicitDefEqProofs only [go_sem, eq_self, ↓reduceIte]; (try simp (disch := omega) only [wrap_i64, wrap_u64, wrap_u32, wrap_u8]))); (all_goals (try omega))
  · exact groupCheck hD s
  (repeat' (first | (refine C_seq rfl ?_) | (refine C_block rfl ?_) | (refine C_skip rfl ?_; (try simp -dsimp -implicitDefEqProofs only [go_sem, eq_self, ↓reduceIte])) | (refine C_exit rfl ?_; (try simp -dsimp -implicitDefEqProofs only [go_sem, eq_self, ↓reduceIte])) | (refine C_cond rfl _ rfl (fun ht => ?_) (fun ht => ?_) <;> (try (simp only [nf] at ht)) <;> (try (exfalso; omega))) | ((first | (refine S_reg0 rfl [0,2,4] rfl rfl (fun K hK => ?_)) | (refine S_drw0 rfl [0,2,4] rfl (by kernel_rfl) rfl (fun K hK => ?_))); simp -dsimp -implicitDefEqProofs only [go_sem, eq_self, ↓reduceIte]; (repeat' (first | (refine And.intro ?_ ?_) | (refine gs_both (fun hb => ?_) (fun hb => ?_) <;> (have hg := hb; (try simp only [nfb] at hg); simp -dsimp -implicitDefEqProofs only [go_sem, hb, hg, eq_self, ↓reduceIte]; clear hb; (try simp only [nfe] at hg))))); any_goals ((first | (refine hK _ _ _ _ (fun hx => ?_)) | (refine hK _ _ _ _ (drawA (fun i => i - k)) (fun hx => ?_)) | (refine hK _ _ _ _ drawB (fun hx => ?_))); clear hx hK; simp -dsimp -implicitDefEqProofs only [go_sem, eq_self, ↓reduceIte]; (try simp (disch := omega) only [wrap_i64, wrap_u64, wrap_u32, wrap_u8]))) | omega))
  refine C_ret rfl ⟨_, rfl, VLe.of_eq ?_⟩
  rfl
def modCfg (s : St) : Bool := decide (1 ≤ s.cpus ∧ s.cpus ≤ 64 ∧ s.credit ≤ 1099511627776) && ((chk s).2 == 0)
theorem rightConfig (hD : DepthOk Γ) (s : St) : Pure Tryz.prog Γ 29 [.agg s.cfg] (.lit (.bool (modCfg s))) := by
  refine Pure_at Tryz.func29 rfl 21 rfl (Nat.le_of_ble_eq_true rfl) rfl fun k => ?_
  (repeat' (first | (refine C_seq rfl ?_) | (refine C_block rfl ?_) | (refine C_skip rfl ?_; (try simp -dsimp -implicitDefEqProofs only [go_sem, eq_self, ↓reduceIte])) | (refine C_exit rfl ?_; (try simp -dsimp -implicitDefEqProofs only [go_sem, eq_self, ↓reduceIte])) | (refine C_cond rfl _ rfl (fun ht => ?_) (fun ht => ?_) <;> (try (simp only [nf] at ht)) <;> (try (exfalso; omega))) | ((first | (refine S_reg0 rfl [0,1,2] rfl rfl (fun K hK => ?_)) | (refine S_drw0 rfl [0,1,2] rfl (by kernel_rfl) rfl (fun K hK => ?_))); simp -dsimp -implicitDefEqProofs only [go_sem, eq_self, ↓reduceIte]; (repeat' (first | (refine And.intro ?_ ?_) | (refine gs_both (fun hb => ?_) (fun hb => ?_) <;> (have hg := hb; (try simp only [nfb] at hg); simp -dsimp -implicitDefEqProofs only [go_sem, hb, hg, eq_self, ↓reduceIte]; clear hb; (try simp only [nfe] at hg))))); any_goals ((first | (refine hK _ _ _ _ (fun hx => ?_)) | (refine hK _ _ _ _ (drawA (fun i => i - k)) (fun hx => ?_)) | (refine hK _ _ _ _ drawB (fun hx => ?_))); clear hx hK; simp -dsimp -implicitDefEqProofs only [go_sem, eq_self, ↓reduceIte]; (try simp (disch := omega) only [wrap_i64, wrap_u64, wrap_u32, wrap_u8]))) | omega))
  refine S_reg rfl [0,1,2] [.ret (.lit (.bool ((chk s).2 == 0)))] rfl (fun K hK => ?_); simp -dsimp -implicitDefEqProofs only [go_sem, eq_self, ↓reduceIte]; (repeat' (first | (refine And.intro ?_ ?_) | (refine gs_both (fun hb => ?_) (fun hb => ?_) <;> (have hg := hb; (try simp only [nfb] at hg); simp -dsimp -implicitDefEqProofs only [go_sem, hb, hg, eq_self, ↓reduceIte]; clear hb; (try simp only [nfe] at hg))))); (any_goals ((refine hK _ _ _ _ (fun hx => ?_)); clear hx hK; simp -dsimp -implicitDefEqProofs only [go_sem, eq_self, ↓reduceIte]; (try simp (disch := omega) only [wrap_i64, wrap_u64, wrap_u32, wrap_u8]))); (all_goals (try omega))
  · exact groupRight hD s
  all_goals (refine C_ret rfl ⟨_, rfl, VLe.of_eq ?_⟩)
  all_goals (first | (rw [modCfg, decide_eq_true (by omega), Bool.true_and]; done) | (rw [modCfg, decide_eq_false (by omega), Bool.false_and]; done) | (rw [modCfg, decide_eq_false (by omega), decide_eq_false (by omega), Bool.false_and]; done) | trace_state)
end Go.Proofs.T
end

section
set_option linter.unusedVariables false
set_option linter.unusedSimpArgs false
namespace Go.Proofs.T
open Go Go.AM Go.Proofs
set_option linter.unusedSimpArgs false
set_option linter.unusedVariables false
set_option maxRecDepth 4000
variable {Γ : List (Nat × List AVal)}
theorem copyConfig (s : St) (hs : s.Small) : Pure Tryz.prog Γ 44 [.agg s.cfg] (.agg s.cfg) := by
  have hng := hs.ng
  refine Pure_at Tryz.func44 rfl 10 rfl (Nat.le_of_ble_eq_true rfl) rfl fun k => ?_
  rcases Nat.eq_zero_or_pos s.ng with h0 | hpos
  · simp only [St.cfg, h0]
    (repeat' (first | (refine C_seq rfl ?_) | (refine C_block rfl ?_) | (refine C_skip rfl ?_; (try simp -dsimp -implicitDefEqProofs only [go_sem, eq_self, ↓reduceIte])) | (refine C_exit rfl ?_; (try simp -dsimp -implicitDefEqProofs only [go_sem, eq_self, ↓reduceIte])) | (refine C_cond rfl _ rfl (fun ht => ?_) (fun ht => ?_) <;> (try (simp only [nf] at ht)) <;> (try (exfalso; omega))) | ((first | (refine S_reg0 rfl [0,1,2,3] rfl rfl (fun K hK => ?_)) | (refine S_drw0 rfl [0,1,2,3] rfl (by kernel_rfl) rfl (fun K hK => ?_))); simp -dsimp -implicitDefEqProofs only [go_sem, eq_self, ↓reduceIte]; (repeat' (first | (refine And.intro ?_ ?_) | (refine gs_both (fun hb => ?_) (fun hb => ?_) <;> (have hg := hb; (try simp only [nfb] at hg); simp -dsimp -implicitDefEqProofs only [go_sem, hb, hg, eq_self, ↓reduceIte]; clear hb; (try simp only [nfe] at hg))))); any_goals ((first | (refine hK _ _ _ _ (fun hx => ?_)) | (refine hK _ _ _ _ (drawA (fun i => i - k)) (fun hx => ?_)) | (refine hK _ _ _ _ drawB (fun hx => ?_))); clear hx hK; simp -dsimp -implicitDefEqProofs only [go_sem, eq_self, ↓reduceIte]; (try simp (disch := omega) only [wrap_i64, wrap_u64, wrap_u32, wrap_u8]))) | omega))
    refine C_ret rfl ?_; simp -dsimp -implicitDefEqProofs only [go_sem, eq_self, ↓reduceIte]; refine ⟨_, rfl, ?_⟩
    exact VLe.aggs (.cons (VLe.refl _) (.cons (VLe.refl _) (.cons (VLe.nil _ _) .nil)))
  · have hne : s.ng ≠ 0 := by omega
    (repeat' (first | (refine C_seq rfl ?_) | (refine C_block rfl ?_) | (refine C_skip rfl ?_; (try simp -dsimp -implicitDefEqProofs only [go_sem, hne, hpos, eq_self, ↓reduceIte])) | (refine C_exit rfl ?_; (try simp -dsimp -implicitDefEqProofs only [go_sem, hne, hpos, eq_self, ↓reduceIte])) | (refine C_cond rfl _ rfl (fun ht => ?_) (fun ht => ?_) <;> (try (simp only [nf] at ht)) <;> (try (exfalso; omega))) | ((first | (refine S_reg0 rfl [0,1,2,3] rfl rfl (fun K hK => ?_)) | (refine S_drw0 rfl [0,1,2,3] rfl (by kernel_rfl) rfl (fun K hK => ?_))); simp -dsimp -implicitDefEqProofs only [go_sem, hne, hpos, eq_self, ↓reduceIte]; (repeat' (first | (refine And.intro ?_ ?_) | (refine gs_both (fun hb => ?_) (fun hb => ?_) <;> (have hg := hb; (try simp only [nfb] at hg); simp -dsimp -implicitDefEqProofs only [go_sem, hne, hpos, hb, hg, eq_self, ↓reduceIte]; clear hb; (try simp only [nfe] at hg))))); any_goals ((first | (refine hK _ _ _ _ (fun hx => ?_)) | (refine hK _ _ _ _ (drawOk_names (fun i => i - k) (by simp only [List.map_cons, List.map_nil, shG, hne, hpos, ↓reduceIte, Nat.add_sub_cancel_left, Nat.sub_self]; rfl) (by decide +kernel) (by simp -dsimp -implicitDefEqProofs only [go_sem, hne, hpos, eq_self, ↓reduceIte])) (fun hx => ?_)) | (refine hK _ _ _ _ (drawOk_of (by kernel_rfl) (by simp -dsimp -implicitDefEqProofs only [go_sem, hne, hpos, eq_self, ↓reduceIte])) (fun hx => ?_))); clear hx hK; simp -dsimp -implicitDefEqProofs only [go_sem, hne, hpos, eq_self, ↓reduceIte]; (try simp (disch := omega) only [wrap_i64, wrap_u64, wrap_u32, wrap_u8]))) | omega))
    refine W_mv (Mv.freeze (k + 2) (by simp -dsimp -implicitDefEqProofs only [go_sem, hne, hpos, eq_self, ↓reduceIte]; rfl) rfl) ?_; simp -dsimp -implicitDefEqProofs only [frzF, frz_app, go_sem, hne, hpos, eq_self, ↓reduceIte]
    refine C_ret rfl ?_; simp -dsimp -implicitDefEqProofs only [go_sem, hne, hpos, eq_self, ↓reduceIte]; refine ⟨_, rfl, ?_⟩
    exact VLe.aggs (.cons (VLe.refl _) (.cons (VLe.refl _) (.cons (VLe.copy' _ _ _) .nil)))
def spL (s : St) (i : Nat) : List (List AVal) := (List.range i).map (ssf s)
theorem spL_zero (s : St) : spL s 0 = [] := rfl
theorem spL_succ (s : St) (i : Nat) : spL s (i + 1) = spL s i ++ [ssf s i] := range_snoc
theorem spL_len (s : St) (i : Nat) : (spL s i).length = i := by simp [spL]
theorem spL_clean (s : St) (i : Nat) : ((spL s i).all fun row => row.all clean) = true := all_clean fun i => rfl
def zst : List AVal := [.lit (.int .i64 0), .lit (.int .u64 0), .lit (.slice none 0 0), .lit (.slice none 0 0), .lit (.slice none 0 0), .lit (.slice none 0 0), .lit (.slice none 0 0)]
attribute [go_sem] zst spL_len
theorem copyState (s : St) (hs : s.Small) : Pure Tryz.prog Γ 23 [.agg s.cells] (.agg s.cells) := by
  obtain ⟨hng, hnk, hnu, hnt, hns, hnsp⟩ := id hs
  refine Pure_at Tryz.func23 rfl 44 rfl (Nat.le_of_ble_eq_true rfl) rfl fun k => ?_
  (repeat' (first | (refine C_seq rfl ?_) | (refine C_block rfl ?_) | (refine C_skip rfl ?_; (try simp -dsimp -implicitDefEqProofs only [go_sem, eq_self, ↓reduceIte])) | (refine C_exit rfl ?_; (try simp -dsimp -implicitDefEqProofs only [go_sem, eq_self, ↓reduceIte])) | (refine C_cond rfl _ rfl (fun ht => ?_) (fun ht => ?_) <;> (try (simp only [nf] at ht)) <;> (try (exfalso; omega))) | ((first | (refine S_reg0 rfl [0,1,2,3,4,5,6,11] rfl rfl (fun K hK => ?_)) | (refine S_drw0 rfl [0,1,2,3,4,5,6,11] rfl (by kernel_rfl) rfl (fun K hK => ?_))); simp -dsimp -implicitDefEqProofs only [go_sem, eq_self, ↓reduceIte]; (repeat' (first | (refine And.intro ?_ ?_) | (refine gs_both (fun hb => ?_) (fun hb => ?_) <;> (have hg := hb; (try simp only [nfb] at hg); simp -dsimp -implicitDefEqProofs only [go_sem, hb, hg, eq_self, ↓reduceIte]; clear hb; (try simp only [nfe] at hg))))); any_goals ((first | (refine hK _ _ _ _ (fun hx => ?_)) | (refine hK _ _ _ _ (drawA (fun i => i - k)) (fun hx => ?_)) | (refine hK _ _ _ _ drawB (fun hx => ?_))); clear hx hK; simp -dsimp -implicitDefEqProofs only [go_sem, eq_self, ↓reduceIte]; (try simp (disch := omega) only [wrap_i64, wrap_u64, wrap_u32, wrap_u8]))) | omega))
  refine M_forO (X := Nat) rfl [0,1,2,3,4,5,6,11] (k + 3) (fun i => [(5, .lit (.int .i64 (i : Int))), (4, accV (k + 2) (spL s i))]) (fun i => accH (k + 2) 1 (spL s i) [(k + 1, ⟨7, true, [zst]⟩), (k, ⟨7, true, [s.cells]⟩)]) (fun i => i ≤ s.ns) (fun i => s.ns - i) 0 ?_ (Nat.zero_le _) ?_
  · rw [spL_zero]
    simp -dsimp -implicitDefEqProofs only [go_sem, eq_self, ↓reduceIte]
    exact wkF
  intro i hi
  simp -dsimp -implicitDefEqProofs only [go_sem, eq_self, ↓reduceIte]
  have hcl : ((spL s i ++ [ssf s i]).all fun row => row.all clean) = true := by rw [← spL_succ]; exact spL_clean s (i + 1)
  (repeat' (first | (refine C_seq rfl ?_) | (refine C_block rfl ?_) | (refine C_skip rfl ?_; (try simp -dsimp -implicitDefEqProofs only [go_sem, eq_self, ↓reduceIte])) | (refine C_exit rfl ?_; (try simp -dsimp -implicitDefEqProofs only [go_sem, eq_self, ↓reduceIte])) | (refine C_cond rfl _ rfl (fun ht => ?_) (fun ht => ?_) <;> (try (simp only [nf] at ht)) <;> (try (exfalso; omega))) | ((first | (refine S_reg0 rfl [0,1,2,3,4,5,6,11] rfl rfl (fun K hK => ?_)) | (refine S_drw0 rfl [0,1,2,3,4,5,6,11] rfl (by kernel_rfl) rfl (fun K hK => ?_))); simp -dsimp -implicitDefEqProofs only [go_sem, eq_self, ↓reduceIte]; (repeat' (first | (refine And.intro ?_ ?_) | (refine gs_both (fun hb => ?_) (fun hb => ?_) <;> (have hg := hb; (try simp only [nfb] at hg); simp -dsimp -implicitDefEqProofs only [go_sem, hb, hg, eq_self, ↓reduceIte]; clear hb; (try simp only [nfe] at hg))))); any_goals ((first | (refine hK _ _ _ _ (fun hx => ?_)) | (refine hK _ _ _ _ (drawA (fun i => i - k)) (fun hx => ?_)) | (refine hK _ _ _ _ drawB (fun hx => ?_))); clear hx hK; simp -dsimp -implicitDefEqProofs only [go_sem, eq_self, ↓reduceIte]; (try simp (disch := omega) only [wrap_i64, wrap_u64, wrap_u32, wrap_u8]))) | omega))
  · by_cases hz : s.nsp i = 0
    · (repeat' (first | (refine C_seq rfl ?_) | (refine C_block rfl ?_) | (refine C_skip rfl ?_; (try simp -dsimp -implicitDefEqProofs only [go_sem, hz, eq_self, ↓reduceIte])) | (refine C_exit rfl ?_; (try simp -dsimp -implicitDefEqProofs only [go_sem, hz, eq_self, ↓reduceIte])) | (refine C_cond rfl _ rfl (fun ht => ?_) (fun ht => ?_) <;> (try (simp only [nf] at ht)) <;> (try (exfalso; omega))) | ((first | (refine S_reg0 rfl [0,1,2,3,4,5,6,11] rfl rfl (fun K hK => ?_)) | (refine S_drw0 rfl [0,1,2,3,4,5,6,11] rfl (by kernel_rfl) rfl (fun K hK => ?_))); simp -dsimp -implicitDefEqProofs only [go_sem, hz, eq_self, ↓reduceIte]; (repeat' (first | (refine And.intro ?_ ?_) | (refine gs_both (fun hb => ?_) (fun hb => ?_) <;> (have hg := hb; (try simp only [nfb] at hg); simp -dsimp -implicitDefEqProofs only [go_sem, hz, hb, hg, eq_self, ↓reduceIte]; clear hb; (try simp only [nfe] at hg))))); any_goals ((first | (refine hK _ _ _ _ (fun hx => ?_)) | (refine hK _ _ _ _ (drawOk_names (fun i => i - k) (by simp only [List.map_cons, List.map_nil, shG, hz, ↓reduceIte, Nat.add_sub_cancel_left, Nat.sub_self]; rfl) (by decide +kernel) (by simp -dsimp -implicitDefEqProofs only [go_sem, hz, eq_self, ↓reduceIte])) (fun hx => ?_)) | (refine hK _ _ _ _ (drawOk_of (by kernel_rfl) (by simp -dsimp -implicitDefEqProofs only [go_sem, hz, eq_self, ↓reduceIte])) (fun hx => ?_))); clear hx hK; simp -dsimp -implicitDefEqProofs only [go_sem, hz, eq_self, ↓reduceIte]; (try simp (disch := omega) only [wrap_i64, wrap_u64, wrap_u32, wrap_u8]))) | omega))
      refine ⟨i + 1, by omega, by omega, ?_⟩
      rw [spL_succ]
      refine Mv.trans (Mv.row (k + 4) (ssf s i) (by simp -dsimp -implicitDefEqProofs only [go_sem, hz, List.map_append, List.map_cons, List.map_nil, Flt.row, eq_self, ↓reduceIte]; rfl) (by rw [ssf, hz]; exact .cons (VLe.nil _ _) .nil) hcl) ?_
      exact Mv.app (k + 4) (k + 2) ⟨by omega, by omega⟩ ⟨by omega, by omega⟩ (wk_low (by omega) (by simp -dsimp -implicitDefEqProofs only [go_sem, hz, List.map_append, List.map_cons, List.map_nil, Flt.row, eq_self, ↓reduceIte]) (by simp -dsimp -implicitDefEqProofs only [go_sem, hz, List.map_append, List.map_cons, List.map_nil, Flt.row, eq_self, ↓reduceIte]) (by simp -dsimp -implicitDefEqProofs only [go_sem, hz, List.map_append, List.map_cons, List.map_nil, Flt.row, eq_self, ↓reduceIte]) (by simp -dsimp -implicitDefEqProofs only [go_sem, hz, List.map_append, List.map_cons, List.map_nil, Flt.row, eq_self, ↓reduceIte]))
    · have hpos : 0 < s.nsp i := by omega
      have hle : s.nsp i ≤ 1000 := hnsp i (by omega)
      (repeat' (first | (refine C_seq rfl ?_) | (refine C_block rfl ?_) | (refine C_skip rfl ?_; (try simp -dsimp -implicitDefEqProofs only [go_sem, hz, hpos, eq_self, ↓reduceIte])) | (refine C_exit rfl ?_; (try simp -dsimp -implicitDefEqProofs only [go_sem, hz, hpos, eq_self, ↓reduceIte])) | (refine C_cond rfl _ rfl (fun ht => ?_) (fun ht => ?_) <;> (try (simp only [nf] at ht)) <;> (try (exfalso; omega))) | ((first | (refine S_reg0 rfl [0,1,2,3,4,5,6,11] rfl rfl (fun K hK => ?_)) | (refine S_drw0 rfl [0,1,2,3,4,5,6,11] rfl (by kernel_rfl) rfl (fun K hK => ?_))); simp -dsimp -implicitDefEqProofs only [go_sem, hz, hpos, eq_self, ↓reduceIte]; (repeat' (first | (refine And.intro ?_ ?_) | (refine gs_both (fun hb => ?_) (fun hb => ?_) <;> (have hg := hb; (try simp only [nfb] at hg); simp -dsimp -implicitDefEqProofs only [go_sem, hz, hpos, hb, hg, eq_self, ↓reduceIte]; clear hb; (try simp only [nfe] at hg))))); any_goals ((first | (refine hK _ _ _ _ (fun hx => ?_)) | (refine hK _ _ _ _ (drawOk_names (fun i => i - k) (by simp only [List.map_cons, List.map_nil, shG, hz, hpos, ↓reduceIte, Nat.add_sub_cancel_left, Nat.sub_self]; rfl) (by decide +kernel) (by simp -dsimp -implicitDefEqProofs only [go_sem, hz, hpos, eq_self, ↓reduceIte])) (fun hx => ?_)) | (refine hK _ _ _ _ (drawOk_of (by kernel_rfl) (by simp -dsimp -implicitDefEqProofs only [go_sem, hz, hpos, eq_self, ↓reduceIte])) (fun hx => ?_))); clear hx hK; simp -dsimp -implicitDefEqProofs only [go_sem, hz, hpos, eq_self, ↓reduceIte]; (try simp (disch := omega) only [wrap_i64, wrap_u64, wrap_u32, wrap_u8]))) | omega))
      refine ⟨i + 1, by omega, by omega, ?_⟩
      rw [spL_succ]
      refine Mv.trans (Mv.freeze (k + 3) (by simp -dsimp -implicitDefEqProofs only [go_sem, hz, hpos, eq_self, ↓reduceIte]; rfl) rfl) ?_
      simp -dsimp -implicitDefEqProofs only [frzF, frz_app, go_sem, hz, hpos, frz_rows (spL_clean s i), eq_self, ↓reduceIte]
      refine Mv.trans (Mv.row (k + 5) (ssf s i) (by simp -dsimp -implicitDefEqProofs only [go_sem, hz, hpos, frz_rows (spL_clean s i), List.map_append, List.map_cons, List.map_nil, Flt.row, eq_self, ↓reduceIte]; rfl) (.cons (VLe.copy' _ _ _) .nil) hcl) ?_
      exact Mv.app (k + 5) (k + 2) ⟨by omega, by omega⟩ ⟨by omega, by omega⟩ (wk_low (by omega) (by simp -dsimp -implicitDefEqProofs only [go_sem, hz, hpos, frz_rows (spL_clean s i), List.map_append, List.map_cons, List.map_nil, Flt.row, eq_self, ↓reduceIte]) (by simp -dsimp -implicitDefEqProofs only [go_sem, hz, hpos, frz_rows (spL_clean s i), List.map_append, List.map_cons, List.map_nil, Flt.row, eq_self, ↓reduceIte]) (by simp -dsimp -implicitDefEqProofs only [go_sem, hz, hpos, frz_rows (spL_clean s i), List.map_append, List.map_cons, List.map_nil, Flt.row, eq_self, ↓reduceIte]) (by simp -dsimp -implicitDefEqProofs only [go_sem, hz, hpos, frz_rows (spL_clean s i), List.map_append, List.map_cons, List.map_nil, Flt.row, eq_self, ↓reduceIte]))
  · have hi' : i = s.ns := by omega
    subst hi'
    have hv : VLe (rows 1 (spL s s.ns)) (.rd 1 s.ns (ssf s)) := by
      rw [rows, spL_len]
      exact VLe.copy' _ _ _
    refine W_mv (Mv.frz_at (id := k + 2) (s := 1) (l := spL s s.ns) 4 (.rd 1 s.ns (ssf s)) [(k + 1, ⟨7, true, [zst]⟩), (k, ⟨7, true, [s.cells]⟩)] (by simp -dsimp -implicitDefEqProofs only [go_sem, List.map_append, List.map_cons, List.map_nil, Flt.row, eq_self, ↓reduceIte]) (by simp -dsimp -implicitDefEqProofs only [go_sem, List.map_append, List.map_cons, List.map_nil, Flt.row, eq_self, ↓reduceIte]) hv (by simp -dsimp -implicitDefEqProofs only [go_sem, List.map_append, List.map_cons, List.map_nil, Flt.row, eq_self, ↓reduceIte]) (by simp -dsimp -implicitDefEqProofs only [go_sem, List.map_append, List.map_cons, List.map_nil, Flt.row, eq_self, ↓reduceIte])) ?_
    simp -dsimp -implicitDefEqProofs only [go_sem, eq_self, ↓reduceIte]
    rcases Nat.eq_zero_or_pos s.nt with hz | hpos
    · refine S_drw rfl [0,1,2,3,4,5,6,11] [.ret (.agg s.cfg), .ret (.rd 1 s.nk (kf s)), .ret (.rd 1 s.nu (uf s))] (by kernel_rfl) rfl (fun K hK => ?_); simp -dsimp -implicitDefEqProofs only [go_sem, hz, eq_self, ↓reduceIte]; (repeat' (first | (refine And.intro ?_ ?_) | (refine gs_both (fun hb => ?_) (fun hb => ?_) <;> (have hg := hb; (try simp only [nfb] at hg); simp -dsimp -implicitDefEqProofs only [go_sem, hz, hb, hg, eq_self, ↓reduceIte]; clear hb; (try simp only [nfe] at hg))))); (any_goals ((first | (refine hK _ _ _ _ (drawOk_names (fun i => i - k) (by simp only [List.map_cons, List.map_nil, shG, hz, ↓reduceIte, Nat.add_sub_cancel_left, Nat.sub_self]; rfl) (by decide +kernel) (by simp -dsimp -implicitDefEqProofs only [go_sem, hz, eq_self, ↓reduceIte])) (fun hx => ?_)) | (refine hK _ _ _ _ (drawOk_of (by kernel_rfl) (by simp -dsimp -implicitDefEqProofs only [go_sem, hz, eq_self, ↓reduceIte])) (fun hx => ?_))); clear hx hK; simp -dsimp -implicitDefEqProofs only [go_sem, hz, eq_self, ↓reduceIte]; (try simp (disch := omega) only [wrap_i64, wrap_u64, wrap_u32, wrap_u8]))); (all_goals (try omega))
      · exact copyConfig s hs
      · exact copyInts s.nk s.clk hnk
      · exact copyInts s.nu s.cur hnu
      (repeat' (first | (refine C_seq rfl ?_) | (refine C_block rfl ?_) | (refine C_skip rfl ?_; (try simp -dsimp -implicitDefEqProofs only [go_sem, hz, eq_self, ↓reduceIte])) | (refine C_exit rfl ?_; (try simp -dsimp -implicitDefEqProofs only [go_sem, hz, eq_self, ↓reduceIte])) | (refine C_cond rfl _ rfl (fun ht => ?_) (fun ht => ?_) <;> (try (simp only [nf] at ht)) <;> (try (exfalso; omega))) | ((first | (refine S_reg0 rfl [0,1,2,3,4,5,6,11] rfl rfl (fun K hK => ?_)) | (refine S_drw0 rfl [0,1,2,3,4,5,6,11] rfl (by kernel_rfl) rfl (fun K hK => ?_))); simp -dsimp -implicitDefEqProofs only [go_sem, hz, eq_self, ↓reduceIte]; (repeat' (first | (refine And.intro ?_ ?_) | (refine gs_both (fun hb => ?_) (fun hb => ?_) <;> (have hg := hb; (try simp only [nfb] at hg); simp -dsimp -implicitDefEqProofs only [go_sem, hz, hb, hg, eq_self, ↓reduceIte]; clear hb; (try simp only [nfe] at hg))))); any_goals ((first | (refine hK _ _ _ _ (fun hx => ?_)) | (refine hK _ _ _ _ (drawOk_names (fun i => i - k) (by simp only [List.map_cons, List.map_nil, shG, hz, ↓reduceIte, Nat.add_sub_cancel_left, Nat.sub_self]; rfl) (by decide +kernel) (by simp -dsimp -implicitDefEqProofs only [go_sem, hz, eq_self, ↓reduceIte])) (fun hx => ?_)) | (refine hK _ _ _ _ (drawOk_of (by kernel_rfl) (by simp -dsimp -implicitDefEqProofs only [go_sem, hz, eq_self, ↓reduceIte])) (fun hx => ?_))); clear hx hK; simp -dsimp -implicitDefEqProofs only [go_sem, hz, eq_self, ↓reduceIte]; (try simp (disch := omega) only [wrap_i64, wrap_u64, wrap_u32, wrap_u8]))) | omega))
      refine C_ret rfl ?_; simp -dsimp -implicitDefEqProofs only [go_sem, hz, eq_self, ↓reduceIte]; refine ⟨_, rfl, ?_⟩
      exact VLe.aggs (.cons (VLe.refl _) (.cons (VLe.refl _) (.cons (VLe.refl _) (.cons (VLe.refl _) (.cons (VLe.refl _) (.cons (VLe.nil _ _) (.cons (VLe.refl _) .nil)))))))
    · have hne : ¬ s.nt = 0 := by omega
      refine S_drw rfl [0,1,2,3,4,5,6,11] [.ret (.agg s.cfg), .ret (.rd 1 s.nk (kf s)), .ret (.rd 1 s.nu (uf s))] (by kernel_rfl) rfl (fun K hK => ?_); simp -dsimp -implicitDefEqProofs only [go_sem, hne, hpos, eq_self, ↓reduceIte]; (repeat' (first | (refine And.intro ?_ ?_) | (refine gs_both (fun hb => ?_) (fun hb => ?_) <;> (have hg := hb; (try simp only [nfb] at hg); simp -dsimp -implicitDefEqProofs only [go_sem, hne, hpos, hb, hg, eq_self, ↓reduceIte]; clear hb; (try simp only [nfe] at hg))))); (any_goals ((first | (refine hK _ _ _ _ (drawOk_names (fun i => i - k) (by simp only [List.map_cons, List.map_nil, shG, hne, hpos, ↓reduceIte, Nat.add_sub_cancel_left, Nat.sub_self]; rfl) (by decide +kernel) (by simp -dsimp -implicitDefEqProofs only [go_sem, hne, hpos, eq_self, ↓reduceIte])) (fun hx => ?_)) | (refine hK _ _ _ _ (drawOk_of (by kernel_rfl) (by simp -dsimp -implicitDefEqProofs only [go_sem, hne, hpos, eq_self, ↓reduceIte])) (fun hx => ?_))); clear hx hK; simp -dsimp -implicitDefEqProofs only [go_sem, hne, hpos, eq_self, ↓reduceIte]; (try simp (disch := omega) only [wrap_i64, wrap_u64, wrap_u32, wrap_u8]))); (all_goals (try omega))
      · exact copyConfig s hs
      · exact copyInts s.nk s.clk hnk
      · exact copyInts s.nu s.cur hnu
      (repeat' (first | (refine C_seq rfl ?_) | (refine C_block rfl ?_) | (refine C_skip rfl ?_; (try simp -dsimp -implicitDefEqProofs only [go_sem, hne, hpos, eq_self, ↓reduceIte])) | (refine C_exit rfl ?_; (try simp -dsimp -implicitDefEqProofs only [go_sem, hne, hpos, eq_self, ↓reduceIte])) | (refine C_cond rfl _ rfl (fun ht => ?_) (fun ht => ?_) <;> (try (simp only [nf] at ht)) <;> (try (exfalso; omega))) | ((first | (refine S_reg0 rfl [0,1,2,3,4,5,6,11] rfl rfl (fun K hK => ?_)) | (refine S_drw0 rfl [0,1,2,3,4,5,6,11] rfl (by kernel_rfl) rfl (fun K hK => ?_))); simp -dsimp -implicitDefEqProofs only [go_sem, hne, hpos, eq_self, ↓reduceIte]; (repeat' (first | (refine And.intro ?_ ?_) | (refine gs_both (fun hb => ?_) (fun hb => ?_) <;> (have hg := hb; (try simp only [nfb] at hg); simp -dsimp -implicitDefEqProofs only [go_sem, hne, hpos, hb, hg, eq_self, ↓reduceIte]; clear hb; (try simp only [nfe] at hg))))); any_goals ((first | (refine hK _ _ _ _ (fun hx => ?_)) | (refine hK _ _ _ _ (drawOk_names (fun i => i - k) (by simp only [List.map_cons, List.map_nil, shG, hne, hpos, ↓reduceIte, Nat.add_sub_cancel_left, Nat.sub_self]; rfl) (by decide +kernel) (by simp -dsimp -implicitDefEqProofs only [go_sem, hne, hpos, eq_self, ↓reduceIte])) (fun hx => ?_)) | (refine hK _ _ _ _ (drawOk_of (by kernel_rfl) (by simp -dsimp -implicitDefEqProofs only [go_sem, hne, hpos, eq_self, ↓reduceIte])) (fun hx => ?_))); clear hx hK; simp -dsimp -implicitDefEqProofs only [go_sem, hne, hpos, eq_self, ↓reduceIte]; (try simp (disch := omega) only [wrap_i64, wrap_u64, wrap_u32, wrap_u8]))) | omega))
      refine W_mv (Mv.freeze (k + 3) (by simp -dsimp -implicitDefEqProofs only [go_sem, hne, hpos, eq_self, ↓reduceIte]; rfl) rfl) ?_; simp -dsimp -implicitDefEqProofs only [frzF, frz_app, go_sem, hne, hpos, eq_self, ↓reduceIte]
      refine C_ret rfl ?_; simp -dsimp -implicitDefEqProofs only [go_sem, hne, hpos, eq_self, ↓reduceIte]; refine ⟨_, rfl, ?_⟩
      exact VLe.aggs (.cons (VLe.refl _) (.cons (VLe.refl _) (.cons (VLe.refl _) (.cons (VLe.refl _) (.cons (VLe.refl _) (.cons (VLe.copy' _ _ _) (.cons (VLe.refl _) .nil)))))))
end Go.Proofs.T
end
