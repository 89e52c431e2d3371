import Derived.Test.YtegccfgfddpmpaaGreatDoorZAM
import Derived.HandedShaped
import Derived.Stop.LaidErr
import Derived.LaidSub
import Derived.Shelf.Vars
import Derived.Test.YtegccfgfddpmpaaGreatDoorRows
import Derived.ChangeMaps5
import Derived.Lay
import Derived.MakeChecks
import Derived.KernelRfl

section
set_option linter.unusedVariables false
set_option linter.unusedSimpArgs false
namespace Go.Proofs.T
open Go Go.AM Go.Proofs Go.Lib
set_option linter.unusedSimpArgs false
set_option linter.unusedVariables false
set_option maxRecDepth 4000
variable {Γ : List (Nat × List AVal)}
theorem tells_c (hG : GT Γ) (r : Nat) (a b : Int) (s : List UInt8) (hr : r < 256) (ha : a ≤ 9223372036854775807) (hb : b ≤ 9223372036854775807) :
    Pure Tryz.prog Γ 5 [.agg (flt r a b), .lit (.string (ByteArray.mk s.toArray))] (.lit (.bool true)) := by
  have hE := read_eq s
  refine Pure_at Tryz.func5 rfl 70 rfl (Nat.le_of_ble_eq_true rfl) rfl fun k => ?_
  (repeat' (first | (refine C_seq rfl ?_) | (refine C_block rfl ?_) | (refine C_skip rfl ?_; (try simp -dsimp -implicitDefEqProofs only [go_sem, nmL_len, nmL_get, eq_self, ↓reduceIte])) | (refine C_exit rfl ?_; (try simp -dsimp -implicitDefEqProofs only [go_sem, nmL_len, nmL_get, eq_self, ↓reduceIte])) | (refine C_cond rfl _ rfl (fun ht => ?_) (fun ht => ?_) <;> (try (simp only [nf] at ht)) <;> (try (exfalso; omega))) | ((first | (refine S_reg0 rfl [0,1,2,4,5,6,7,8,9,10,11,12,13,16,19] rfl rfl (fun K hK => ?_)) | (refine S_drw0 rfl [0,1,2,4,5,6,7,8,9,10,11,12,13,16,19] rfl (by kernel_rfl) rfl (fun K hK => ?_))); simp -dsimp -implicitDefEqProofs only [go_sem, nmL_len, nmL_get, eq_self, ↓reduceIte]; (repeat' (first | (refine And.intro ?_ ?_) | (refine gs_both (fun hb => ?_) (fun hb => ?_) <;> (have hg := hb; (try simp only [nfb] at hg); simp -dsimp -implicitDefEqProofs only [go_sem, nmL_len, nmL_get, hb, hg, eq_self, ↓reduceIte]; clear hb; (try simp only [nfe] at hg))))); any_goals ((first | (refine hK _ _ _ _ (fun hx => ?_)) | (refine hK _ _ _ _ (drawOk_names (fun i => i - k) (by simp only [List.map_cons, List.map_nil, shG, nmL_len, nmL_get, ↓reduceIte, Nat.add_sub_cancel_left, Nat.sub_self]; rfl) (by decide +kernel) (by simp -dsimp -implicitDefEqProofs only [go_sem, nmL_len, nmL_get, eq_self, ↓reduceIte])) (fun hx => ?_)) | (refine hK _ _ _ _ (drawOk_of (by kernel_rfl) (by simp -dsimp -implicitDefEqProofs only [go_sem, nmL_len, nmL_get, eq_self, ↓reduceIte])) (fun hx => ?_))); clear hx hK; simp -dsimp -implicitDefEqProofs only [go_sem, nmL_len, nmL_get, eq_self, ↓reduceIte]; (try simp (disch := omega) only [wrap_i64, wrap_u64, wrap_u32, wrap_u8]))) | omega))
  · refine C_ret rfl ⟨_, rfl, VLe.of_eq ?_⟩
    rfl
  · refine S_drw rfl [0,1,2,4,5,6,7,8,9,10,11,12,13,16,19] [.ret (strs nmL)] (by kernel_rfl) rfl (fun K hK => ?_); simp -dsimp -implicitDefEqProofs only [go_sem, nmL_len, nmL_get, eq_self, ↓reduceIte]; (repeat' (first | (refine And.intro ?_ ?_) | (refine gs_both (fun hb => ?_) (fun hb => ?_) <;> (have hg := hb; (try simp only [nfb] at hg); simp -dsimp -implicitDefEqProofs only [go_sem, nmL_len, nmL_get, hb, hg, eq_self, ↓reduceIte]; clear hb; (try simp only [nfe] at hg))))); (any_goals ((first | (refine hK _ _ _ _ (drawOk_names (fun i => i - k) (by simp only [List.map_cons, List.map_nil, shG, nmL_len, nmL_get, ↓reduceIte, Nat.add_sub_cancel_left, Nat.sub_self]; rfl) (by decide +kernel) (by simp -dsimp -implicitDefEqProofs only [go_sem, nmL_len, nmL_get, eq_self, ↓reduceIte])) (fun hx => ?_)) | (refine hK _ _ _ _ (drawOk_of (by kernel_rfl) (by simp -dsimp -implicitDefEqProofs only [go_sem, nmL_len, nmL_get, eq_self, ↓reduceIte])) (fun hx => ?_))); clear hx hK; simp -dsimp -implicitDefEqProofs only [go_sem, nmL_len, nmL_get, eq_self, ↓reduceIte]; (try simp (disch := omega) only [wrap_i64, wrap_u64, wrap_u32, wrap_u8]))); (all_goals (try omega))
    · exact names_c
    all_goals ((repeat' (first | (refine C_seq rfl ?_) | (refine C_block rfl ?_) | (refine C_skip rfl ?_; (try simp -dsimp -implicitDefEqProofs only [go_sem, nmL_len, nmL_get, eq_self, ↓reduceIte])) | (refine C_exit rfl ?_; (try simp -dsimp -implicitDefEqProofs only [go_sem, nmL_len, nmL_get, eq_self, ↓reduceIte])) | (refine C_cond rfl _ rfl (fun ht => ?_) (fun ht => ?_) <;> (try (simp only [nf] at ht)) <;> (try (exfalso; omega))) | ((first | (refine S_reg0 rfl [0,1,2,4,5,6,7,8,9,10,11,12,13,16,19] rfl rfl (fun K hK => ?_)) | (refine S_drw0 rfl [0,1,2,4,5,6,7,8,9,10,11,12,13,16,19] rfl (by kernel_rfl) rfl (fun K hK => ?_))); simp -dsimp -implicitDefEqProofs only [go_sem, nmL_len, nmL_get, eq_self, ↓reduceIte]; (repeat' (first | (refine And.intro ?_ ?_) | (refine gs_both (fun hb => ?_) (fun hb => ?_) <;> (have hg := hb; (try simp only [nfb] at hg); simp -dsimp -implicitDefEqProofs only [go_sem, nmL_len, nmL_get, hb, hg, eq_self, ↓reduceIte]; clear hb; (try simp only [nfe] at hg))))); any_goals ((first | (refine hK _ _ _ _ (fun hx => ?_)) | (refine hK _ _ _ _ (drawOk_names (fun i => i - k) (by simp only [List.map_cons, List.map_nil, shG, nmL_len, nmL_get, ↓reduceIte, Nat.add_sub_cancel_left, Nat.sub_self]; rfl) (by decide +kernel) (by simp -dsimp -implicitDefEqProofs only [go_sem, nmL_len, nmL_get, eq_self, ↓reduceIte])) (fun hx => ?_)) | (refine hK _ _ _ _ (drawOk_of (by kernel_rfl) (by simp -dsimp -implicitDefEqProofs only [go_sem, nmL_len, nmL_get, eq_self, ↓reduceIte])) (fun hx => ?_))); clear hx hK; simp -dsimp -implicitDefEqProofs only [go_sem, nmL_len, nmL_get, eq_self, ↓reduceIte]; (try simp (disch := omega) only [wrap_i64, wrap_u64, wrap_u32, wrap_u8]))) | omega)))
    refine S_reg rfl [0,1,2,4,5,6,7,8,9,10,11,12,13,16,19] [.ret (.tup [.lit (.string (ByteArray.mk (textT r a b).toArray)), .lit (.int .i64 (textE r a b))])] rfl (fun K hK => ?_); simp -dsimp -implicitDefEqProofs only [go_sem, nmL_len, nmL_get, eq_self, ↓reduceIte]; (repeat' (first | (refine And.intro ?_ ?_) | (refine gs_both (fun hb => ?_) (fun hb => ?_) <;> (have hg := hb; (try simp only [nfb] at hg); simp -dsimp -implicitDefEqProofs only [go_sem, nmL_len, nmL_get, hb, hg, eq_self, ↓reduceIte]; clear hb; (try simp only [nfe] at hg))))); (any_goals ((refine hK _ _ _ _ (fun hx => ?_)); clear hx hK; simp -dsimp -implicitDefEqProofs only [go_sem, nmL_len, nmL_get, eq_self, ↓reduceIte]; (try simp (disch := omega) only [wrap_i64, wrap_u64, wrap_u32, wrap_u8]))); (all_goals (try omega))
    · exact text_c hG r a b hr ha hb
    (repeat' (first | (refine C_seq rfl ?_) | (refine C_block rfl ?_) | (refine C_skip rfl ?_; (try simp -dsimp -implicitDefEqProofs only [go_sem, nmL_len, nmL_get, eq_self, ↓reduceIte])) | (refine C_exit rfl ?_; (try simp -dsimp -implicitDefEqProofs only [go_sem, nmL_len, nmL_get, eq_self, ↓reduceIte])) | (refine C_cond rfl _ rfl (fun ht => ?_) (fun ht => ?_) <;> (try (simp only [nf] at ht)) <;> (try (exfalso; omega))) | ((first | (refine S_reg0 rfl [0,1,2,4,5,6,7,8,9,10,11,12,13,16,19] rfl rfl (fun K hK => ?_)) | (refine S_drw0 rfl [0,1,2,4,5,6,7,8,9,10,11,12,13,16,19] rfl (by kernel_rfl) rfl (fun K hK => ?_))); simp -dsimp -implicitDefEqProofs only [go_sem, nmL_len, nmL_get, eq_self, ↓reduceIte]; (repeat' (first | (refine And.intro ?_ ?_) | (refine gs_both (fun hb => ?_) (fun hb => ?_) <;> (have hg := hb; (try simp only [nfb] at hg); simp -dsimp -implicitDefEqProofs only [go_sem, nmL_len, nmL_get, hb, hg, eq_self, ↓reduceIte]; clear hb; (try simp only [nfe] at hg))))); any_goals ((first | (refine hK _ _ _ _ (fun hx => ?_)) | (refine hK _ _ _ _ (drawOk_names (fun i => i - k) (by simp only [List.map_cons, List.map_nil, shG, nmL_len, nmL_get, ↓reduceIte, Nat.add_sub_cancel_left, Nat.sub_self]; rfl) (by decide +kernel) (by simp -dsimp -implicitDefEqProofs only [go_sem, nmL_len, nmL_get, eq_self, ↓reduceIte])) (fun hx => ?_)) | (refine hK _ _ _ _ (drawOk_of (by kernel_rfl) (by simp -dsimp -implicitDefEqProofs only [go_sem, nmL_len, nmL_get, eq_self, ↓reduceIte])) (fun hx => ?_))); clear hx hK; simp -dsimp -implicitDefEqProofs only [go_sem, nmL_len, nmL_get, eq_self, ↓reduceIte]; (try simp (disch := omega) only [wrap_i64, wrap_u64, wrap_u32, wrap_u8]))) | omega))
    refine S_reg rfl [0,1,2,4,5,6,7,8,9,10,11,12,13,16,19] [.ret (.tup [.lit (.string (ByteArray.mk (textT r a b).toArray)), .lit (.int .i64 (textE r a b))])] rfl (fun K hK => ?_); simp -dsimp -implicitDefEqProofs only [go_sem, nmL_len, nmL_get, eq_self, ↓reduceIte]; (repeat' (first | (refine And.intro ?_ ?_) | (refine gs_both (fun hb => ?_) (fun hb => ?_) <;> (have hg := hb; (try simp only [nfb] at hg); simp -dsimp -implicitDefEqProofs only [go_sem, nmL_len, nmL_get, hb, hg, eq_self, ↓reduceIte]; clear hb; (try simp only [nfe] at hg))))); (any_goals ((refine hK _ _ _ _ (fun hx => ?_)); clear hx hK; simp -dsimp -implicitDefEqProofs only [go_sem, nmL_len, nmL_get, eq_self, ↓reduceIte]; (try simp (disch := omega) only [wrap_i64, wrap_u64, wrap_u32, wrap_u8]))); (all_goals (try omega))
    · exact textR_c r a b hr ha hb
    (repeat' (first | (refine C_seq rfl ?_) | (refine C_block rfl ?_) | (refine C_skip rfl ?_; (try simp -dsimp -implicitDefEqProofs only [go_sem, nmL_len, nmL_get, eq_self, ↓reduceIte])) | (refine C_exit rfl ?_; (try simp -dsimp -implicitDefEqProofs only [go_sem, nmL_len, nmL_get, eq_self, ↓reduceIte])) | (refine C_cond rfl _ rfl (fun ht => ?_) (fun ht => ?_) <;> (try (simp only [nf] at ht)) <;> (try (exfalso; omega))) | ((first | (refine S_reg0 rfl [0,1,2,4,5,6,7,8,9,10,11,12,13,16,19] rfl rfl (fun K hK => ?_)) | (refine S_drw0 rfl [0,1,2,4,5,6,7,8,9,10,11,12,13,16,19] rfl (by kernel_rfl) rfl (fun K hK => ?_))); simp -dsimp -implicitDefEqProofs only [go_sem, nmL_len, nmL_get, eq_self, ↓reduceIte]; (repeat' (first | (refine And.intro ?_ ?_) | (refine gs_both (fun hb => ?_) (fun hb => ?_) <;> (have hg := hb; (try simp only [nfb] at hg); simp -dsimp -implicitDefEqProofs only [go_sem, nmL_len, nmL_get, hb, hg, eq_self, ↓reduceIte]; clear hb; (try simp only [nfe] at hg))))); any_goals ((first | (refine hK _ _ _ _ (fun hx => ?_)) | (refine hK _ _ _ _ (drawOk_names (fun i => i - k) (by simp only [List.map_cons, List.map_nil, shG, nmL_len, nmL_get, ↓reduceIte, Nat.add_sub_cancel_left, Nat.sub_self]; rfl) (by decide +kernel) (by simp -dsimp -implicitDefEqProofs only [go_sem, nmL_len, nmL_get, eq_self, ↓reduceIte])) (fun hx => ?_)) | (refine hK _ _ _ _ (drawOk_of (by kernel_rfl) (by simp -dsimp -implicitDefEqProofs only [go_sem, nmL_len, nmL_get, eq_self, ↓reduceIte])) (fun hx => ?_))); clear hx hK; simp -dsimp -implicitDefEqProofs only [go_sem, nmL_len, nmL_get, eq_self, ↓reduceIte]; (try simp (disch := omega) only [wrap_i64, wrap_u64, wrap_u32, wrap_u8]))) | omega))
    refine S_reg rfl [0,1,2,4,5,6,7,8,9,10,11,12,13,16,19] [.ret (.tup [.agg (flt (readP s).1.1 (readP s).1.2.1 (readP s).1.2.2), .lit (.int .i64 (readP s).2)])] rfl (fun K hK => ?_); simp -dsimp -implicitDefEqProofs only [go_sem, nmL_len, nmL_get, eq_self, ↓reduceIte]; (repeat' (first | (refine And.intro ?_ ?_) | (refine gs_both (fun hb => ?_) (fun hb => ?_) <;> (have hg := hb; (try simp only [nfb] at hg); simp -dsimp -implicitDefEqProofs only [go_sem, nmL_len, nmL_get, hb, hg, eq_self, ↓reduceIte]; clear hb; (try simp only [nfe] at hg))))); (any_goals ((refine hK _ _ _ _ (fun hx => ?_)); clear hx hK; simp -dsimp -implicitDefEqProofs only [go_sem, nmL_len, nmL_get, eq_self, ↓reduceIte]; (try simp (disch := omega) only [wrap_i64, wrap_u64, wrap_u32, wrap_u8]))); (all_goals (try omega))
    · exact read_c hG s (by omega)
    (repeat' (first | (refine C_seq rfl ?_) | (refine C_block rfl ?_) | (refine C_skip rfl ?_; (try simp -dsimp -implicitDefEqProofs only [go_sem, nmL_len, nmL_get, eq_self, ↓reduceIte])) | (refine C_exit rfl ?_; (try simp -dsimp -implicitDefEqProofs only [go_sem, nmL_len, nmL_get, eq_self, ↓reduceIte])) | (refine C_cond rfl _ rfl (fun ht => ?_) (fun ht => ?_) <;> (try (simp only [nf] at ht)) <;> (try (exfalso; omega))) | ((first | (refine S_reg0 rfl [0,1,2,4,5,6,7,8,9,10,11,12,13,16,19] rfl rfl (fun K hK => ?_)) | (refine S_drw0 rfl [0,1,2,4,5,6,7,8,9,10,11,12,13,16,19] rfl (by kernel_rfl) rfl (fun K hK => ?_))); simp -dsimp -implicitDefEqProofs only [go_sem, nmL_len, nmL_get, eq_self, ↓reduceIte]; (repeat' (first | (refine And.intro ?_ ?_) | (refine gs_both (fun hb => ?_) (fun hb => ?_) <;> (have hg := hb; (try simp only [nfb] at hg); simp -dsimp -implicitDefEqProofs only [go_sem, nmL_len, nmL_get, hb, hg, eq_self, ↓reduceIte]; clear hb; (try simp only [nfe] at hg))))); any_goals ((first | (refine hK _ _ _ _ (fun hx => ?_)) | (refine hK _ _ _ _ (drawOk_names (fun i => i - k) (by simp only [List.map_cons, List.map_nil, shG, nmL_len, nmL_get, ↓reduceIte, Nat.add_sub_cancel_left, Nat.sub_self]; rfl) (by decide +kernel) (by simp -dsimp -implicitDefEqProofs only [go_sem, nmL_len, nmL_get, eq_self, ↓reduceIte])) (fun hx => ?_)) | (refine hK _ _ _ _ (drawOk_of (by kernel_rfl) (by simp -dsimp -implicitDefEqProofs only [go_sem, nmL_len, nmL_get, eq_self, ↓reduceIte])) (fun hx => ?_))); clear hx hK; simp -dsimp -implicitDefEqProofs only [go_sem, nmL_len, nmL_get, eq_self, ↓reduceIte]; (try simp (disch := omega) only [wrap_i64, wrap_u64, wrap_u32, wrap_u8]))) | omega))
    refine S_reg rfl [0,1,2,4,5,6,7,8,9,10,11,12,13,16,19] [.ret (.tup [.agg (flt (readP s).1.1 (readP s).1.2.1 (readP s).1.2.2), .lit (.int .i64 (readP s).2)])] rfl (fun K hK => ?_); simp -dsimp -implicitDefEqProofs only [go_sem, nmL_len, nmL_get, eq_self, ↓reduceIte]; (repeat' (first | (refine And.intro ?_ ?_) | (refine gs_both (fun hb => ?_) (fun hb => ?_) <;> (have hg := hb; (try simp only [nfb] at hg); simp -dsimp -implicitDefEqProofs only [go_sem, nmL_len, nmL_get, hb, hg, eq_self, ↓reduceIte]; clear hb; (try simp only [nfe] at hg))))); (any_goals ((refine hK _ _ _ _ (fun hx => ?_)); clear hx hK; simp -dsimp -implicitDefEqProofs only [go_sem, nmL_len, nmL_get, eq_self, ↓reduceIte]; (try simp (disch := omega) only [wrap_i64, wrap_u64, wrap_u32, wrap_u8]))); (all_goals (try omega))
    · rw [← hE]; exact readR_c s (by omega)
    (repeat' (first | (refine C_seq rfl ?_) | (refine C_block rfl ?_) | (refine C_skip rfl ?_; (try simp -dsimp -implicitDefEqProofs only [go_sem, nmL_len, nmL_get, eq_self, ↓reduceIte])) | (refine C_exit rfl ?_; (try simp -dsimp -implicitDefEqProofs only [go_sem, nmL_len, nmL_get, eq_self, ↓reduceIte])) | (refine C_cond rfl _ rfl (fun ht => ?_) (fun ht => ?_) <;> (try (simp only [nf] at ht)) <;> (try (exfalso; omega))) | ((first | (refine S_reg0 rfl [0,1,2,4,5,6,7,8,9,10,11,12,13,16,19] rfl rfl (fun K hK => ?_)) | (refine S_drw0 rfl [0,1,2,4,5,6,7,8,9,10,11,12,13,16,19] rfl (by kernel_rfl) rfl (fun K hK => ?_))); simp -dsimp -implicitDefEqProofs only [go_sem, nmL_len, nmL_get, eq_self, ↓reduceIte]; (repeat' (first | (refine And.intro ?_ ?_) | (refine gs_both (fun hb => ?_) (fun hb => ?_) <;> (have hg := hb; (try simp only [nfb] at hg); simp -dsimp -implicitDefEqProofs only [go_sem, nmL_len, nmL_get, hb, hg, eq_self, ↓reduceIte]; clear hb; (try simp only [nfe] at hg))))); any_goals ((first | (refine hK _ _ _ _ (fun hx => ?_)) | (refine hK _ _ _ _ (drawOk_names (fun i => i - k) (by simp only [List.map_cons, List.map_nil, shG, nmL_len, nmL_get, ↓reduceIte, Nat.add_sub_cancel_left, Nat.sub_self]; rfl) (by decide +kernel) (by simp -dsimp -implicitDefEqProofs only [go_sem, nmL_len, nmL_get, eq_self, ↓reduceIte])) (fun hx => ?_)) | (refine hK _ _ _ _ (drawOk_of (by kernel_rfl) (by simp -dsimp -implicitDefEqProofs only [go_sem, nmL_len, nmL_get, eq_self, ↓reduceIte])) (fun hx => ?_))); clear hx hK; simp -dsimp -implicitDefEqProofs only [go_sem, nmL_len, nmL_get, eq_self, ↓reduceIte]; (try simp (disch := omega) only [wrap_i64, wrap_u64, wrap_u32, wrap_u8]))) | omega))
    refine S_reg rfl [0,1,2,4,5,6,7,8,9,10,11,12,13,16,19] [.ret (.lit (.string (ByteArray.mk (nm r).toArray)))] rfl (fun K hK => ?_); simp -dsimp -implicitDefEqProofs only [go_sem, nmL_len, nmL_get, eq_self, ↓reduceIte]; (repeat' (first | (refine And.intro ?_ ?_) | (refine gs_both (fun hb => ?_) (fun hb => ?_) <;> (have hg := hb; (try simp only [nfb] at hg); simp -dsimp -implicitDefEqProofs only [go_sem, nmL_len, nmL_get, hb, hg, eq_self, ↓reduceIte]; clear hb; (try simp only [nfe] at hg))))); (any_goals ((refine hK _ _ _ _ (fun hx => ?_)); clear hx hK; simp -dsimp -implicitDefEqProofs only [go_sem, nmL_len, nmL_get, eq_self, ↓reduceIte]; (try simp (disch := omega) only [wrap_i64, wrap_u64, wrap_u32, wrap_u8]))); (all_goals (try omega))
    · exact name_c r hr
    (repeat' (first | (refine C_seq rfl ?_) | (refine C_block rfl ?_) | (refine C_skip rfl ?_; (try simp -dsimp -implicitDefEqProofs only [go_sem, nmL_len, nmL_get, eq_self, ↓reduceIte])) | (refine C_exit rfl ?_; (try simp -dsimp -implicitDefEqProofs only [go_sem, nmL_len, nmL_get, eq_self, ↓reduceIte])) | (refine C_cond rfl _ rfl (fun ht => ?_) (fun ht => ?_) <;> (try (simp only [nf] at ht)) <;> (try (exfalso; omega))) | ((first | (refine S_reg0 rfl [0,1,2,4,5,6,7,8,9,10,11,12,13,16,19] rfl rfl (fun K hK => ?_)) | (refine S_drw0 rfl [0,1,2,4,5,6,7,8,9,10,11,12,13,16,19] rfl (by kernel_rfl) rfl (fun K hK => ?_))); simp -dsimp -implicitDefEqProofs only [go_sem, nmL_len, nmL_get, eq_self, ↓reduceIte]; (repeat' (first | (refine And.intro ?_ ?_) | (refine gs_both (fun hb => ?_) (fun hb => ?_) <;> (have hg := hb; (try simp only [nfb] at hg); simp -dsimp -implicitDefEqProofs only [go_sem, nmL_len, nmL_get, hb, hg, eq_self, ↓reduceIte]; clear hb; (try simp only [nfe] at hg))))); any_goals ((first | (refine hK _ _ _ _ (fun hx => ?_)) | (refine hK _ _ _ _ (drawOk_names (fun i => i - k) (by simp only [List.map_cons, List.map_nil, shG, nmL_len, nmL_get, ↓reduceIte, Nat.add_sub_cancel_left, Nat.sub_self]; rfl) (by decide +kernel) (by simp -dsimp -implicitDefEqProofs only [go_sem, nmL_len, nmL_get, eq_self, ↓reduceIte])) (fun hx => ?_)) | (refine hK _ _ _ _ (drawOk_of (by kernel_rfl) (by simp -dsimp -implicitDefEqProofs only [go_sem, nmL_len, nmL_get, eq_self, ↓reduceIte])) (fun hx => ?_))); clear hx hK; simp -dsimp -implicitDefEqProofs only [go_sem, nmL_len, nmL_get, eq_self, ↓reduceIte]; (try simp (disch := omega) only [wrap_i64, wrap_u64, wrap_u32, wrap_u8]))) | omega))
    refine C_ret rfl ⟨_, rfl, VLe.of_eq ?_⟩
    rfl
  · have hnB : nm r = [] := nm_big (by omega)
    refine S_reg rfl [0,1,2,4,5,6,7,8,9,10,11,12,13,16,19] [.ret (.tup [.lit (.string (ByteArray.mk (textT r a b).toArray)), .lit (.int .i64 (textE r a b))])] rfl (fun K hK => ?_); simp -dsimp -implicitDefEqProofs only [go_sem, hnB, eq_self, ↓reduceIte]; (repeat' (first | (refine And.intro ?_ ?_) | (refine gs_both (fun hb => ?_) (fun hb => ?_) <;> (have hg := hb; (try simp only [nfb] at hg); simp -dsimp -implicitDefEqProofs only [go_sem, hnB, hb, hg, eq_self, ↓reduceIte]; clear hb; (try simp only [nfe] at hg))))); (any_goals ((refine hK _ _ _ _ (fun hx => ?_)); clear hx hK; simp -dsimp -implicitDefEqProofs only [go_sem, hnB, eq_self, ↓reduceIte]; (try simp (disch := omega) only [wrap_i64, wrap_u64, wrap_u32, wrap_u8]))); (all_goals (try omega))
    · exact text_c hG r a b hr ha hb
    (repeat' (first | (refine C_seq rfl ?_) | (refine C_block rfl ?_) | (refine C_skip rfl ?_; (try simp -dsimp -implicitDefEqProofs only [go_sem, hnB, eq_self, ↓reduceIte])) | (refine C_exit rfl ?_; (try simp -dsimp -implicitDefEqProofs only [go_sem, hnB, eq_self, ↓reduceIte])) | (refine C_cond rfl _ rfl (fun ht => ?_) (fun ht => ?_) <;> (try (simp only [nf] at ht)) <;> (try (exfalso; omega))) | ((first | (refine S_reg0 rfl [0,1,2,4,5,6,7,8,9,10,11,12,13,16,19] rfl rfl (fun K hK => ?_)) | (refine S_drw0 rfl [0,1,2,4,5,6,7,8,9,10,11,12,13,16,19] rfl (by kernel_rfl) rfl (fun K hK => ?_))); simp -dsimp -implicitDefEqProofs only [go_sem, hnB, eq_self, ↓reduceIte]; (repeat' (first | (refine And.intro ?_ ?_) | (refine gs_both (fun hb => ?_) (fun hb => ?_) <;> (have hg := hb; (try simp only [nfb] at hg); simp -dsimp -implicitDefEqProofs only [go_sem, hnB, hb, hg, eq_self, ↓reduceIte]; clear hb; (try simp only [nfe] at hg))))); any_goals ((first | (refine hK _ _ _ _ (fun hx => ?_)) | (refine hK _ _ _ _ (drawOk_names (fun i => i - k) (by simp only [List.map_cons, List.map_nil, shG, hnB, ↓reduceIte, Nat.add_sub_cancel_left, Nat.sub_self]; rfl) (by decide +kernel) (by simp -dsimp -implicitDefEqProofs only [go_sem, hnB, eq_self, ↓reduceIte])) (fun hx => ?_)) | (refine hK _ _ _ _ (drawOk_of (by kernel_rfl) (by simp -dsimp -implicitDefEqProofs only [go_sem, hnB, eq_self, ↓reduceIte])) (fun hx => ?_))); clear hx hK; simp -dsimp -implicitDefEqProofs only [go_sem, hnB, eq_self, ↓reduceIte]; (try simp (disch := omega) only [wrap_i64, wrap_u64, wrap_u32, wrap_u8]))) | omega))
    refine S_reg rfl [0,1,2,4,5,6,7,8,9,10,11,12,13,16,19] [.ret (.tup [.lit (.string (ByteArray.mk (textT r a b).toArray)), .lit (.int .i64 (textE r a b))])] rfl (fun K hK => ?_); simp -dsimp -implicitDefEqProofs only [go_sem, hnB, eq_self, ↓reduceIte]; (repeat' (first | (refine And.intro ?_ ?_) | (refine gs_both (fun hb => ?_) (fun hb => ?_) <;> (have hg := hb; (try simp only [nfb] at hg); simp -dsimp -implicitDefEqProofs only [go_sem, hnB, hb, hg, eq_self, ↓reduceIte]; clear hb; (try simp only [nfe] at hg))))); (any_goals ((refine hK _ _ _ _ (fun hx => ?_)); clear hx hK; simp -dsimp -implicitDefEqProofs only [go_sem, hnB, eq_self, ↓reduceIte]; (try simp (disch := omega) only [wrap_i64, wrap_u64, wrap_u32, wrap_u8]))); (all_goals (try omega))
    · exact textR_c r a b hr ha hb
    (repeat' (first | (refine C_seq rfl ?_) | (refine C_block rfl ?_) | (refine C_skip rfl ?_; (try simp -dsimp -implicitDefEqProofs only [go_sem, hnB, eq_self, ↓reduceIte])) | (refine C_exit rfl ?_; (try simp -dsimp -implicitDefEqProofs only [go_sem, hnB, eq_self, ↓reduceIte])) | (refine C_cond rfl _ rfl (fun ht => ?_) (fun ht => ?_) <;> (try (simp only [nf] at ht)) <;> (try (exfalso; omega))) | ((first | (refine S_reg0 rfl [0,1,2,4,5,6,7,8,9,10,11,12,13,16,19] rfl rfl (fun K hK => ?_)) | (refine S_drw0 rfl [0,1,2,4,5,6,7,8,9,10,11,12,13,16,19] rfl (by kernel_rfl) rfl (fun K hK => ?_))); simp -dsimp -implicitDefEqProofs only [go_sem, hnB, eq_self, ↓reduceIte]; (repeat' (first | (refine And.intro ?_ ?_) | (refine gs_both (fun hb => ?_) (fun hb => ?_) <;> (have hg := hb; (try simp only [nfb] at hg); simp -dsimp -implicitDefEqProofs only [go_sem, hnB, hb, hg, eq_self, ↓reduceIte]; clear hb; (try simp only [nfe] at hg))))); any_goals ((first | (refine hK _ _ _ _ (fun hx => ?_)) | (refine hK _ _ _ _ (drawOk_names (fun i => i - k) (by simp only [List.map_cons, List.map_nil, shG, hnB, ↓reduceIte, Nat.add_sub_cancel_left, Nat.sub_self]; rfl) (by decide +kernel) (by simp -dsimp -implicitDefEqProofs only [go_sem, hnB, eq_self, ↓reduceIte])) (fun hx => ?_)) | (refine hK _ _ _ _ (drawOk_of (by kernel_rfl) (by simp -dsimp -implicitDefEqProofs only [go_sem, hnB, eq_self, ↓reduceIte])) (fun hx => ?_))); clear hx hK; simp -dsimp -implicitDefEqProofs only [go_sem, hnB, eq_self, ↓reduceIte]; (try simp (disch := omega) only [wrap_i64, wrap_u64, wrap_u32, wrap_u8]))) | omega))
    refine S_reg rfl [0,1,2,4,5,6,7,8,9,10,11,12,13,16,19] [.ret (.tup [.agg (flt (readP s).1.1 (readP s).1.2.1 (readP s).1.2.2), .lit (.int .i64 (readP s).2)])] rfl (fun K hK => ?_); simp -dsimp -implicitDefEqProofs only [go_sem, hnB, eq_self, ↓reduceIte]; (repeat' (first | (refine And.intro ?_ ?_) | (refine gs_both (fun hb => ?_) (fun hb => ?_) <;> (have hg := hb; (try simp only [nfb] at hg); simp -dsimp -implicitDefEqProofs only [go_sem, hnB, hb, hg, eq_self, ↓reduceIte]; clear hb; (try simp only [nfe] at hg))))); (any_goals ((refine hK _ _ _ _ (fun hx => ?_)); clear hx hK; simp -dsimp -implicitDefEqProofs only [go_sem, hnB, eq_self, ↓reduceIte]; (try simp (disch := omega) only [wrap_i64, wrap_u64, wrap_u32, wrap_u8]))); (all_goals (try omega))
    · exact read_c hG s (by omega)
    (repeat' (first | (refine C_seq rfl ?_) | (refine C_block rfl ?_) | (refine C_skip rfl ?_; (try simp -dsimp -implicitDefEqProofs only [go_sem, hnB, eq_self, ↓reduceIte])) | (refine C_exit rfl ?_; (try simp -dsimp -implicitDefEqProofs only [go_sem, hnB, eq_self, ↓reduceIte])) | (refine C_cond rfl _ rfl (fun ht => ?_) (fun ht => ?_) <;> (try (simp only [nf] at ht)) <;> (try (exfalso; omega))) | ((first | (refine S_reg0 rfl [0,1,2,4,5,6,7,8,9,10,11,12,13,16,19] rfl rfl (fun K hK => ?_)) | (refine S_drw0 rfl [0,1,2,4,5,6,7,8,9,10,11,12,13,16,19] rfl (by kernel_rfl) rfl (fun K hK => ?_))); simp -dsimp -implicitDefEqProofs only [go_sem, hnB, eq_self, ↓reduceIte]; (repeat' (first | (refine And.intro ?_ ?_) | (refine gs_both (fun hb => ?_) (fun hb => ?_) <;> (have hg := hb; (try simp only [nfb] at hg); simp -dsimp -implicitDefEqProofs only [go_sem, hnB, hb, hg, eq_self, ↓reduceIte]; clear hb; (try simp only [nfe] at hg))))); any_goals ((first | (refine hK _ _ _ _ (fun hx => ?_)) | (refine hK _ _ _ _ (drawOk_names (fun i => i - k) (by simp only [List.map_cons, List.map_nil, shG, hnB, ↓reduceIte, Nat.add_sub_cancel_left, Nat.sub_self]; rfl) (by decide +kernel) (by simp -dsimp -implicitDefEqProofs only [go_sem, hnB, eq_self, ↓reduceIte])) (fun hx => ?_)) | (refine hK _ _ _ _ (drawOk_of (by kernel_rfl) (by simp -dsimp -implicitDefEqProofs only [go_sem, hnB, eq_self, ↓reduceIte])) (fun hx => ?_))); clear hx hK; simp -dsimp -implicitDefEqProofs only [go_sem, hnB, eq_self, ↓reduceIte]; (try simp (disch := omega) only [wrap_i64, wrap_u64, wrap_u32, wrap_u8]))) | omega))
    refine S_reg rfl [0,1,2,4,5,6,7,8,9,10,11,12,13,16,19] [.ret (.tup [.agg (flt (readP s).1.1 (readP s).1.2.1 (readP s).1.2.2), .lit (.int .i64 (readP s).2)])] rfl (fun K hK => ?_); simp -dsimp -implicitDefEqProofs only [go_sem, hnB, eq_self, ↓reduceIte]; (repeat' (first | (refine And.intro ?_ ?_) | (refine gs_both (fun hb => ?_) (fun hb => ?_) <;> (have hg := hb; (try simp only [nfb] at hg); simp -dsimp -implicitDefEqProofs only [go_sem, hnB, hb, hg, eq_self, ↓reduceIte]; clear hb; (try simp only [nfe] at hg))))); (any_goals ((refine hK _ _ _ _ (fun hx => ?_)); clear hx hK; simp -dsimp -implicitDefEqProofs only [go_sem, hnB, eq_self, ↓reduceIte]; (try simp (disch := omega) only [wrap_i64, wrap_u64, wrap_u32, wrap_u8]))); (all_goals (try omega))
    · rw [← hE]; exact readR_c s (by omega)
    (repeat' (first | (refine C_seq rfl ?_) | (refine C_block rfl ?_) | (refine C_skip rfl ?_; (try simp -dsimp -implicitDefEqProofs only [go_sem, hnB, eq_self, ↓reduceIte])) | (refine C_exit rfl ?_; (try simp -dsimp -implicitDefEqProofs only [go_sem, hnB, eq_self, ↓reduceIte])) | (refine C_cond rfl _ rfl (fun ht => ?_) (fun ht => ?_) <;> (try (simp only [nf] at ht)) <;> (try (exfalso; omega))) | ((first | (refine S_reg0 rfl [0,1,2,4,5,6,7,8,9,10,11,12,13,16,19] rfl rfl (fun K hK => ?_)) | (refine S_drw0 rfl [0,1,2,4,5,6,7,8,9,10,11,12,13,16,19] rfl (by kernel_rfl) rfl (fun K hK => ?_))); simp -dsimp -implicitDefEqProofs only [go_sem, hnB, eq_self, ↓reduceIte]; (repeat' (first | (refine And.intro ?_ ?_) | (refine gs_both (fun hb => ?_) (fun hb => ?_) <;> (have hg := hb; (try simp only [nfb] at hg); simp -dsimp -implicitDefEqProofs only [go_sem, hnB, hb, hg, eq_self, ↓reduceIte]; clear hb; (try simp only [nfe] at hg))))); any_goals ((first | (refine hK _ _ _ _ (fun hx => ?_)) | (refine hK _ _ _ _ (drawOk_names (fun i => i - k) (by simp only [List.map_cons, List.map_nil, shG, hnB, ↓reduceIte, Nat.add_sub_cancel_left, Nat.sub_self]; rfl) (by decide +kernel) (by simp -dsimp -implicitDefEqProofs only [go_sem, hnB, eq_self, ↓reduceIte])) (fun hx => ?_)) | (refine hK _ _ _ _ (drawOk_of (by kernel_rfl) (by simp -dsimp -implicitDefEqProofs only [go_sem, hnB, eq_self, ↓reduceIte])) (fun hx => ?_))); clear hx hK; simp -dsimp -implicitDefEqProofs only [go_sem, hnB, eq_self, ↓reduceIte]; (try simp (disch := omega) only [wrap_i64, wrap_u64, wrap_u32, wrap_u8]))) | omega))
    refine S_reg rfl [0,1,2,4,5,6,7,8,9,10,11,12,13,16,19] [.ret (.lit (.string (ByteArray.mk ([] : List UInt8).toArray)))] rfl (fun K hK => ?_); simp -dsimp -implicitDefEqProofs only [go_sem, hnB, eq_self, ↓reduceIte]; (repeat' (first | (refine And.intro ?_ ?_) | (refine gs_both (fun hb => ?_) (fun hb => ?_) <;> (have hg := hb; (try simp only [nfb] at hg); simp -dsimp -implicitDefEqProofs only [go_sem, hnB, hb, hg, eq_self, ↓reduceIte]; clear hb; (try simp only [nfe] at hg))))); (any_goals ((refine hK _ _ _ _ (fun hx => ?_)); clear hx hK; simp -dsimp -implicitDefEqProofs only [go_sem, hnB, eq_self, ↓reduceIte]; (try simp (disch := omega) only [wrap_i64, wrap_u64, wrap_u32, wrap_u8]))); (all_goals (try omega))
    · rw [← hnB]; exact name_c r hr
    (repeat' (first | (refine C_seq rfl ?_) | (refine C_block rfl ?_) | (refine C_skip rfl ?_; (try simp -dsimp -implicitDefEqProofs only [go_sem, hnB, eq_self, ↓reduceIte])) | (refine C_exit rfl ?_; (try simp -dsimp -implicitDefEqProofs only [go_sem, hnB, eq_self, ↓reduceIte])) | (refine C_cond rfl _ rfl (fun ht => ?_) (fun ht => ?_) <;> (try (simp only [nf] at ht)) <;> (try (exfalso; omega))) | ((first | (refine S_reg0 rfl [0,1,2,4,5,6,7,8,9,10,11,12,13,16,19] rfl rfl (fun K hK => ?_)) | (refine S_drw0 rfl [0,1,2,4,5,6,7,8,9,10,11,12,13,16,19] rfl (by kernel_rfl) rfl (fun K hK => ?_))); simp -dsimp -implicitDefEqProofs only [go_sem, hnB, eq_self, ↓reduceIte]; (repeat' (first | (refine And.intro ?_ ?_) | (refine gs_both (fun hb => ?_) (fun hb => ?_) <;> (have hg := hb; (try simp only [nfb] at hg); simp -dsimp -implicitDefEqProofs only [go_sem, hnB, hb, hg, eq_self, ↓reduceIte]; clear hb; (try simp only [nfe] at hg))))); any_goals ((first | (refine hK _ _ _ _ (fun hx => ?_)) | (refine hK _ _ _ _ (drawOk_names (fun i => i - k) (by simp only [List.map_cons, List.map_nil, shG, hnB, ↓reduceIte, Nat.add_sub_cancel_left, Nat.sub_self]; rfl) (by decide +kernel) (by simp -dsimp -implicitDefEqProofs only [go_sem, hnB, eq_self, ↓reduceIte])) (fun hx => ?_)) | (refine hK _ _ _ _ (drawOk_of (by kernel_rfl) (by simp -dsimp -implicitDefEqProofs only [go_sem, hnB, eq_self, ↓reduceIte])) (fun hx => ?_))); clear hx hK; simp -dsimp -implicitDefEqProofs only [go_sem, hnB, eq_self, ↓reduceIte]; (try simp (disch := omega) only [wrap_i64, wrap_u64, wrap_u32, wrap_u8]))) | omega))
    refine C_ret rfl ⟨_, rfl, VLe.of_eq ?_⟩
    rfl
theorem awake_c : Pure Tryz.prog Γ 6 [] (.lit (.bool true)) := Pure_true 300 rfl (by kernel_rfl)
theorem auditTexts_c (hG : GT Γ) (r : Nat) (a b : Int) (s : List UInt8) (hr : r < 256) (ha : a ≤ 9223372036854775807) (hb : b ≤ 9223372036854775807) :
    Pure Tryz.prog Γ 3 [.agg (flt r a b), .lit (.string (ByteArray.mk s.toArray))] (.lit (.bool true)) := by
  refine Pure_at Tryz.func3 rfl 11 rfl (Nat.le_of_ble_eq_true rfl) rfl fun k => ?_
  (repeat' (first | (refine C_seq rfl ?_) | (refine C_block rfl ?_) | (refine C_skip rfl ?_; (try simp -dsimp -implicitDefEqProofs only [go_sem, eq_self, ↓reduceIte])) | (refine C_exit rfl ?_; (try simp -dsimp -implicitDefEqProofs only [go_sem, eq_self, ↓reduceIte])) | (refine C_cond rfl _ rfl (fun ht => ?_) (fun ht => ?_) <;> (try (simp only [nf] at ht)) <;> (try (exfalso; omega))) | ((first | (refine S_reg0 rfl [0,1,2,4] rfl rfl (fun K hK => ?_)) | (refine S_drw0 rfl [0,1,2,4] rfl (by kernel_rfl) rfl (fun K hK => ?_))); simp -dsimp -implicitDefEqProofs only [go_sem, eq_self, ↓reduceIte]; (repeat' (first | (refine And.intro ?_ ?_) | (refine gs_both (fun hb => ?_) (fun hb => ?_) <;> (have hg := hb; (try simp only [nfb] at hg); simp -dsimp -implicitDefEqProofs only [go_sem, hb, hg, eq_self, ↓reduceIte]; clear hb; (try simp only [nfe] at hg))))); any_goals ((first | (refine hK _ _ _ _ (fun hx => ?_)) | (refine hK _ _ _ _ (drawA (fun i => i - k)) (fun hx => ?_)) | (refine hK _ _ _ _ drawB (fun hx => ?_))); clear hx hK; simp -dsimp -implicitDefEqProofs only [go_sem, eq_self, ↓reduceIte]; (try simp (disch := omega) only [wrap_i64, wrap_u64, wrap_u32, wrap_u8]))) | omega))
  refine S_reg rfl [0,1,2,4] [.ret (.lit (.bool true)), .ret (.lit (.bool true))] rfl (fun K hK => ?_); simp -dsimp -implicitDefEqProofs only [go_sem, eq_self, ↓reduceIte]; (repeat' (first | (refine And.intro ?_ ?_) | (refine gs_both (fun hb => ?_) (fun hb => ?_) <;> (have hg := hb; (try simp only [nfb] at hg); simp -dsimp -implicitDefEqProofs only [go_sem, hb, hg, eq_self, ↓reduceIte]; clear hb; (try simp only [nfe] at hg))))); (any_goals ((refine hK _ _ _ _ (fun hx => ?_)); clear hx hK; simp -dsimp -implicitDefEqProofs only [go_sem, eq_self, ↓reduceIte]; (try simp (disch := omega) only [wrap_i64, wrap_u64, wrap_u32, wrap_u8]))); (all_goals (try omega))
  · exact tells_c hG r a b s hr ha hb
  · exact awake_c
  all_goals (refine C_ret rfl ⟨_, rfl, VLe.of_eq ?_⟩)
  all_goals (rfl)
end Go.Proofs.T
end

section
set_option linter.unusedVariables false
set_option linter.unusedSimpArgs false
namespace Go.AM
open Go Go.RowKit
theorem globIs_of {W : World} {g : Nat} {cs : List Value} {ty : TypeId} {x : Nat × Nat} (h : W.heap[g]? = some (.cells cs.toArray ty x)) : GlobIs W (fun b => b < W.heap.size) g (cs.map .lit) := by
  have hg : g < W.heap.size := (Array.getElem?_eq_some_iff.1 h).1
  refine ⟨.rp (fun j => cs.getD j undef) hg (fun j v hj => ?_) (fun j v hj => ?_), hg, _, _, _, h, by simp⟩
  · simp only [List.getElem?_map, Option.map_eq_some_iff] at hj
    obtain ⟨u, hu, rfl⟩ := hj
    unfold World.cell?
    simp [h, hu, List.getD]
  · simp only [List.getElem?_map, Option.map_eq_some_iff] at hj
    obtain ⟨u, hu, rfl⟩ := hj
    have e : cs.getD j undef = u := by simp [List.getD, hu]
    simp only [e]; exact .lit
theorem globIs_var {P : Program} {W : World} {g : Nat} {name : String} {cs : List Value} (hg : P.globalNamed name = some g) (h : W.var? P name = some cs.toArray) : GlobIs W (fun b => b < W.heap.size) g (cs.map .lit) := by
  unfold World.var? at h
  rw [hg, Option.bind_some] at h
  split at h
  · rename_i c t x hh; cases h; exact globIs_of hh
  · cases h
theorem globIs_int {P : Program} {W : World} {g : Nat} {t : TypeId} {zero : Array Value} {k : IntKind} (h : W.ShapedOpen P) (hg : g < P.globals.size)
    (h0 : ((begin P (fun _ _ => 0) default).world.heap[g]?).bind Obj.row? = some (zero, t)) (hz : zero.size = 1)
    (hb : P.buildable t = true) (hc : P.cellTypes P.depth t = some [t]) (hu : P.underlying t = some (.int k)) : ∃ m, GlobIs W (fun b => b < W.heap.size) g [.lit (.int k m)] := by
  obtain ⟨m, hm⟩ := Go.Proofs.cell_of_shapedOpen_int h hg h0 hz hb hc hu
  obtain ⟨cs, hh, hs, _⟩ := h.1 g zero t hg h0
  have e : cs = [Value.int k m].toArray := by
    unfold World.cell? at hm
    simp only [hh, Option.isSome_none, Bool.false_eq_true, if_false] at hm
    refine Array.ext (by simp [hs, hz]) fun i h1 h2 => ?_
    have : i = 0 := by simp at h2; exact h2
    subst this
    rw [Array.getElem?_eq_getElem h1] at hm
    simpa using hm
  rw [e] at hh
  exact ⟨m, globIs_of hh⟩
theorem row_callG {P : Program} {Γ : List (Nat × List AVal)} {f : FuncId} {vs : List AVal} {b : Bool} {args : Array Value} {W : World} (hΓ : ∀ g cells, look Γ g = some cells → GlobIs W (fun b => b < W.heap.size) g cells) (h : Pure P Γ f vs (.lit (.bool b)))
    (hv : Vs W (fun b => b < W.heap.size) noNames noAllow vs args) : Calls P f args W fun e W' => e = .returned (.bool b) ∧ Below W.heap.size W W' := by
  refine (h 0 noAllow (fun _ h => h.elim) W _ noNames args ⟨fun _ _ => rfl, fun id B A' hid => (by simp [ofHeap, look] at hid), fun i j b s t h => (by cases h), fun b hb => hb, hΓ⟩ hv).mono ?_
  rintro e W' ⟨cv, G', ρ', k', r, H', rfl, ⟨rfl, rfl, rfl⟩, _, _, hvr, hst⟩
  have e1 : cv = .bool b := by cases hvr; rfl
  subst e1
  exact ⟨rfl, hst.os, hst.tape, hst.output, hst.size, fun k hk => hst.keep k hk (fun ⟨_, _, h⟩ => by cases h)⟩
theorem row_both {H : Type} {enc : TypeId × Value → H} {a : Assume} {C : Checked} {os : Os} {f : FuncId} {fn : Func} {s : ChangeSpec} {conds : List PathCond} {apart fresh handsOn again : Bool} {X : World → Array Value → Prop}
    (hX : ∀ (w w' : World) (args : Array Value), w.heap = w'.heap → X w args → X w' args)
    (own : ownKnob C.prog.godebug = none) (started : os.Started) (noInit : C.prog.inits.idxOf? f = none) (hfn : C.prog.funcs[f]? = some fn)
    (witness : ∃ (w : World) (tape : Tape) (i : Input), w.os = os ∧ (w.forCall tape i).Shaped C.prog ∧ i.vars = [] ∧ Input.okWide C.prog (w.forCall tape i) .any w.heap.size f i ∧
      ((s.pre enc C.prog fn conds apart (w.forCall tape i).memory i.args ∧ X (w.forCall tape i).memory i.args) ∧ sizedMet enc C.prog fn (OpenSpec.ofChange s) apart (w.forCall tape i).memory i.args) ∧ a.holds C.prog (lone (Frame.enter C.prog f i.args .normal) [] (w.forCall tape i)))
    (contract : ∀ (W : World) (base : Nat) (args : Array Value) (ds gs : List (DataW H)) (before : List MemPlace),
      (∀ (j : Nat) t v, fn.params[j]? = some t → args[j]? = some v → Value.okWide C.prog W .any base t v) →
      DataW.Whole enc C.prog fn.params.toList s.vars apart W args.toList ds gs before → W.ShapedOpen C.prog → X W args →
      Calls C.prog f args W fun e W' => ∃ v, e = .returned v ∧ s.post enc C.prog fn apart fresh handsOn again W args v W') :
    ReturnsInHanded a C os f .any (fun w args => (s.pre enc C.prog fn conds apart w args ∧ X w args) ∧ sizedMet enc C.prog fn (OpenSpec.ofChange s) apart w args) (s.post enc C.prog fn apart fresh handsOn again) := by
  refine returnsInHanded_of_calls own started noInit witness ?_
  intro w tape i _ hsh _ hok hpre hholds
  obtain ⟨_, _, _, fn', hfn', _, _, _, _, hval⟩ := hok
  have e : fn' = fn := Option.some.inj (hfn'.symm.trans hfn)
  subst e
  obtain ⟨⟨⟨ds, gs, before, hw, hc⟩, hx⟩, hz⟩ := hpre
  have hw' := DataW.Whole.of_heap (w' := w.forCall tape i) (by rfl) hw
  refine (contract (w.forCall tape i) w.heap.size i.args ds gs before hval hw' hsh (hX _ _ _ (by rfl) hx)).mono fun e W' ⟨v, he, hp⟩ => ?_
  subst he
  exact ChangeSpec.post_blind hp
end Go.AM
end

section
set_option linter.unusedVariables false
set_option linter.unusedSimpArgs false
namespace Go.Proofs.T
open Go Go.AM Go.Proofs Go.ChangeMaps Go.ChangeShapes Go.WideShapes Go.ChangeAt Go.WideMaps Go.WideElems Go.RowKit Go.Proofs.YtegccfgfddpmpaaGreatDoor
set_option linter.unusedSimpArgs false
set_option linter.unusedVariables false
set_option maxRecDepth 100000
theorem ownK : ownKnob Tryz.prog.godebug = none := by kernel_rfl
theorem laidOut : laidOutB Tryz.prog = true := by kernel_rfl
theorem rowES (u : TypeId) (h : Tryz.prog.typeName? 3 u = some "*errors.errorString") : u = 183 := by
  have star : "*" ++ "errors.errorString" = "*errors.errorString" := by decide
  exact typeName_ptr_named (nm := "errors.errorString") (by rw [star]; kernel_rfl) (by kernel_rfl) (by decide) u (by rw [star]; exact h)
theorem gt_of {W : World} (hL : laidMetH Tryz.prog Rows.auditTextsRow.laid W) (hsh : W.ShapedOpen Tryz.prog) : ∃ Γ, GT Γ ∧ ∀ g cells, AM.look Γ g = some cells → GlobIs W (fun b => b < W.heap.size) g cells := by
  have h1 : laidMet Tryz.prog [("internal/strconv.uint64pow10", Lib.tabData .u64 Lib.pow10Tab)] W := laidMetH.filter (fun x => x.1 == "internal/strconv.uint64pow10") hL
  have h2 : laidMet Tryz.prog [("strconv.ErrSyntax", Rows.laid_strconv_ErrSyntax)] W := laidMetH.filter (fun x => x.1 == "strconv.ErrSyntax") hL
  have h3 : laidMet Tryz.prog [("strconv.ErrRange", Rows.laid_strconv_ErrRange)] W := laidMetH.filter (fun x => x.1 == "strconv.ErrRange") hL
  have t1 := Lib.tabIs_of_head (g := 2) (by kernel_rfl) rfl rfl rfl (by kernel_rfl) (by kernel_rfl) h1
  obtain ⟨a2, _, v2, -, -, -⟩ := laid_sentinel (g := 0) h2 (by kernel_rfl) (by kernel_rfl) Tryz.underlying87 rowES Tryz.underlying183 Tryz.underlying185 rfl rfl Tryz.underlying9 (by kernel_rfl) (by kernel_rfl)
  obtain ⟨a3, _, v3, -, -, -⟩ := laid_sentinel (g := 1) h3 (by kernel_rfl) (by kernel_rfl) Tryz.underlying87 rowES Tryz.underlying183 Tryz.underlying185 rfl rfl Tryz.underlying9 (by kernel_rfl) (by kernel_rfl)
  have g1 : GlobIs W (fun b => b < W.heap.size) 2 (Lib.pow10Tab.map fun z => .lit (.int .u64 z)) := by
    have := globIs_var (g := 2) (cs := Lib.pow10Tab.map fun z => Value.int .u64 z) (by kernel_rfl) t1
    rw [List.map_map] at this
    exact this
  have g2 := globIs_var (g := 0) (cs := [Value.iface 183 (.pointer (some a2))]) (by kernel_rfl) v2
  have g3 := globIs_var (g := 1) (cs := [Value.iface 183 (.pointer (some a3))]) (by kernel_rfl) v3
  obtain ⟨m, g4⟩ := globIs_int (g := 3) (t := 3) (k := .i64) (zero := #[.int .i64 0]) hsh (of_decide_eq_true (by kernel_rfl)) (by kernel_rfl) rfl (by kernel_rfl) (by kernel_rfl) Tryz.underlying3
  refine ⟨[(2, Lib.pow10Tab.map fun z => .lit (.int .u64 z)), (0, [.lit (.iface 183 (.pointer (some a2)))]), (1, [.lit (.iface 183 (.pointer (some a3)))]), (3, [.lit (.int .i64 m)])], ⟨rfl, ⟨_, _, rfl⟩, ⟨_, _, rfl⟩, ⟨_, rfl⟩⟩, fun g cells hg => ?_⟩
  simp only [AM.look] at hg
  split at hg
  · rename_i e; subst e; cases hg; exact g1
  split at hg
  · rename_i e; subst e; cases hg; exact g2
  split at hg
  · rename_i e; subst e; cases hg; exact g3
  split at hg
  · rename_i e; subst e; cases hg; exact g4
  · cases hg
end Go.Proofs.T
end

section
set_option linter.unusedVariables false
set_option linter.unusedSimpArgs false
namespace Go.AM
open Go
def fzc (H : Heap) : Nat → AVal → Option AVal
  | 0, _ => none
  | n + 1, v => match v with
    | .lit u => some (.lit u)
    | .rd s m f => some (.rd s m f)
    | .sl id r m => match look H id with
      | some B => match Nat.beq r 0 && Nat.ble m B.rows.length with
        | true => (List.mapM (fun row : List AVal => List.mapM (fzc H n) row) (B.rows.take m)).map fun l => rows B.sz l
        | false => none
      | none => none
    | .ptr id r c => match look H id with
      | some B => match Nat.beq r 0 && Nat.beq c 0 with
        | true => match B.rows with
          | [row] => (row.mapM (fzc H n)).map .rp
          | _ => none
        | false => none
      | none => none
    | _ => none
theorem cell_of {w : World} {b : Nat} {C : Array Value} {ty : TypeId} {x : Nat × Nat} (h : w.heap[b]? = some (.cells C ty x)) (i : Nat) : w.cell? ⟨b, i, none⟩ = C[i]? := by
  unfold World.cell?; simp [h]
theorem V_fz {Γ : List (Nat × List AVal)} {w : World} {G : Nat → Prop} {ρ : Names} {H : Heap} {A : Allow} (hr : HRel Γ w G ρ (ofHeap H A)) : ∀ (n : Nat) (v v' : AVal) (ρ1 : Names) (A1 : Allow) (cv : Value),
    ((ρ1 = ρ ∧ A1 = A) ∨ (ρ1 = noNames ∧ A1 = noAllow)) → V w G ρ1 A1 v cv → fzc H n v = some v' → V w (fun b => G b ∨ owned ρ b) noNames noAllow v' cv := by
  intro n
  induction n with
  | zero => intro v v' ρ1 A1 cv _ _ h; cases h
  | succ n ih =>
    intro v v' ρ1 A1 cv h1 hv h
    have hid : ∀ id B b, look H id = some B → ρ1 id = some b → ∃ x, ρ id = some (x, B.sz) ∧ b = (x, B.sz) ∧ BRel w G ρ A B x := fun id B b hB hb => by
      have hoB : ofHeap H A id = some (B, A) := by simp [ofHeap, hB]
      obtain ⟨_, x, hx, _, hBR⟩ := hr.blk id B A hoB
      rcases h1 with ⟨rfl, rfl⟩ | ⟨rfl, rfl⟩
      · rw [hx] at hb; cases hb; exact ⟨x, hx, rfl, hBR⟩
      · cases hb
    have hdang : ∀ id B, look H id = some B → A1 id → ρ1 id = none → False := fun id B hB hA hn => by
      have hoB : ofHeap H A id = some (B, A) := by simp [ofHeap, hB]
      obtain ⟨_, x, hx, _⟩ := hr.blk id B A hoB
      rcases h1 with ⟨rfl, rfl⟩ | ⟨rfl, rfl⟩
      · rw [hx] at hn; cases hn
      · exact hA
    have hrow : ∀ (B : Blk) (x : Nat), BRel w G ρ A B x → ∃ C ty, w.heap[x]? = some (.cells C ty (0, 0)) ∧ ∀ (r : Nat) (row : List AVal) (c : Nat) (u u' : AVal), B.rows[r]? = some row → row[c]? = some u → fzc H n u = some u' →
        ∃ cu, C[r * B.sz + c]? = some cu ∧ V w (fun b => G b ∨ owned ρ b) noNames noAllow u' cu := fun B x hBR => by
      obtain ⟨C, ty, hC, hall⟩ := hBR.ex
      refine ⟨C, ty, hC, fun r row c u u' h2 h3 h4 => ?_⟩
      obtain ⟨cu, h5, h6⟩ := hall r row c u h2 h3
      refine ⟨cu, h5, ih u u' _ _ cu ?_ h6 h4⟩
      cases B.pure with
      | true => exact .inr ⟨rfl, rfl⟩
      | false => exact .inl ⟨rfl, rfl⟩
    cases v with
    | lit u => simp only [fzc] at h; cases h; cases hv; exact .lit
    | rd s m f =>
      simp only [fzc] at h; cases h
      cases hv with
      | rd0 => exact .rd0
      | rd g a1 a2 a3 a4 a5 a6 => exact .rd g (.inl a1) a2 a3 a4 a5 fun i j v hi hj => (a6 i j v hi hj).mono (fun _ h => .inl h) (fun _ _ => rfl) (fun _ _ => rfl) (fun _ h => h) (fun _ h => h.elim)
    | sl id r m =>
      simp only [fzc] at h
      split at h
      · rename_i B hB
        split at h
        · rename_i hb
          simp only [Bool.and_eq_true] at hb
          have hr0 := Nat.eq_of_beq_eq_true hb.1
          have hm := Nat.le_of_ble_eq_true hb.2
          subst hr0
          simp only [Option.map_eq_some_iff] at h
          obtain ⟨l, hl, rfl⟩ := h
          have hll := Lib.mapM_length hl
          rw [List.length_take] at hll
          cases hv with
          | dangs hA hn => exact (hdang id B hB hA hn).elim
          | sl hA hρ hsh hcap hn hmax hoff =>
            obtain ⟨x, hx, he, hBR⟩ := hid id B _ hB hρ
            cases he
            unfold rows
            have hlm : l.length = m := by omega
            rw [hlm]
            by_cases h0 : m = 0
            · subst h0; exact .rd0
            · obtain ⟨C, ty, hC, hcell⟩ := hrow B _ hBR
              rename_i _ _ cap off
              have e0 : off = 0 := hoff.elim (fun h => by omega) (fun h => by omega)
              subst e0
              have hat : ∀ i, i < m → ∃ row row', B.rows[i]? = some row ∧ l[i]? = some row' ∧ row.mapM (fzc H n) = some row' := fun i hi => by
                have hi' : i < B.rows.length := by omega
                obtain ⟨row', h2, h3⟩ := Lib.mapM_at hl i B.rows[i] (by rw [List.getElem?_take_of_lt hi, List.getElem?_eq_getElem hi'])
                exact ⟨_, row', List.getElem?_eq_getElem hi', h2, h3⟩
              refine .rd (fun i j => C.getD (i * B.sz + j) undef) (.inr ⟨id, _, hx⟩) hn (by omega) (fun i hi => ?_) (fun i j v hi hj => ?_) (fun i j v hi hj => ?_)
              · obtain ⟨row, row', h2, h3, h4⟩ := hat i hi
                simp only [List.getD, h3, Option.getD_some]
                rw [Lib.mapM_length h4]
                exact hBR.len i row h2
              · obtain ⟨row, row', h2, h3, h4⟩ := hat i hi
                simp only [List.getD, h3, Option.getD_some] at hj
                have hj' : j < row.length := by have := (List.getElem?_eq_some_iff.1 hj).1; rw [Lib.mapM_length h4] at this; exact this
                obtain ⟨u', h5, h6⟩ := Lib.mapM_at h4 j row[j] (List.getElem?_eq_getElem hj')
                obtain ⟨cu, h7, h8⟩ := hcell i row j _ u' h2 (List.getElem?_eq_getElem hj') h6
                have e : 0 + i * B.sz + j = i * B.sz + j := by omega
                rw [e, cell_of hC, h7]
                simp [Array.getD_eq_getD_getElem?, h7]
              · obtain ⟨row, row', h2, h3, h4⟩ := hat i hi
                simp only [List.getD, h3, Option.getD_some] at hj
                have hj' : j < row.length := by have := (List.getElem?_eq_some_iff.1 hj).1; rw [Lib.mapM_length h4] at this; exact this
                obtain ⟨u', h5, h6⟩ := Lib.mapM_at h4 j row[j] (List.getElem?_eq_getElem hj')
                rw [h5] at hj; cases hj
                obtain ⟨cu, h7, h8⟩ := hcell i row j _ _ h2 (List.getElem?_eq_getElem hj') h6
                have e : C.getD (i * B.sz + j) undef = cu := by simp [Array.getD_eq_getD_getElem?, h7]
                rw [e]; exact h8
        · cases h
      · cases h
    | ptr id r c =>
      simp only [fzc] at h
      split at h
      · rename_i B hB
        split at h
        · rename_i hb
          simp only [Bool.and_eq_true] at hb
          have hr0 := Nat.eq_of_beq_eq_true hb.1
          have hc0 := Nat.eq_of_beq_eq_true hb.2
          subst hr0; subst hc0
          split at h
          · rename_i row hrows
            simp only [Option.map_eq_some_iff] at h
            obtain ⟨l, hl, rfl⟩ := h
            cases hv with
            | dang hA hn => exact (hdang id B hB hA hn).elim
            | ptr hA hρ =>
              obtain ⟨x, hx, he, hBR⟩ := hid id B _ hB hρ
              cases he
              obtain ⟨C, ty, hC, hcell⟩ := hrow B _ hBR
              have h2 : B.rows[0]? = some row := by rw [hrows]; rfl
              have hat : ∀ (j : Nat) v, l[j]? = some v → ∃ cu, C[j]? = some cu ∧ V w (fun b => G b ∨ owned ρ b) noNames noAllow v cu := fun j v hj => by
                have hj' : j < row.length := by have := (List.getElem?_eq_some_iff.1 hj).1; rw [Lib.mapM_length hl] at this; exact this
                obtain ⟨u', h5, h6⟩ := Lib.mapM_at hl j row[j] (List.getElem?_eq_getElem hj')
                rw [h5] at hj; cases hj
                obtain ⟨cu, h7, h8⟩ := hcell 0 row j _ _ h2 (List.getElem?_eq_getElem hj') h6
                rw [Nat.zero_mul, Nat.zero_add] at h7
                exact ⟨cu, h7, h8⟩
              have e0 : 0 * B.sz + 0 = 0 := by omega
              rw [e0]
              refine .rp (fun j => C.getD j undef) (.inr ⟨id, _, hx⟩) (fun j v hj => ?_) (fun j v hj => ?_)
              · obtain ⟨cu, h7, _⟩ := hat j v hj
                rw [Nat.zero_add, cell_of hC, h7]
                simp [Array.getD_eq_getD_getElem?, h7]
              · obtain ⟨cu, h7, h8⟩ := hat j v hj
                have e : C.getD j undef = cu := by simp [Array.getD_eq_getD_getElem?, h7]
                rw [e]; exact h8
          · cases h
        · cases h
      · cases h
    | _ => simp only [fzc] at h; cases h
end Go.AM
end

section
set_option linter.unusedVariables false
set_option linter.unusedSimpArgs false
namespace Go.AM
open Go
def fzAll (x : Option (Nat × AVal × Heap)) : Option AVal :=
  match x with
  | some (_, .agg cells, H) => (List.mapM (fzc H 5) cells).map .agg
  | _ => none
section
variable {P : Program} {Γ : List (Nat × List AVal)}
theorem HRel.fz {w : World} {G : Nat → Prop} {ρ : Names} {H : Owner} {A : Allow} (hr : HRel Γ w G ρ H) : HRel Γ w (fun b => G b ∨ owned ρ b) noNames (ofHeap [] A) :=
  ⟨fun _ _ => rfl, fun id B A' hid => (by simp [ofHeap, look] at hid), fun i j b s t h => (by cases h), fun b hb => hb.elim (hr.ro b) (fun h => hr.owned_lt h), fun g cells hg => by
    obtain ⟨h1, h2, h3⟩ := hr.glob g cells hg
    exact ⟨h1.mono (fun _ h => .inl h) (fun _ _ => rfl) (fun _ _ => rfl) (fun _ h => h) (fun _ h => h.elim), .inl h2, h3⟩⟩
theorem Pure_fz (n : Nat) {f : FuncId} {args : List AVal} {r : AVal} (ha : args.all (bd fun _ => false) = true) (h : fzAll ((ev P Γ n).call f 0 args []) = some r) : Pure P Γ f args r := fun k => by
  unfold fzAll at h
  split at h
  · rename_i k' cells H' hc
    simp only [Option.map_eq_some_iff] at h
    obtain ⟨l, hl, rfl⟩ := h
    have hT := Tr_ev n hc
    intro A hA w G ρ cargs hr hvs
    have hρ : ρ = noNames := funext fun id => hr.dom id rfl
    subst hρ
    have hno : ∀ w1 G1 ρ1 A1 A2 u cu, V w1 G1 ρ1 A1 u cu → bd (fun _ => false) u = true → V w1 G1 ρ1 A2 u cu := fun w1 G1 ρ1 A1 A2 u cu h hb =>
      (V_bd h hb).mono (fun _ h => h) (fun _ _ => rfl) (fun _ _ => rfl) (fun i hi => by simp at hi) (fun _ _ => .inr rfl)
    refine (hT noAllow (fun i hi => hi.elim) w G noNames cargs ⟨fun _ _ => rfl, fun id B A' hid => by simp [ofHeap, look] at hid, hr.inj, hr.ro, hr.glob⟩ ⟨hvs.1, fun j u hj => hno _ _ _ _ _ _ _ (hvs.2 j u hj) (all_get ha hj)⟩).mono ?_
    rintro e w' ⟨cv, G', ρ', k1, r, H1, rfl, ⟨rfl, rfl, rfl⟩, hk1, hrel1, hv1, hst⟩
    cases hv1 with
    | agg h1 h2 =>
      rename_i cs
      have hll := Lib.mapM_length hl
      refine ⟨_, fun b => G' b ∨ owned ρ' b, noNames, k, _, [], rfl, ⟨rfl, rfl, rfl⟩, Nat.le_refl _, hrel1.fz, .agg (by omega) fun j v hj => ?_, ?_⟩
      · have hj' : j < cells.length := by have := (List.getElem?_eq_some_iff.1 hj).1; omega
        obtain ⟨u', h5, h6⟩ := Lib.mapM_at hl j cells[j] (List.getElem?_eq_getElem hj')
        rw [h5] at hj; cases hj
        exact (V_fz hrel1 5 _ _ _ _ _ (.inl ⟨rfl, rfl⟩) (h2 j _ (List.getElem?_eq_getElem hj')) h6).mono (fun _ h => h) (fun _ _ => rfl) (fun _ _ => rfl) (fun _ h => h.elim) (fun _ _ => .inr rfl)
      · exact ⟨hst.size, hst.keep, hst.shape, fun b hb => .inl (hst.g b hb), fun b hb => hb.elim (hst.g' b) (fun h => .inr (hst.own b h)), fun b ⟨_, _, h⟩ => (by cases h), fun id _ => .inl rfl, hst.os, hst.tape, hst.output⟩
  · cases h
def evSp (e : Ev) (P : Program) (Γ : List (Nat × List AVal)) (nt : Nat) : Nat → Code → Nat → Fr → Heap → Option (Nat × Fr × Heap)
  | 0, _, k, fr, H => some (k, fr, H)
  | n + 1, c, k, fr, H => match c with
    | .seq x y => match evCode e P Γ nt x k fr H with
      | some (.normal, k1, fr1, H1) => evSp e P Γ nt n y k1 fr1 H1
      | _ => none
    | _ => none
theorem W_spine {e : Ev} (he : EvOk P Γ e) {nt kb : Nat} {Q : AQ} {c : Code} : ∀ (n : Nat) (p : List Nat) (k : Nat) (fr : Fr) (H : Heap) (k1 : Nat) (fr1 : Fr) (H1 : Heap), evSp e P Γ nt n (cat c p) k fr H = some (k1, fr1, H1) →
    W P Γ nt kb (cat c (List.replicate n 1 ++ p)) Q k1 fr1 H1 → W P Γ nt kb (cat c p) Q k fr H := by
  intro n
  induction n with
  | zero => intro p k fr H k1 fr1 H1 h hw; cases h; exact hw
  | succ n ih =>
    intro p k fr H k1 fr1 H1 h hw
    cases hc : cat c p with
    | seq x y =>
      rw [hc] at h
      simp only [evSp] at h
      split at h
      · rename_i k2 fr2 H2 hx
        have hy : cat c (1 :: p) = y := by show child (cat c p) 1 = y; rw [hc]; rfl
        refine W_seq (W_mono (evCode_ok he x k fr H _ _ _ _ hx) fun e' k' fr' H' hq => ?_)
        obtain ⟨rfl, rfl, rfl, rfl⟩ := hq
        have := ih (1 :: p) k' fr' H' k1 fr1 H1 (by rw [hy]; exact h) (by
          have e : List.replicate n 1 ++ 1 :: p = List.replicate (n + 1) 1 ++ p := by rw [List.replicate_succ']; simp
          rw [e]; exact hw)
        rw [hy] at this
        exact this
      · cases h
    | _ => rw [hc] at h; simp only [evSp] at h; cases h
def fzF (H : Heap) (fr : Fr) : List Nat → Option Fr
  | [] => some []
  | t :: r => match look fr t with
    | some u => match fzc H 6 u, fzF H fr r with
      | some v, some fr' => some ((t, v) :: fr')
      | _, _ => none
    | none => none
theorem fzF_look {H : Heap} {fr : Fr} : ∀ (keep : List Nat) (fr' : Fr), fzF H fr keep = some fr' → ∀ t v, look fr' t = some v → ∃ u, look fr t = some u ∧ fzc H 6 u = some v
  | [], fr', h, t, v, hv => by cases h; cases hv
  | s :: r, fr', h, t, v, hv => by
    unfold fzF at h
    split at h
    · rename_i u hu
      split at h
      · rename_i v1 fr1 h1 h2
        cases h
        simp only [look] at hv
        split at hv
        · rename_i e; subst e; cases hv; exact ⟨u, hu, h1⟩
        · exact fzF_look r fr1 h2 t v hv
      · cases h
    · cases h
theorem Mv_fz {kb k : Nat} {fr fr' : Fr} {H : Heap} (keep : List Nat) (h : fzF H fr keep = some fr') : Mv kb k fr H k fr' [] := fun hk => ⟨hk, fun Γ nt A0 w G ρ a hA hi => by
  refine ⟨fun b => G b ∨ owned ρ b, noNames, ⟨hi.rel.fz, hi.size, hi.defers, fun t v hv => ?_⟩, ⟨Nat.le_refl _, fun _ _ _ => rfl, fun _ _ => rfl, fun _ h => .inl h, fun b hb => hb.elim .inl (fun h => .inr (.inl h)), fun b ⟨_, _, h⟩ => (by cases h), fun id _ => .inl rfl, rfl, rfl, rfl⟩⟩
  obtain ⟨u, hu, hf⟩ := fzF_look keep fr' h t v hv
  exact (V_fz hi.rel 6 _ _ _ _ _ (.inl ⟨rfl, rfl⟩) (hi.frm t u hu) hf).mono (fun _ h => h) (fun _ _ => rfl) (fun _ _ => rfl) (fun _ h => h.elim) (fun _ _ => .inr rfl)⟩
def evStart (P : Program) (Γ : List (Nat × List AVal)) (nt fuel n : Nat) (c : Code) (fr : Fr) (keep : List Nat) : Option (Nat × Fr) :=
  match evSp (ev P Γ fuel) P Γ nt n c 0 fr [] with
  | some (k1, fr1, H1) => (fzF H1 fr1 keep).map fun fr2 => (k1, fr2)
  | none => none
theorem W_start {nt : Nat} {Q : AQ} {c : Code} {fr fr2 : Fr} {k1 : Nat} (fuel n : Nat) (keep : List Nat) (h : evStart P Γ nt fuel n (cat c []) fr keep = some (k1, fr2)) (hw : W P Γ nt 0 (cat c (List.replicate n 1)) Q k1 fr2 []) : W P Γ nt 0 (cat c []) Q 0 fr [] := by
  unfold evStart at h
  split at h
  · rename_i k2 fr1 H1 hs
    simp only [Option.map_eq_some_iff, Prod.mk.injEq] at h
    obtain ⟨fr3, hf, rfl, rfl⟩ := h
    refine W_spine (ev_ok fuel) n [] 0 fr [] _ _ _ hs ?_
    rw [List.append_nil]
    exact W_mv (Mv_fz keep hf) hw
  · cases h
theorem W_start' {nt : Nat} {Q : AQ} {c : Code} {fr fr2 : Fr} (fuel n : Nat) (keep : List Nat) (h : (evStart P Γ nt fuel n (cat c []) fr keep).map (·.2) = some fr2) (hw : ∀ k, W P Γ nt 0 (cat c (List.replicate n 1)) Q k fr2 []) : W P Γ nt 0 (cat c []) Q 0 fr [] := by
  simp only [Option.map_eq_some_iff] at h
  obtain ⟨⟨k1, fr1⟩, h1, rfl⟩ := h
  exact W_start fuel n keep h1 (hw k1)
theorem Mv_le {kb k : Nat} {fr fr' : Fr} {H : Heap} (h : ∀ t v, look fr' t = some v → ∃ u, look fr t = some u ∧ VLe u v) : Mv kb k fr H k fr' H := fun hk => ⟨hk, fun Γ nt A0 w G ρ a hA hi =>
  ⟨G, ρ, ⟨hi.rel, hi.size, hi.defers, fun t v hv => by obtain ⟨u, hu, hle⟩ := h t v hv; exact hle _ _ _ _ _ (hi.frm t u hu)⟩, Step.refl _ _ _ _⟩⟩
theorem VLe.rps {us vs : List AVal} (h : VLes us vs) : VLe (.rp us) (.rp vs) := fun w G ρ A cv hv => by
  obtain ⟨h1, h2⟩ := h.spec
  cases hv with
  | rp g a1 a2 a3 =>
    have key : ∀ (j : Nat) v, vs[j]? = some v → ∃ u, us[j]? = some u ∧ VLe u v := fun j v hj => by
      have hlt : j < us.length := by have := (List.getElem?_eq_some_iff.1 hj).1; omega
      exact ⟨_, List.getElem?_eq_getElem hlt, h2 j _ v (List.getElem?_eq_getElem hlt) hj⟩
    refine .rp g a1 (fun j v hj => ?_) (fun j v hj => ?_)
    · obtain ⟨u, hu, _⟩ := key j v hj; exact a2 j u hu
    · obtain ⟨u, hu, hle⟩ := key j v hj; exact hle _ _ _ _ _ (a3 j u hu)
theorem Pure_arg {f : FuncId} {args args' : List AVal} {r : AVal} (h : Pure P Γ f args' r) (hle : VLes args args') : Pure P Γ f args r := fun k A hA w G ρ cargs h1 h2 =>
  h k A hA w G ρ cargs h1 ⟨by rw [← (hle.spec).1]; exact h2.1, fun j v hj => by
    obtain ⟨e1, e2⟩ := hle.spec
    have hlt : j < args.length := by have := (List.getElem?_eq_some_iff.1 hj).1; omega
    exact e2 j _ v (List.getElem?_eq_getElem hlt) hj _ _ _ _ _ (h2.2 j _ (List.getElem?_eq_getElem hlt))⟩
theorem Pure_at0 {f : FuncId} {fn : Func} {args : List AVal} {r : AVal} (hf : P.funcs[f]? = some fn) (hb : fn.body.isSome = true) (nt : Nat) (hnt : fn.ntmps = nt) (hn : args.length ≤ nt) (ha : args.all (bd fun _ => false) = true) (hr : bd (fun _ => false) r = true)
    (h : W P Γ nt 0 (cat (bodyOf fn) []) (retQ P fn (fun _ r1 _ => VLe r1 r)) 0 (argFr 0 args) []) : Pure P Γ f args r := fun k => by
  have hT := Tr_at hf hb nt hnt hn h
  intro A hA w G ρ cargs hr0 hvs
  have hρ : ρ = noNames := funext fun id => hr0.dom id rfl
  subst hρ
  have hno : ∀ w1 G1 ρ1 A1 A2 u cu, V w1 G1 ρ1 A1 u cu → bd (fun _ => false) u = true → V w1 G1 ρ1 A2 u cu := fun w1 G1 ρ1 A1 A2 u cu h hb =>
    (V_bd h hb).mono (fun _ h => h) (fun _ _ => rfl) (fun _ _ => rfl) (fun i hi => by simp at hi) (fun _ _ => .inr rfl)
  refine (hT noAllow (fun i hi => hi.elim) w G noNames cargs ⟨fun _ _ => rfl, fun id B A' hid => by simp [ofHeap, look] at hid, hr0.inj, hr0.ro, hr0.glob⟩ ⟨hvs.1, fun j u hj => hno _ _ _ _ _ _ _ (hvs.2 j u hj) (all_get ha hj)⟩).mono ?_
  rintro e w' ⟨cv, G', ρ', k1, r1, H1, rfl, hle, hk1, hrel1, hv1, hst⟩
  refine ⟨cv, fun b => G' b ∨ owned ρ' b, noNames, k, r, [], rfl, ⟨rfl, rfl, rfl⟩, Nat.le_refl _, hrel1.fz, ?_, ⟨hst.size, hst.keep, hst.shape, fun b hb => .inl (hst.g b hb), fun b hb => hb.elim (hst.g' b) (fun h => .inr (hst.own b h)), fun b ⟨_, _, h⟩ => (by cases h), fun id _ => .inl rfl, hst.os, hst.tape, hst.output⟩⟩
  exact (V_bd (hle _ _ _ _ _ hv1) hr).mono (fun _ h => .inl h) (fun _ _ => rfl) (fun _ _ => rfl) (fun i hi => by simp at hi) (fun i hi => by simp at hi)
end
end Go.AM
end

section
set_option linter.unusedVariables false
set_option linter.unusedSimpArgs false
namespace Go.Proofs.T
open Go Go.AM Go.Proofs
set_option linter.unusedSimpArgs false
set_option linter.unusedVariables false
variable {Γ : List (Nat × List AVal)}
instance : Inhabited Tk := ⟨⟨0, 0, 0, 0, 0, false, 0, 0⟩⟩
instance : Inhabited Sp := ⟨⟨0, 0, 0⟩⟩
structure LSt where
  cpus : Int
  credit : Int
  gl : List (Int × Int)
  kl : List Int
  ul : List Int
  tl : List Tk
  sl : List (List Sp)
def LSt.st (L : LSt) : St := ⟨L.cpus, L.credit, L.gl.length, fun i => (L.gl.getD i (0, 0)).1, fun i => (L.gl.getD i (0, 0)).2, L.kl.length, fun i => L.kl.getD i 0, L.ul.length, fun i => L.ul.getD i 0, L.tl.length, fun i => L.tl.getD i default,
  L.sl.length, fun g => (L.sl.getD g []).length, fun g c => (L.sl.getD g []).getD c default⟩
def tkc (k : Tk) : List AVal := [.lit (.int .i64 k.id), .lit (.int .i64 k.group), .lit (.int .i64 k.weight), .lit (.int .i64 k.cpu), .lit (.int .u64 k.mask), .lit (.bool k.ready), .lit (.int .u64 k.v), .lit (.int .u32 k.r)]
def spc (k : Sp) : List AVal := [.lit (.int .u64 k.v), .lit (.int .u32 k.r), .lit (.int .u64 k.floor)]
def LSt.rcells (L : LSt) : List AVal := [.lit (.int .i64 L.cpus), .lit (.int .u64 L.credit), rows 2 (L.gl.map fun g => [.lit (.int .i64 g.1), .lit (.int .i64 g.2)]), rows 1 (L.kl.map fun c => [.lit (.int .i64 c)]), rows 1 (L.ul.map fun c => [.lit (.int .i64 c)]),
  rows 8 (L.tl.map tkc), rows 1 (L.sl.map fun l => [rows 3 (l.map spc)])]
theorem VLe.rds {s n : Nat} {f g : Nat → List AVal} (h : ∀ i, i < n → VLes (f i) (g i)) : VLe (.rd s n f) (.rd s n g) := fun w G ρ A cv hv => by
  cases hv with
  | rd0 => exact .rd0
  | rd gg a1 a2 a3 a4 a5 a6 =>
    have key : ∀ i j v, i < n → (g i)[j]? = some v → ∃ u, (f i)[j]? = some u ∧ VLe u v := fun i j v hi hj => by
      obtain ⟨h1, h2⟩ := (h i hi).spec
      have hlt : j < (f i).length := by have := (List.getElem?_eq_some_iff.1 hj).1; omega
      exact ⟨_, List.getElem?_eq_getElem hlt, h2 j _ v (List.getElem?_eq_getElem hlt) hj⟩
    refine .rd gg a1 a2 a3 (fun i hi => by rw [← ((h i hi).spec).1]; exact a4 i hi) (fun i j v hi hj => ?_) (fun i j v hi hj => ?_)
    · obtain ⟨u, hu, _⟩ := key i j v hi hj; exact a5 i j u hi hu
    · obtain ⟨u, hu, hle⟩ := key i j v hi hj; exact hle _ _ _ _ _ (a6 i j u hi hu)
theorem V_list {α : Type} (s : Nat) (l : List α) (d : α) (f : α → List AVal) (g : Nat → List AVal) (h : ∀ i, i < l.length → VLes (f (l.getD i d)) (g i)) : VLe (rows s (l.map f)) (.rd s l.length g) := by
  unfold rows
  rw [List.length_map]
  refine VLe.rds fun i hi => ?_
  have e : (l.map f).getD i [] = f (l.getD i d) := by simp [List.getD, hi]
  rw [e]; exact h i hi
theorem rcells_les (L : LSt) : VLes L.rcells L.st.cells := by
  refine VLes.cons (VLe.refl _) (.cons (VLe.refl _) (.cons ?_ (.cons ?_ (.cons ?_ (.cons ?_ (.cons ?_ .nil))))))
  · exact V_list 2 L.gl (0, 0) _ _ fun i hi => VLes.refl _
  · exact V_list 1 L.kl 0 _ _ fun i hi => VLes.refl _
  · exact V_list 1 L.ul 0 _ _ fun i hi => VLes.refl _
  · exact V_list 8 L.tl default _ _ fun i hi => VLes.refl _
  · refine V_list 1 L.sl [] _ _ fun i hi => .cons ?_ .nil
    exact V_list 3 _ default _ _ fun i hi => VLes.refl _
theorem rcells_le (L : LSt) : VLe (.agg L.rcells) (.agg L.st.cells) := VLe.aggs (rcells_les L)
theorem Pure_le {P : Program} {f : FuncId} {args : List AVal} {r r' : AVal} (h : Pure P Γ f args r) (hle : VLe r r') : Pure P Γ f args r' := fun k A hA w G ρ cargs h1 h2 =>
  (h k A hA w G ρ cargs h1 h2).mono fun _ _ ⟨cv, G', ρ', k', r1, H', he, ⟨e1, e2, e3⟩, a, b, c, d⟩ => ⟨cv, G', ρ', k', r', H', he, ⟨e1, rfl, e3⟩, a, b, hle _ _ _ _ _ (e2 ▸ c), d⟩
def LSt.tk (L : LSt) (i : Nat) (f : Tk → Tk) : LSt := { L with tl := L.tl.set i (f (L.tl.getD i default)) }
def LSt.spt (L : LSt) (g c : Nat) (f : Sp → Sp) : LSt := { L with sl := L.sl.set g ((L.sl.getD g []).set c (f ((L.sl.getD g []).getD c default))) }
def LSt.full (L : LSt) : Bool := !(decide (L.tl.length < 3) || decide (L.gl.length < 3) || decide (L.sl.length < 3) || decide ((L.sl.getD 0 []).length < 2) || decide ((L.sl.getD 1 []).length < 2) || decide ((L.sl.getD 2 []).length < 2) || decide (L.kl.length < 2) || decide (L.ul.length < 2))
def spoilL (L : LSt) (way : Nat) : LSt :=
  if L.full = false then L else match way with
  | 0 => { L with cpus := 0 }
  | 1 => { L with cpus := 3 }
  | 2 => { L with gl := L.gl.take 2 }
  | 3 => { L with gl := L.gl.set 2 ((L.gl.getD 2 (0, 0)).1, 0) }
  | 4 => { L with gl := L.gl.set 2 (0, (L.gl.getD 2 (0, 0)).2) }
  | 5 => { L with credit := IntKind.u64.wrap (L.credit + 1) }
  | 6 => { L with kl := L.kl ++ [1] }
  | 7 => { L with ul := L.ul ++ [0] }
  | 8 => { L with sl := L.sl.take 2 }
  | 9 => { L with sl := L.sl.set 1 ((L.sl.getD 1 []).take 1) }
  | 10 => { L with sl := L.sl.set 2 (L.sl.getD 2 [] ++ [⟨0, 0, 0⟩]) }
  | 11 => { L with kl := L.kl.set 0 (-1) }
  | 12 => { L with kl := L.kl.set 1 281474976710657 }
  | 13 => { L with kl := L.kl.set 1 (IntKind.i64.wrap (L.kl.getD 1 0 + 1)) }
  | 14 => { L with ul := L.ul.set 0 8 }
  | 15 => { L with ul := L.ul.set 1 9 }
  | 16 => { L with ul := L.ul.set 1 8 }
  | 17 => { L with ul := L.ul.set 0 (-3) }
  | 18 => (L.tk 0 fun t => { t with id := (L.tl.getD 1 default).id }).tk 1 fun t => { t with id := (L.tl.getD 0 default).id }
  | 19 => L.tk 1 fun t => { t with id := (L.tl.getD 0 default).id }
  | 20 => L.tk 0 fun t => { t with id := 0 }
  | 21 => L.tk 2 fun t => { t with id := 65536 }
  | 22 => L.tk 0 fun t => { t with group := 3 }
  | 23 => L.tk 1 fun t => { t with group := -1 }
  | 24 => L.tk 0 fun t => { t with cpu := 2 }
  | 25 => L.tk 1 fun t => { t with cpu := -1 }
  | 26 => L.tk 0 fun t => { t with mask := 7 }
  | 27 => L.tk 0 fun t => { t with mask := 2 }
  | 28 => L.tk 1 fun t => { t with mask := 0 }
  | 29 => L.tk 0 fun t => { t with r := 5 }
  | 30 => L.tk 1 fun t => { t with weight := 0 }
  | 31 => L.tk 0 fun t => { t with weight := 65537 }
  | 32 => L.spt 2 1 fun x => { x with r := 9 }
  | 33 => L.spt 0 1 fun x => { x with v := 1 }
  | 34 => L.spt 0 0 fun x => { x with r := 1 }
  | 35 => L.spt 2 1 fun x => { x with floor := 5 }
  | 36 => L.spt 0 0 fun x => { x with floor := 3 }
  | 37 => L.spt 1 1 fun x => { x with floor := 1 }
  | 38 => L.tk 0 fun t => { t with v := 18446744073709551615, r := 1 }
  | _ => { L.spt 1 0 (fun x => { x with floor := 9 }) with kl := L.kl.set 0 281474976710656 }
def SpEq (Γ : List (Nat × List AVal)) (L : LSt) (way : Nat) : Prop := fzAll ((ev Tryz.prog Γ 60).call 8 0 [.agg L.st.cells, .lit (.int .i64 (way : Int))] []) = some (.agg (spoilL L way).rcells)
theorem upto40 {p : Nat → Prop} (h0 : p 0) (h1 : p 1) (h2 : p 2) (h3 : p 3) (h4 : p 4) (h5 : p 5) (h6 : p 6) (h7 : p 7) (h8 : p 8) (h9 : p 9) (h10 : p 10) (h11 : p 11) (h12 : p 12) (h13 : p 13) (h14 : p 14) (h15 : p 15) (h16 : p 16) (h17 : p 17) (h18 : p 18) (h19 : p 19) (h20 : p 20) (h21 : p 21) (h22 : p 22) (h23 : p 23) (h24 : p 24) (h25 : p 25) (h26 : p 26) (h27 : p 27) (h28 : p 28) (h29 : p 29) (h30 : p 30) (h31 : p 31) (h32 : p 32) (h33 : p 33) (h34 : p 34) (h35 : p 35) (h36 : p 36) (h37 : p 37) (h38 : p 38) (h39 : p 39) (i : Nat) (hi : i < 40) : p i := by
  have hc : i = 0 ∨ i = 1 ∨ i = 2 ∨ i = 3 ∨ i = 4 ∨ i = 5 ∨ i = 6 ∨ i = 7 ∨ i = 8 ∨ i = 9 ∨ i = 10 ∨ i = 11 ∨ i = 12 ∨ i = 13 ∨ i = 14 ∨ i = 15 ∨ i = 16 ∨ i = 17 ∨ i = 18 ∨ i = 19 ∨ i = 20 ∨ i = 21 ∨ i = 22 ∨ i = 23 ∨ i = 24 ∨ i = 25 ∨ i = 26 ∨ i = 27 ∨ i = 28 ∨ i = 29 ∨ i = 30 ∨ i = 31 ∨ i = 32 ∨ i = 33 ∨ i = 34 ∨ i = 35 ∨ i = 36 ∨ i = 37 ∨ i = 38 ∨ i = 39 := by omega
  rcases hc with rfl | rfl | rfl | rfl | rfl | rfl | rfl | rfl | rfl | rfl | rfl | rfl | rfl | rfl | rfl | rfl | rfl | rfl | rfl | rfl | rfl | rfl | rfl | rfl | rfl | rfl | rfl | rfl | rfl | rfl | rfl | rfl | rfl | rfl | rfl | rfl | rfl | rfl | rfl | rfl <;> assumption
def L0 (cpus credit : Int) (g0 g1 g2 : Int × Int) (k0 k1 u0 u1 : Int) (t0 t1 t2 : Tk) (a b c d e f : Sp) : LSt := ⟨cpus, credit, [g0, g1, g2], [k0, k1], [u0, u1], [t0, t1, t2], [[a, b], [c, d], [e, f]]⟩
def Lk (cpus credit : Int) (g0 g1 g2 : Int × Int) (k0 k1 k2 u0 u1 : Int) (t0 t1 t2 : Tk) (a b c d e f : Sp) : LSt := ⟨cpus, credit, [g0, g1, g2], [k0, k1, k2], [u0, u1], [t0, t1, t2], [[a, b], [c, d], [e, f]]⟩
def Lu (cpus credit : Int) (g0 g1 g2 : Int × Int) (k0 k1 u0 u1 u2 : Int) (t0 t1 t2 : Tk) (a b c d e f : Sp) : LSt := ⟨cpus, credit, [g0, g1, g2], [k0, k1], [u0, u1, u2], [t0, t1, t2], [[a, b], [c, d], [e, f]]⟩
def Ls (cpus credit : Int) (g0 g1 g2 : Int × Int) (k0 k1 u0 u1 : Int) (t0 t1 t2 : Tk) (a b c d e f h : Sp) : LSt := ⟨cpus, credit, [g0, g1, g2], [k0, k1], [u0, u1], [t0, t1, t2], [[a, b], [c, d], [e, f, h]]⟩
def Lg (cpus credit : Int) (g0 g1 : Int × Int) (k0 k1 u0 u1 : Int) (t0 t1 t2 : Tk) (a b c d e f : Sp) : LSt := ⟨cpus, credit, [g0, g1], [k0, k1], [u0, u1], [t0, t1, t2], [[a, b], [c, d], [e, f]]⟩
def Lr (cpus credit : Int) (g0 g1 g2 : Int × Int) (k0 k1 u0 u1 : Int) (t0 t1 t2 : Tk) (a b c d : Sp) : LSt := ⟨cpus, credit, [g0, g1, g2], [k0, k1], [u0, u1], [t0, t1, t2], [[a, b], [c, d]]⟩
def Lc (cpus credit : Int) (g0 g1 g2 : Int × Int) (k0 k1 u0 u1 : Int) (t0 t1 t2 : Tk) (a b c e f : Sp) : LSt := ⟨cpus, credit, [g0, g1, g2], [k0, k1], [u0, u1], [t0, t1, t2], [[a, b], [c], [e, f]]⟩
end Go.Proofs.T
end
