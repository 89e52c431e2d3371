import Derived.Test.YtegccfgfddpmpaaGreatDoorZAF
import Derived.HandedShaped
import Derived.Stop.LaidErr
import Derived.LaidSub
import Derived.Shelf.Vars
import Derived.Test.YtegccfgfddpmpaaGreatDoorRows
import Derived.ChangeMaps5
import Derived.Lay
import Derived.MakeChecks

section
set_option linter.unusedVariables false
set_option linter.unusedSimpArgs false
namespace Go.Proofs.T
open Go Go.AM Go.Proofs Go.Lib
set_option linter.unusedSimpArgs false
set_option linter.unusedVariables false
set_option maxRecDepth 4000
variable {Γ : List (Nat × List AVal)}
def flt (r : Nat) (a b : Int) : List AVal := [.lit (.int .u8 (r : Int)), .lit (.int .i64 a), .lit (.int .i64 b)]
attribute [go_sem] flt
def textT (r : Nat) (a b : Int) : List UInt8 := if textOk r a b = true then txt r a b else []
def textE (r : Nat) (a b : Int) : Int := if textOk r a b = true then 0 else 2
theorem nm_len (r : Nat) : (nm r).length ≤ 7 := by
  by_cases h : r < 18
  · have : ((List.range 18).all fun r => decide ((nm r).length ≤ 7)) = true := by decide +kernel
    simpa using List.all_eq_true.1 this r (List.mem_range.2 h)
  · rw [nm_big (by omega)]; simp
theorem textOk_iff {r : Nat} {a b : Int} : textOk r a b = true ↔ nm r ≠ [] ∧ 0 ≤ a ∧ 0 ≤ b := by simp [textOk, and_assoc]
theorem text_c (hG : GT Γ) (r : Nat) (a b : Int) (hr : r < 256) (ha : a ≤ 9223372036854775807) (hb : b ≤ 9223372036854775807) : Pure Tryz.prog Γ 13 [.agg (flt r a b)] (.tup [.lit (.string (ByteArray.mk (textT r a b).toArray)), .lit (.int .i64 (textE r a b))]) := by
  have hl := nm_len r
  refine Pure_at Tryz.func13 rfl 31 rfl (Nat.le_of_ble_eq_true rfl) rfl fun k => ?_
  (repeat' (first | (refine C_seq rfl ?_) | (refine C_block rfl ?_) | (refine C_skip rfl ?_; (try simp -dsimp -implicitDefEqProofs only [go_sem, eq_self, ↓reduceIte])) | (refine C_exit rfl ?_; (try simp -dsimp -implicitDefEqProofs only [go_sem, eq_self, ↓reduceIte])) | (refine C_cond rfl _ rfl (fun ht => ?_) (fun ht => ?_) <;> (try (simp only [nf] at ht)) <;> (try (exfalso; omega))) | ((first | (refine S_reg0 rfl [0,1,2,3,17] rfl rfl (fun K hK => ?_)) | (refine S_drw0 rfl [0,1,2,3,17] rfl (by kernel_rfl) rfl (fun K hK => ?_))); simp -dsimp -implicitDefEqProofs only [go_sem, eq_self, ↓reduceIte]; (repeat' (first | (refine And.intro ?_ ?_) | (refine gs_both (fun hb => ?_) (fun hb => ?_) <;> (have hg := hb; (try simp only [nfb] at hg); simp -dsimp -implicitDefEqProofs only [go_sem, hb, hg, eq_self, ↓reduceIte]; clear hb; (try simp only [nfe] at hg))))); any_goals ((first | (refine hK _ _ _ _ (fun hx => ?_)) | (refine hK _ _ _ _ (drawOk_names (fun i => i - k) (by simp only [List.map_cons, List.map_nil, shG, ↓reduceIte, Nat.add_sub_cancel_left, Nat.sub_self]; rfl) (by decide +kernel) (by simp -dsimp -implicitDefEqProofs only [go_sem, eq_self, ↓reduceIte])) (fun hx => ?_)) | (refine hK _ _ _ _ (drawOk_of (by kernel_rfl) (by simp -dsimp -implicitDefEqProofs only [go_sem, eq_self, ↓reduceIte])) (fun hx => ?_))); clear hx hK; simp -dsimp -implicitDefEqProofs only [go_sem, eq_self, ↓reduceIte]; (try simp (disch := omega) only [wrap_i64, wrap_u64, wrap_u32, wrap_u8]))) | omega))
  refine S_reg rfl [0,1,2,3,17] [.ret (.lit (.string (ByteArray.mk (nm r).toArray)))] rfl (fun K hK => ?_); simp -dsimp -implicitDefEqProofs only [go_sem, eq_self, ↓reduceIte]; (repeat' (first | (refine And.intro ?_ ?_) | (refine gs_both (fun hb => ?_) (fun hb => ?_) <;> (have hg := hb; (try simp only [nfb] at hg); simp -dsimp -implicitDefEqProofs only [go_sem, hb, hg, eq_self, ↓reduceIte]; clear hb; (try simp only [nfe] at hg))))); (any_goals ((refine hK _ _ _ _ (fun hx => ?_)); clear hx hK; simp -dsimp -implicitDefEqProofs only [go_sem, eq_self, ↓reduceIte]; (try simp (disch := omega) only [wrap_i64, wrap_u64, wrap_u32, wrap_u8]))); (all_goals (try omega))
  · exact name_c r hr
  all_goals ((repeat' (first | (refine C_seq rfl ?_) | (refine C_block rfl ?_) | (refine C_skip rfl ?_; (try simp -dsimp -implicitDefEqProofs only [go_sem, eq_self, ↓reduceIte])) | (refine C_exit rfl ?_; (try simp -dsimp -implicitDefEqProofs only [go_sem, eq_self, ↓reduceIte])) | (refine C_cond rfl _ rfl (fun ht => ?_) (fun ht => ?_) <;> (try (simp only [nf] at ht)) <;> (try (exfalso; omega))) | ((first | (refine S_reg0 rfl [0,1,2,3,17] rfl rfl (fun K hK => ?_)) | (refine S_drw0 rfl [0,1,2,3,17] rfl (by kernel_rfl) rfl (fun K hK => ?_))); simp -dsimp -implicitDefEqProofs only [go_sem, eq_self, ↓reduceIte]; (repeat' (first | (refine And.intro ?_ ?_) | (refine gs_both (fun hb => ?_) (fun hb => ?_) <;> (have hg := hb; (try simp only [nfb] at hg); simp -dsimp -implicitDefEqProofs only [go_sem, hb, hg, eq_self, ↓reduceIte]; clear hb; (try simp only [nfe] at hg))))); any_goals ((first | (refine hK _ _ _ _ (fun hx => ?_)) | (refine hK _ _ _ _ (drawOk_names (fun i => i - k) (by simp only [List.map_cons, List.map_nil, shG, ↓reduceIte, Nat.add_sub_cancel_left, Nat.sub_self]; rfl) (by decide +kernel) (by simp -dsimp -implicitDefEqProofs only [go_sem, eq_self, ↓reduceIte])) (fun hx => ?_)) | (refine hK _ _ _ _ (drawOk_of (by kernel_rfl) (by simp -dsimp -implicitDefEqProofs only [go_sem, eq_self, ↓reduceIte])) (fun hx => ?_))); clear hx hK; simp -dsimp -implicitDefEqProofs only [go_sem, eq_self, ↓reduceIte]; (try simp (disch := omega) only [wrap_i64, wrap_u64, wrap_u32, wrap_u8]))) | omega)))
  · have hk : ¬ textOk r a b = true := by rw [textOk_iff]; omega
    refine C_ret rfl ⟨_, rfl, VLe.of_eq ?_⟩
    rw [textT, textE, if_neg hk, if_neg hk]
  · have hk : textOk r a b = true := by rw [textOk_iff]; exact ⟨by assumption, by omega, by omega⟩
    have l1 := itoa_len a (by omega) (by omega)
    have l2 := itoa_len b (by omega) (by omega)
    refine S_drw rfl [0,1,2,3,17] [.ret (.lit (.string (ByteArray.mk (nm r).toArray))), .ret (.lit (.string (ByteArray.mk (itoa a).toArray))), .ret (.lit (.string (ByteArray.mk (itoa b).toArray)))] (by kernel_rfl) rfl (fun K hK => ?_); simp -dsimp -implicitDefEqProofs only [go_sem, eq_self, ↓reduceIte]; (repeat' (first | (refine And.intro ?_ ?_) | (refine gs_both (fun hb => ?_) (fun hb => ?_) <;> (have hg := hb; (try simp only [nfb] at hg); simp -dsimp -implicitDefEqProofs only [go_sem, hb, hg, eq_self, ↓reduceIte]; clear hb; (try simp only [nfe] at hg))))); (any_goals ((first | (refine hK _ _ _ _ (drawOk_names (fun i => i - k) (by simp only [List.map_cons, List.map_nil, shG, ↓reduceIte, Nat.add_sub_cancel_left, Nat.sub_self]; rfl) (by decide +kernel) (by simp -dsimp -implicitDefEqProofs only [go_sem, eq_self, ↓reduceIte])) (fun hx => ?_)) | (refine hK _ _ _ _ (drawOk_of (by kernel_rfl) (by simp -dsimp -implicitDefEqProofs only [go_sem, eq_self, ↓reduceIte])) (fun hx => ?_))); clear hx hK; simp -dsimp -implicitDefEqProofs only [go_sem, eq_self, ↓reduceIte]; (try simp (disch := omega) only [wrap_i64, wrap_u64, wrap_u32, wrap_u8]))); (all_goals (try omega))
    · exact name_c r hr
    · exact itoa_c hG a (by omega) (by omega)
    · exact itoa_c hG b (by omega) (by omega)
    · refine C_ret rfl ⟨_, rfl, VLe.of_eq ?_⟩
      rw [textT, textE, if_pos hk, if_pos hk, txt]
      simp
  · have hk : ¬ textOk r a b = true := by rw [textOk_iff]; omega
    refine C_ret rfl ⟨_, rfl, VLe.of_eq ?_⟩
    rw [textT, textE, if_neg hk, if_neg hk]
  · have hk : ¬ textOk r a b = true := by rw [textOk_iff]; simp [hg]
    refine C_ret rfl ⟨_, rfl, VLe.of_eq ?_⟩
    rw [textT, textE, if_neg hk, if_neg hk]
theorem nmL_len : nmL.length = 18 := rfl
theorem nmL_get (r : Nat) : nmL.getD r [] = nm r := rfl
attribute [go_sem] strs
theorem textR_c (r : Nat) (a b : Int) (hr : r < 256) (ha : a ≤ 9223372036854775807) (hb : b ≤ 9223372036854775807) : Pure Tryz.prog Γ 14 [.agg (flt r a b)] (.tup [.lit (.string (ByteArray.mk (textT r a b).toArray)), .lit (.int .i64 (textE r a b))]) := by
  have hl := nm_len r
  have hnn := nm_nil (r := r)
  refine Pure_at Tryz.func14 rfl 37 rfl (Nat.le_of_ble_eq_true rfl) rfl fun k => ?_
  (repeat' (first | (refine C_seq rfl ?_) | (refine C_block rfl ?_) | (refine C_skip rfl ?_; (try simp -dsimp -implicitDefEqProofs only [go_sem, eq_self, ↓reduceIte])) | (refine C_exit rfl ?_; (try simp -dsimp -implicitDefEqProofs only [go_sem, eq_self, ↓reduceIte])) | (refine C_cond rfl _ rfl (fun ht => ?_) (fun ht => ?_) <;> (try (simp only [nf] at ht)) <;> (try (exfalso; omega))) | ((first | (refine S_reg0 rfl [0,1,2,3,21] rfl rfl (fun K hK => ?_)) | (refine S_drw0 rfl [0,1,2,3,21] rfl (by kernel_rfl) rfl (fun K hK => ?_))); simp -dsimp -implicitDefEqProofs only [go_sem, eq_self, ↓reduceIte]; (repeat' (first | (refine And.intro ?_ ?_) | (refine gs_both (fun hb => ?_) (fun hb => ?_) <;> (have hg := hb; (try simp only [nfb] at hg); simp -dsimp -implicitDefEqProofs only [go_sem, hb, hg, eq_self, ↓reduceIte]; clear hb; (try simp only [nfe] at hg))))); any_goals ((first | (refine hK _ _ _ _ (fun hx => ?_)) | (refine hK _ _ _ _ (drawOk_names (fun i => i - k) (by simp only [List.map_cons, List.map_nil, shG, ↓reduceIte, Nat.add_sub_cancel_left, Nat.sub_self]; rfl) (by decide +kernel) (by simp -dsimp -implicitDefEqProofs only [go_sem, eq_self, ↓reduceIte])) (fun hx => ?_)) | (refine hK _ _ _ _ (drawOk_of (by kernel_rfl) (by simp -dsimp -implicitDefEqProofs only [go_sem, eq_self, ↓reduceIte])) (fun hx => ?_))); clear hx hK; simp -dsimp -implicitDefEqProofs only [go_sem, eq_self, ↓reduceIte]; (try simp (disch := omega) only [wrap_i64, wrap_u64, wrap_u32, wrap_u8]))) | omega))
  · have hk : ¬ textOk r a b = true := by rw [textOk_iff]; omega
    refine C_ret rfl ⟨_, rfl, VLe.of_eq ?_⟩
    rw [textT, textE, if_neg hk, if_neg hk]
  · have hk : textOk r a b = true := by rw [textOk_iff, ne_eq, hnn]; omega
    obtain ⟨x, rfl⟩ := Int.eq_ofNat_of_zero_le (show 0 ≤ a by omega)
    obtain ⟨y, rfl⟩ := Int.eq_ofNat_of_zero_le (show 0 ≤ b by omega)
    have l1 := dec_len 18 x (by omega)
    have l2 := dec_len 18 y (by omega)
    refine S_drw rfl [0,1,2,3,21] [.ret (strs nmL), .ret (.lit (.string (ByteArray.mk (decDigits x).toArray))), .ret (.lit (.string (ByteArray.mk (decDigits y).toArray)))] (by kernel_rfl) rfl (fun K hK => ?_); simp -dsimp -implicitDefEqProofs only [go_sem, nmL_len, nmL_get, eq_self, ↓reduceIte]; (repeat' (first | (refine And.intro ?_ ?_) | (refine gs_both (fun hb => ?_) (fun hb => ?_) <;> (have hg := hb; (try simp only [nfb] at hg); simp -dsimp -implicitDefEqProofs only [go_sem, nmL_len, nmL_get, hb, hg, eq_self, ↓reduceIte]; clear hb; (try simp only [nfe] at hg))))); (any_goals ((first | (refine hK _ _ _ _ (drawOk_names (fun i => i - k) (by simp only [List.map_cons, List.map_nil, shG, nmL_len, nmL_get, ↓reduceIte, Nat.add_sub_cancel_left, Nat.sub_self]; rfl) (by decide +kernel) (by simp -dsimp -implicitDefEqProofs only [go_sem, nmL_len, nmL_get, eq_self, ↓reduceIte])) (fun hx => ?_)) | (refine hK _ _ _ _ (drawOk_of (by kernel_rfl) (by simp -dsimp -implicitDefEqProofs only [go_sem, nmL_len, nmL_get, eq_self, ↓reduceIte])) (fun hx => ?_))); clear hx hK; simp -dsimp -implicitDefEqProofs only [go_sem, nmL_len, nmL_get, eq_self, ↓reduceIte]; (try simp (disch := omega) only [wrap_i64, wrap_u64, wrap_u32, wrap_u8]))); (all_goals (try omega))
    · exact names_c
    · exact decimal_c x (by omega)
    · exact decimal_c y (by omega)
    · refine C_ret rfl ⟨_, rfl, VLe.of_eq ?_⟩
      rw [textT, textE, if_pos hk, if_pos hk, txt]
      simp [itoa_nat]
  all_goals (have hk : ¬ textOk r a b = true := by rw [textOk_iff, ne_eq, hnn]; omega)
  all_goals (refine C_ret rfl ⟨_, rfl, VLe.of_eq ?_⟩)
  all_goals (rw [textT, textE, if_neg hk, if_neg hk])
theorem numGo_le (l : List UInt8) : ∀ (n i : Nat), (numGo n i l).2 ≤ i + l.length := by
  induction l with
  | nil => intro n i; exact Nat.le_refl _
  | cons c l ih =>
    intro n i
    rw [numGo]
    split
    · split
      · show i ≤ _; omega
      · have := ih (10 * n + (c.toNat - 48)) (i + 1); rw [List.length_cons]; omega
    · show i ≤ _; omega
theorem numP_le (s : List UInt8) : (numP s).2 ≤ s.length := by
  have h := numGo_le s 0 0
  unfold numP numEnd
  split
  · rename_i hg; rw [hg] at h; simpa using h
  · rename_i hg; rw [hg] at h; split <;> simpa using h
theorem splitK_len (x : List UInt8) : ∀ (k : Nat) (s : List UInt8), x ∈ splitK [32] 0 k s → x.length ≤ s.length
  | 0, s, h => by simp only [splitK, List.mem_singleton] at h; subst h; exact Nat.le_refl _
  | k + 1, s, h => by
    rw [splitK] at h
    split at h
    · simp only [List.mem_singleton] at h; subst h; exact Nat.le_refl _
    · rcases List.mem_cons.1 h with rfl | h
      · rw [List.length_take]; omega
      · have := splitK_len x k _ h; rw [List.length_drop] at this; omega
theorem split_len {x s : List UInt8} (h : x ∈ split s [32]) : x.length ≤ s.length := splitK_len x _ s h
theorem rd_tup {R R' : RdV} (h : R = R') : VLe (.tup [.agg (flt R.1.1 R.1.2.1 R.1.2.2), .lit (.int .i64 R.2)]) (.tup [.agg (flt R'.1.1 R'.1.2.1 R'.1.2.2), .lit (.int .i64 R'.2)]) := h ▸ VLe.refl _
theorem read_c (hG : GT Γ) (s : List UInt8) (hs : s.length ≤ 200) : Pure Tryz.prog Γ 15 [.lit (.string (ByteArray.mk s.toArray))] (.tup [.agg (flt (readP s).1.1 (readP s).1.2.1 (readP s).1.2.2), .lit (.int .i64 (readP s).2)]) := by
  obtain ⟨ws, hws⟩ : ∃ ws, split s [32] = ws := ⟨_, rfl⟩
  have hlw : ∀ x ∈ ws, x.length ≤ 200 := fun x hx => by rw [← hws] at hx; have := split_len hx; omega
  have hR : readP s = if ws.length = 3 then (if textOk (ruleGo (ws.getD 0 []) 18) (atoiV (ws.getD 1 [])) (atoiV (ws.getD 2 [])) = true ∧ txt (ruleGo (ws.getD 0 []) 18) (atoiV (ws.getD 1 [])) (atoiV (ws.getD 2 [])) = s then ((ruleGo (ws.getD 0 []) 18, atoiV (ws.getD 1 []), atoiV (ws.getD 2 [])), 0) else rdErr) else rdErr := by
    rw [← hws]; rfl
  generalize readP s = R at hR ⊢
  refine Pure_at Tryz.func15 rfl 57 rfl (Nat.le_of_ble_eq_true rfl) rfl fun k => ?_
  (repeat' (first | (refine C_seq rfl ?_) | (refine C_block rfl ?_) | (refine C_skip rfl ?_; (try simp -dsimp -implicitDefEqProofs only [go_sem, eq_self, ↓reduceIte])) | (refine C_exit rfl ?_; (try simp -dsimp -implicitDefEqProofs only [go_sem, eq_self, ↓reduceIte])) | (refine C_cond rfl _ rfl (fun ht => ?_) (fun ht => ?_) <;> (try (simp only [nf] at ht)) <;> (try (exfalso; omega))) | ((first | (refine S_reg0 rfl [0,2,3,4,5,6,7,8,13,15,16,23,54] rfl rfl (fun K hK => ?_)) | (refine S_drw0 rfl [0,2,3,4,5,6,7,8,13,15,16,23,54] rfl (by kernel_rfl) rfl (fun K hK => ?_))); simp -dsimp -implicitDefEqProofs only [go_sem, eq_self, ↓reduceIte]; (repeat' (first | (refine And.intro ?_ ?_) | (refine gs_both (fun hb => ?_) (fun hb => ?_) <;> (have hg := hb; (try simp only [nfb] at hg); simp -dsimp -implicitDefEqProofs only [go_sem, hb, hg, eq_self, ↓reduceIte]; clear hb; (try simp only [nfe] at hg))))); any_goals ((first | (refine hK _ _ _ _ (fun hx => ?_)) | (refine hK _ _ _ _ (drawOk_names (fun i => i - k) (by simp only [List.map_cons, List.map_nil, shG, ↓reduceIte, Nat.add_sub_cancel_left, Nat.sub_self]; rfl) (by decide +kernel) (by simp -dsimp -implicitDefEqProofs only [go_sem, eq_self, ↓reduceIte])) (fun hx => ?_)) | (refine hK _ _ _ _ (drawOk_of (by kernel_rfl) (by simp -dsimp -implicitDefEqProofs only [go_sem, eq_self, ↓reduceIte])) (fun hx => ?_))); clear hx hK; simp -dsimp -implicitDefEqProofs only [go_sem, eq_self, ↓reduceIte]; (try simp (disch := omega) only [wrap_i64, wrap_u64, wrap_u32, wrap_u8]))) | omega))
  refine S_reg rfl [0,2,3,4,5,6,7,8,13,15,16,23,54] [.ret (strs ws)] rfl (fun K hK => ?_); simp -dsimp -implicitDefEqProofs only [go_sem, eq_self, ↓reduceIte]; (repeat' (first | (refine And.intro ?_ ?_) | (refine gs_both (fun hb => ?_) (fun hb => ?_) <;> (have hg := hb; (try simp only [nfb] at hg); simp -dsimp -implicitDefEqProofs only [go_sem, hb, hg, eq_self, ↓reduceIte]; clear hb; (try simp only [nfe] at hg))))); (any_goals ((refine hK _ _ _ _ (fun hx => ?_)); clear hx hK; simp -dsimp -implicitDefEqProofs only [go_sem, eq_self, ↓reduceIte]; (try simp (disch := omega) only [wrap_i64, wrap_u64, wrap_u32, wrap_u8]))); (all_goals (try omega))
  · rw [← hws]; exact split_c hG s (by omega)
  (repeat' (first | (refine C_seq rfl ?_) | (refine C_block rfl ?_) | (refine C_skip rfl ?_; (try simp -dsimp -implicitDefEqProofs only [go_sem, eq_self, ↓reduceIte])) | (refine C_exit rfl ?_; (try simp -dsimp -implicitDefEqProofs only [go_sem, eq_self, ↓reduceIte])) | (refine C_cond rfl _ rfl (fun ht => ?_) (fun ht => ?_) <;> (try (simp only [nf] at ht)) <;> (try (exfalso; omega))) | ((first | (refine S_reg0 rfl [0,2,3,4,5,6,7,8,13,15,16,23,54] rfl rfl (fun K hK => ?_)) | (refine S_drw0 rfl [0,2,3,4,5,6,7,8,13,15,16,23,54] rfl (by kernel_rfl) rfl (fun K hK => ?_))); simp -dsimp -implicitDefEqProofs only [go_sem, eq_self, ↓reduceIte]; (repeat' (first | (refine And.intro ?_ ?_) | (refine gs_both (fun hb => ?_) (fun hb => ?_) <;> (have hg := hb; (try simp only [nfb] at hg); simp -dsimp -implicitDefEqProofs only [go_sem, hb, hg, eq_self, ↓reduceIte]; clear hb; (try simp only [nfe] at hg))))); any_goals ((first | (refine hK _ _ _ _ (fun hx => ?_)) | (refine hK _ _ _ _ (drawOk_names (fun i => i - k) (by simp only [List.map_cons, List.map_nil, shG, ↓reduceIte, Nat.add_sub_cancel_left, Nat.sub_self]; rfl) (by decide +kernel) (by simp -dsimp -implicitDefEqProofs only [go_sem, eq_self, ↓reduceIte])) (fun hx => ?_)) | (refine hK _ _ _ _ (drawOk_of (by kernel_rfl) (by simp -dsimp -implicitDefEqProofs only [go_sem, eq_self, ↓reduceIte])) (fun hx => ?_))); clear hx hK; simp -dsimp -implicitDefEqProofs only [go_sem, eq_self, ↓reduceIte]; (try simp (disch := omega) only [wrap_i64, wrap_u64, wrap_u32, wrap_u8]))) | omega))
  · refine C_ret rfl ?_; simp -dsimp -implicitDefEqProofs only [go_sem, eq_self, ↓reduceIte]; refine ⟨_, rfl, ?_⟩
    rw [hR, if_neg (by omega)]
    exact VLe.refl _
  rw [if_pos (by omega)] at hR
  have hlen3 : ws.length = 3 := by omega
  rcases ws with _ | ⟨w0, _ | ⟨w1, _ | ⟨w2, _ | ⟨w3, ws⟩⟩⟩⟩
  · simp at hlen3
  · simp at hlen3
  · simp at hlen3
  · simp only [List.getD_cons_zero, List.getD_cons_succ] at hR
    refine M_forO (X := Nat) rfl [0,2,3,4,5,6,7,8,13,15,16,23,54] (k + 2) (fun i => [(15, .lit (.int .u8 (i : Int)))]) (fun i => [(k + 1, ⟨3, true, [flt (ruleGo w0 i) 0 0]⟩), (k, ⟨3, true, [flt 0 0 0]⟩)]) (fun i => i ≤ 18) (fun i => 18 - i) 0 ?_ (Nat.zero_le _) ?_
    · rw [ruleGo]
      simp -dsimp -implicitDefEqProofs only [go_sem, eq_self, ↓reduceIte]
      exact Mv.wk (wk_low (by omega) (by simp -dsimp -implicitDefEqProofs only [go_sem, List.map_append, List.map_cons, List.map_nil, eq_self, ↓reduceIte]) (by simp -dsimp -implicitDefEqProofs only [go_sem, List.map_append, List.map_cons, List.map_nil, eq_self, ↓reduceIte]) (by simp -dsimp -implicitDefEqProofs only [go_sem, List.map_append, List.map_cons, List.map_nil, eq_self, ↓reduceIte]) (by simp -dsimp -implicitDefEqProofs only [go_sem, List.map_append, List.map_cons, List.map_nil, eq_self, ↓reduceIte]))
    intro i hi
    simp -dsimp -implicitDefEqProofs only [go_sem, eq_self, ↓reduceIte]
    have hl0 : w0.length ≤ 200 := hlw w0 (by simp)
    have hl1 : w1.length ≤ 200 := hlw w1 (by simp)
    have hl2 : w2.length ≤ 200 := hlw w2 (by simp)
    have b1 := atoiV_bounds w1
    have b2 := atoiV_bounds w2
    (repeat' (first | (refine C_seq rfl ?_) | (refine C_block rfl ?_) | (refine C_skip rfl ?_; (try simp -dsimp -implicitDefEqProofs only [go_sem, eq_self, ↓reduceIte])) | (refine C_exit rfl ?_; (try simp -dsimp -implicitDefEqProofs only [go_sem, eq_self, ↓reduceIte])) | (refine C_cond rfl _ rfl (fun ht => ?_) (fun ht => ?_) <;> (try (simp only [nf] at ht)) <;> (try (exfalso; omega))) | ((first | (refine S_reg0 rfl [0,2,3,4,5,6,7,8,13,15,16,23,54] rfl rfl (fun K hK => ?_)) | (refine S_drw0 rfl [0,2,3,4,5,6,7,8,13,15,16,23,54] rfl (by kernel_rfl) rfl (fun K hK => ?_))); simp -dsimp -implicitDefEqProofs only [go_sem, eq_self, ↓reduceIte]; (repeat' (first | (refine And.intro ?_ ?_) | (refine gs_both (fun hb => ?_) (fun hb => ?_) <;> (have hg := hb; (try simp only [nfb] at hg); simp -dsimp -implicitDefEqProofs only [go_sem, hb, hg, eq_self, ↓reduceIte]; clear hb; (try simp only [nfe] at hg))))); any_goals ((first | (refine hK _ _ _ _ (fun hx => ?_)) | (refine hK _ _ _ _ (drawOk_names (fun i => i - k) (by simp only [List.map_cons, List.map_nil, shG, ↓reduceIte, Nat.add_sub_cancel_left, Nat.sub_self]; rfl) (by decide +kernel) (by simp -dsimp -implicitDefEqProofs only [go_sem, eq_self, ↓reduceIte])) (fun hx => ?_)) | (refine hK _ _ _ _ (drawOk_of (by kernel_rfl) (by simp -dsimp -implicitDefEqProofs only [go_sem, eq_self, ↓reduceIte])) (fun hx => ?_))); clear hx hK; simp -dsimp -implicitDefEqProofs only [go_sem, eq_self, ↓reduceIte]; (try simp (disch := omega) only [wrap_i64, wrap_u64, wrap_u32, wrap_u8]))) | omega))
    · refine S_drw rfl [0,2,3,4,5,6,7,8,13,15,16,23,54] [.ret (.lit (.string (ByteArray.mk (nm i).toArray)))] (by kernel_rfl) rfl (fun K hK => ?_); simp -dsimp -implicitDefEqProofs only [go_sem, eq_self, ↓reduceIte]; (repeat' (first | (refine And.intro ?_ ?_) | (refine gs_both (fun hb => ?_) (fun hb => ?_) <;> (have hg := hb; (try simp only [nfb] at hg); simp -dsimp -implicitDefEqProofs only [go_sem, hb, hg, eq_self, ↓reduceIte]; clear hb; (try simp only [nfe] at hg))))); (any_goals ((first | (refine hK _ _ _ _ (drawOk_names (fun i => i - k) (by simp only [List.map_cons, List.map_nil, shG, ↓reduceIte, Nat.add_sub_cancel_left, Nat.sub_self]; rfl) (by decide +kernel) (by simp -dsimp -implicitDefEqProofs only [go_sem, eq_self, ↓reduceIte])) (fun hx => ?_)) | (refine hK _ _ _ _ (drawOk_of (by kernel_rfl) (by simp -dsimp -implicitDefEqProofs only [go_sem, eq_self, ↓reduceIte])) (fun hx => ?_))); clear hx hK; simp -dsimp -implicitDefEqProofs only [go_sem, eq_self, ↓reduceIte]; (try simp (disch := omega) only [wrap_i64, wrap_u64, wrap_u32, wrap_u8]))); (all_goals (try omega))
      · exact name_c i (by omega)
      · (repeat' (first | (refine C_seq rfl ?_) | (refine C_block rfl ?_) | (refine C_skip rfl ?_; (try simp -dsimp -implicitDefEqProofs only [go_sem, eq_self, ↓reduceIte])) | (refine C_exit rfl ?_; (try simp -dsimp -implicitDefEqProofs only [go_sem, eq_self, ↓reduceIte])) | (refine C_cond rfl _ rfl (fun ht => ?_) (fun ht => ?_) <;> (try (simp only [nf] at ht)) <;> (try (exfalso; omega))) | ((first | (refine S_reg0 rfl [0,2,3,4,5,6,7,8,13,15,16,23,54] rfl rfl (fun K hK => ?_)) | (refine S_drw0 rfl [0,2,3,4,5,6,7,8,13,15,16,23,54] rfl (by kernel_rfl) rfl (fun K hK => ?_))); simp -dsimp -implicitDefEqProofs only [go_sem, eq_self, ↓reduceIte]; (repeat' (first | (refine And.intro ?_ ?_) | (refine gs_both (fun hb => ?_) (fun hb => ?_) <;> (have hg := hb; (try simp only [nfb] at hg); simp -dsimp -implicitDefEqProofs only [go_sem, hb, hg, eq_self, ↓reduceIte]; clear hb; (try simp only [nfe] at hg))))); any_goals ((first | (refine hK _ _ _ _ (fun hx => ?_)) | (refine hK _ _ _ _ (drawOk_names (fun i => i - k) (by simp only [List.map_cons, List.map_nil, shG, ↓reduceIte, Nat.add_sub_cancel_left, Nat.sub_self]; rfl) (by decide +kernel) (by simp -dsimp -implicitDefEqProofs only [go_sem, eq_self, ↓reduceIte])) (fun hx => ?_)) | (refine hK _ _ _ _ (drawOk_of (by kernel_rfl) (by simp -dsimp -implicitDefEqProofs only [go_sem, eq_self, ↓reduceIte])) (fun hx => ?_))); clear hx hK; simp -dsimp -implicitDefEqProofs only [go_sem, eq_self, ↓reduceIte]; (try simp (disch := omega) only [wrap_i64, wrap_u64, wrap_u32, wrap_u8]))) | omega))
        · refine ⟨i + 1, by omega, by omega, ?_⟩
          have e2 : ((i + 1 : Nat) : Int) = (i : Int) + 1 := by omega
          rw [ruleGo, if_pos (by assumption), e2]
          exact Mv.wk (wk_low (by omega) (by simp -dsimp -implicitDefEqProofs only [go_sem, List.map_append, List.map_cons, List.map_nil, eq_self, ↓reduceIte]) (by simp -dsimp -implicitDefEqProofs only [go_sem, List.map_append, List.map_cons, List.map_nil, eq_self, ↓reduceIte]) (by simp -dsimp -implicitDefEqProofs only [go_sem, List.map_append, List.map_cons, List.map_nil, eq_self, ↓reduceIte]) (by simp -dsimp -implicitDefEqProofs only [go_sem, List.map_append, List.map_cons, List.map_nil, eq_self, ↓reduceIte]))
        · refine ⟨i + 1, by omega, by omega, ?_⟩
          have e2 : ((i + 1 : Nat) : Int) = (i : Int) + 1 := by omega
          rw [ruleGo, if_neg (by assumption), e2]
          exact Mv.wk (wk_low (by omega) (by simp -dsimp -implicitDefEqProofs only [go_sem, List.map_append, List.map_cons, List.map_nil, eq_self, ↓reduceIte]) (by simp -dsimp -implicitDefEqProofs only [go_sem, List.map_append, List.map_cons, List.map_nil, eq_self, ↓reduceIte]) (by simp -dsimp -implicitDefEqProofs only [go_sem, List.map_append, List.map_cons, List.map_nil, eq_self, ↓reduceIte]) (by simp -dsimp -implicitDefEqProofs only [go_sem, List.map_append, List.map_cons, List.map_nil, eq_self, ↓reduceIte]))
    · have hi18 : i = 18 := by omega
      subst hi18
      obtain ⟨r, hr⟩ : ∃ r, ruleGo w0 18 = r := ⟨_, rfl⟩
      have hr18 := ruleGo_lt w0 18
      rw [hr] at hr18 hR
      obtain ⟨a, ha⟩ : ∃ a, atoiV w1 = a := ⟨_, rfl⟩
      obtain ⟨b, hb⟩ : ∃ b, atoiV w2 = b := ⟨_, rfl⟩
      rw [ha, hb] at hR
      rw [ha] at b1
      rw [hb] at b2
      refine S_reg rfl [0,2,3,4,5,6,7,8,13,15,16,23,54] [.ret (.tup [.lit (.int .i64 a), .junk])] rfl (fun K hK => ?_); simp -dsimp -implicitDefEqProofs only [go_sem, hr, eq_self, ↓reduceIte]; (repeat' (first | (refine And.intro ?_ ?_) | (refine gs_both (fun hb => ?_) (fun hb => ?_) <;> (have hg := hb; (try simp only [nfb] at hg); simp -dsimp -implicitDefEqProofs only [go_sem, hr, hb, hg, eq_self, ↓reduceIte]; clear hb; (try simp only [nfe] at hg))))); (any_goals ((refine hK _ _ _ _ (fun hx => ?_)); clear hx hK; simp -dsimp -implicitDefEqProofs only [go_sem, hr, eq_self, ↓reduceIte]; (try simp (disch := omega) only [wrap_i64, wrap_u64, wrap_u32, wrap_u8]))); (all_goals (try omega))
      · rw [← ha]; exact atoi_c hG w1 (by omega)
      (repeat' (first | (refine C_seq rfl ?_) | (refine C_block rfl ?_) | (refine C_skip rfl ?_; (try simp -dsimp -implicitDefEqProofs only [go_sem, hr, eq_self, ↓reduceIte])) | (refine C_exit rfl ?_; (try simp -dsimp -implicitDefEqProofs only [go_sem, hr, eq_self, ↓reduceIte])) | (refine C_cond rfl _ rfl (fun ht => ?_) (fun ht => ?_) <;> (try (simp only [nf] at ht)) <;> (try (exfalso; omega))) | ((first | (refine S_reg0 rfl [0,2,3,4,5,6,7,8,13,15,16,23,54] rfl rfl (fun K hK => ?_)) | (refine S_drw0 rfl [0,2,3,4,5,6,7,8,13,15,16,23,54] rfl (by kernel_rfl) rfl (fun K hK => ?_))); simp -dsimp -implicitDefEqProofs only [go_sem, hr, eq_self, ↓reduceIte]; (repeat' (first | (refine And.intro ?_ ?_) | (refine gs_both (fun hb => ?_) (fun hb => ?_) <;> (have hg := hb; (try simp only [nfb] at hg); simp -dsimp -implicitDefEqProofs only [go_sem, hr, hb, hg, eq_self, ↓reduceIte]; clear hb; (try simp only [nfe] at hg))))); any_goals ((first | (refine hK _ _ _ _ (fun hx => ?_)) | (refine hK _ _ _ _ (drawOk_names (fun i => i - k) (by simp only [List.map_cons, List.map_nil, shG, hr, ↓reduceIte, Nat.add_sub_cancel_left, Nat.sub_self]; rfl) (by decide +kernel) (by simp -dsimp -implicitDefEqProofs only [go_sem, hr, eq_self, ↓reduceIte])) (fun hx => ?_)) | (refine hK _ _ _ _ (drawOk_of (by kernel_rfl) (by simp -dsimp -implicitDefEqProofs only [go_sem, hr, eq_self, ↓reduceIte])) (fun hx => ?_))); clear hx hK; simp -dsimp -implicitDefEqProofs only [go_sem, hr, eq_self, ↓reduceIte]; (try simp (disch := omega) only [wrap_i64, wrap_u64, wrap_u32, wrap_u8]))) | omega))
      refine S_reg rfl [0,2,3,4,5,6,7,8,13,15,16,23,54] [.ret (.tup [.lit (.int .i64 b), .junk])] rfl (fun K hK => ?_); simp -dsimp -implicitDefEqProofs only [go_sem, hr, eq_self, ↓reduceIte]; (repeat' (first | (refine And.intro ?_ ?_) | (refine gs_both (fun hb => ?_) (fun hb => ?_) <;> (have hg := hb; (try simp only [nfb] at hg); simp -dsimp -implicitDefEqProofs only [go_sem, hr, hb, hg, eq_self, ↓reduceIte]; clear hb; (try simp only [nfe] at hg))))); (any_goals ((refine hK _ _ _ _ (fun hx => ?_)); clear hx hK; simp -dsimp -implicitDefEqProofs only [go_sem, hr, eq_self, ↓reduceIte]; (try simp (disch := omega) only [wrap_i64, wrap_u64, wrap_u32, wrap_u8]))); (all_goals (try omega))
      · rw [← hb]; exact atoi_c hG w2 (by omega)
      (repeat' (first | (refine C_seq rfl ?_) | (refine C_block rfl ?_) | (refine C_skip rfl ?_; (try simp -dsimp -implicitDefEqProofs only [go_sem, hr, eq_self, ↓reduceIte])) | (refine C_exit rfl ?_; (try simp -dsimp -implicitDefEqProofs only [go_sem, hr, eq_self, ↓reduceIte])) | (refine C_cond rfl _ rfl (fun ht => ?_) (fun ht => ?_) <;> (try (simp only [nf] at ht)) <;> (try (exfalso; omega))) | ((first | (refine S_reg0 rfl [0,2,3,4,5,6,7,8,13,15,16,23,54] rfl rfl (fun K hK => ?_)) | (refine S_drw0 rfl [0,2,3,4,5,6,7,8,13,15,16,23,54] rfl (by kernel_rfl) rfl (fun K hK => ?_))); simp -dsimp -implicitDefEqProofs only [go_sem, hr, eq_self, ↓reduceIte]; (repeat' (first | (refine And.intro ?_ ?_) | (refine gs_both (fun hb => ?_) (fun hb => ?_) <;> (have hg := hb; (try simp only [nfb] at hg); simp -dsimp -implicitDefEqProofs only [go_sem, hr, hb, hg, eq_self, ↓reduceIte]; clear hb; (try simp only [nfe] at hg))))); any_goals ((first | (refine hK _ _ _ _ (fun hx => ?_)) | (refine hK _ _ _ _ (drawOk_names (fun i => i - k) (by simp only [List.map_cons, List.map_nil, shG, hr, ↓reduceIte, Nat.add_sub_cancel_left, Nat.sub_self]; rfl) (by decide +kernel) (by simp -dsimp -implicitDefEqProofs only [go_sem, hr, eq_self, ↓reduceIte])) (fun hx => ?_)) | (refine hK _ _ _ _ (drawOk_of (by kernel_rfl) (by simp -dsimp -implicitDefEqProofs only [go_sem, hr, eq_self, ↓reduceIte])) (fun hx => ?_))); clear hx hK; simp -dsimp -implicitDefEqProofs only [go_sem, hr, eq_self, ↓reduceIte]; (try simp (disch := omega) only [wrap_i64, wrap_u64, wrap_u32, wrap_u8]))) | omega))
      refine S_reg rfl [0,2,3,4,5,6,7,8,13,15,16,23,54] [.ret (.tup [.lit (.string (ByteArray.mk (textT r a b).toArray)), .lit (.int .i64 (textE r a b))])] rfl (fun K hK => ?_); simp -dsimp -implicitDefEqProofs only [go_sem, hr, eq_self, ↓reduceIte]; (repeat' (first | (refine And.intro ?_ ?_) | (refine gs_both (fun hb => ?_) (fun hb => ?_) <;> (have hg := hb; (try simp only [nfb] at hg); simp -dsimp -implicitDefEqProofs only [go_sem, hr, hb, hg, eq_self, ↓reduceIte]; clear hb; (try simp only [nfe] at hg))))); (any_goals ((refine hK _ _ _ _ (fun hx => ?_)); clear hx hK; simp -dsimp -implicitDefEqProofs only [go_sem, hr, eq_self, ↓reduceIte]; (try simp (disch := omega) only [wrap_i64, wrap_u64, wrap_u32, wrap_u8]))); (all_goals (try omega))
      · exact text_c hG r a b (by omega) (by omega) (by omega)
      have hT : textOk r a b = true → textT r a b = txt r a b ∧ textE r a b = 0 := fun h => by rw [textT, textE, if_pos h, if_pos h]; exact ⟨rfl, rfl⟩
      have hF : ¬ textOk r a b = true → textE r a b = 2 := fun h => by rw [textE, if_neg h]
      (repeat' (first | (refine C_seq rfl ?_) | (refine C_block rfl ?_) | (refine C_skip rfl ?_; (try simp -dsimp -implicitDefEqProofs only [go_sem, hr, eq_self, ↓reduceIte])) | (refine C_exit rfl ?_; (try simp -dsimp -implicitDefEqProofs only [go_sem, hr, eq_self, ↓reduceIte])) | (refine C_cond rfl _ rfl (fun ht => ?_) (fun ht => ?_) <;> (try (simp only [nf] at ht)) <;> (try (exfalso; omega))) | ((first | (refine S_reg0 rfl [0,2,3,4,5,6,7,8,13,15,16,23,54] rfl rfl (fun K hK => ?_)) | (refine S_drw0 rfl [0,2,3,4,5,6,7,8,13,15,16,23,54] rfl (by kernel_rfl) rfl (fun K hK => ?_))); simp -dsimp -implicitDefEqProofs only [go_sem, hr, eq_self, ↓reduceIte]; (repeat' (first | (refine And.intro ?_ ?_) | (refine gs_both (fun hb => ?_) (fun hb => ?_) <;> (have hg := hb; (try simp only [nfb] at hg); simp -dsimp -implicitDefEqProofs only [go_sem, hr, hb, hg, eq_self, ↓reduceIte]; clear hb; (try simp only [nfe] at hg))))); any_goals ((first | (refine hK _ _ _ _ (fun hx => ?_)) | (refine hK _ _ _ _ (drawOk_names (fun i => i - k) (by simp only [List.map_cons, List.map_nil, shG, hr, ↓reduceIte, Nat.add_sub_cancel_left, Nat.sub_self]; rfl) (by decide +kernel) (by simp -dsimp -implicitDefEqProofs only [go_sem, hr, eq_self, ↓reduceIte])) (fun hx => ?_)) | (refine hK _ _ _ _ (drawOk_of (by kernel_rfl) (by simp -dsimp -implicitDefEqProofs only [go_sem, hr, eq_self, ↓reduceIte])) (fun hx => ?_))); clear hx hK; simp -dsimp -implicitDefEqProofs only [go_sem, hr, eq_self, ↓reduceIte]; (try simp (disch := omega) only [wrap_i64, wrap_u64, wrap_u32, wrap_u8]))) | omega))
      · refine C_ret rfl ?_; simp -dsimp -implicitDefEqProofs only [go_sem, hr, eq_self, ↓reduceIte]; refine ⟨_, rfl, ?_⟩
        rw [hR, if_neg (fun h => ht (by rw [(hT h.1).1]; exact h.2))]
        exact VLe.refl _
      · have hk : textOk r a b = true := by
          by_cases h : textOk r a b = true
          · exact h
          · have := hF h; omega
        refine C_ret rfl ?_; simp -dsimp -implicitDefEqProofs only [go_sem, hr, eq_self, ↓reduceIte]; refine ⟨_, rfl, ?_⟩
        rw [hR, if_pos ⟨hk, by rw [← (hT hk).1]; exact ht⟩]
        exact VLe.refl _
      · refine C_ret rfl ?_; simp -dsimp -implicitDefEqProofs only [go_sem, hr, eq_self, ↓reduceIte]; refine ⟨_, rfl, ?_⟩
        rw [hR, if_neg (fun h => hg (hT h.1).2)]
        exact VLe.refl _
  · simp at hlen3
theorem rdGo_at {s : List UInt8} {q : Nat} (h : q < 18) : rdGo s (18 - q) q = if nm q ++ [32] = s.take (nm q ++ [32]).length then rdRest q (s.drop (nm q ++ [32]).length) else rdGo s (18 - (q + 1)) (q + 1) := by
  have : 18 - q = (18 - (q + 1)) + 1 := by omega
  rw [this, rdGo]
theorem take_ne {p s : List UInt8} (h : s.length < p.length) : ¬ p = s.take p.length := fun e => by
  have := congrArg List.length e
  rw [List.length_take] at this; omega
theorem numP_hi (s : List UInt8) : -1 ≤ (numP s).1 ∧ (numP s).1 ≤ 9223372036854775807 := by
  by_cases h : 0 ≤ (numP s).1
  · obtain ⟨n, rest, h1, _, _, h2⟩ := numP_is (s := s) (a := (numP s).1) (j := (numP s).2) rfl h
    omega
  · refine ⟨?_, by omega⟩
    unfold numP numEnd
    split
    · exact Int.le_refl _
    · split
      · exact Int.le_refl _
      · show -1 ≤ (_ : Int); omega
theorem readR_c (s : List UInt8) (hs : s.length ≤ 200) : Pure Tryz.prog Γ 16 [.lit (.string (ByteArray.mk s.toArray))] (.tup [.agg (flt (readR s).1.1 (readR s).1.2.1 (readR s).1.2.2), .lit (.int .i64 (readR s).2)]) := by
  obtain ⟨R, hR0⟩ : ∃ R, R = readR s := ⟨_, rfl⟩
  rw [← hR0]
  refine Pure_at Tryz.func16 rfl 83 rfl (Nat.le_of_ble_eq_true rfl) rfl fun k => ?_
  (repeat' (first | (refine C_seq rfl ?_) | (refine C_block rfl ?_) | (refine C_skip rfl ?_; (try simp -dsimp -implicitDefEqProofs only [go_sem, eq_self, ↓reduceIte])) | (refine C_exit rfl ?_; (try simp -dsimp -implicitDefEqProofs only [go_sem, eq_self, ↓reduceIte])) | (refine C_cond rfl _ rfl (fun ht => ?_) (fun ht => ?_) <;> (try (simp only [nf] at ht)) <;> (try (exfalso; omega))) | ((first | (refine S_reg0 rfl [0,2,3,4,5,6,7,8,9,10,12,32,55,75] rfl rfl (fun K hK => ?_)) | (refine S_drw0 rfl [0,2,3,4,5,6,7,8,9,10,12,32,55,75] rfl (by kernel_rfl) rfl (fun K hK => ?_))); simp -dsimp -implicitDefEqProofs only [go_sem, eq_self, ↓reduceIte]; (repeat' (first | (refine And.intro ?_ ?_) | (refine gs_both (fun hb => ?_) (fun hb => ?_) <;> (have hg := hb; (try simp only [nfb] at hg); simp -dsimp -implicitDefEqProofs only [go_sem, hb, hg, eq_self, ↓reduceIte]; clear hb; (try simp only [nfe] at hg))))); any_goals ((first | (refine hK _ _ _ _ (fun hx => ?_)) | (refine hK _ _ _ _ (drawOk_names (fun i => i - k) (by simp only [List.map_cons, List.map_nil, shG, ↓reduceIte, Nat.add_sub_cancel_left, Nat.sub_self]; rfl) (by decide +kernel) (by simp -dsimp -implicitDefEqProofs only [go_sem, eq_self, ↓reduceIte])) (fun hx => ?_)) | (refine hK _ _ _ _ (drawOk_of (by kernel_rfl) (by simp -dsimp -implicitDefEqProofs only [go_sem, eq_self, ↓reduceIte])) (fun hx => ?_))); clear hx hK; simp -dsimp -implicitDefEqProofs only [go_sem, eq_self, ↓reduceIte]; (try simp (disch := omega) only [wrap_i64, wrap_u64, wrap_u32, wrap_u8]))) | omega))
  refine M_forO (X := Nat) rfl [0,2,3,4,5,6,7,8,9,10,12,32,55,75] (k + 1) (fun q => [(4, .lit (.int .i64 (q : Int)))]) (fun q => [(k, ⟨3, true, [flt 0 0 0]⟩)]) (fun q => 1 ≤ q ∧ q ≤ 18 ∧ R = rdGo s (18 - q) q) (fun q => 18 - q) 1 ?_ ⟨Nat.le_refl _, by omega, hR0⟩ ?_
  · simp -dsimp -implicitDefEqProofs only [go_sem, eq_self, ↓reduceIte]
    exact Mv.wk (wk_low (by omega) (by simp -dsimp -implicitDefEqProofs only [go_sem, List.map_append, List.map_cons, List.map_nil, eq_self, ↓reduceIte]) (by simp -dsimp -implicitDefEqProofs only [go_sem, List.map_append, List.map_cons, List.map_nil, eq_self, ↓reduceIte]) (by simp -dsimp -implicitDefEqProofs only [go_sem, List.map_append, List.map_cons, List.map_nil, eq_self, ↓reduceIte]) (by simp -dsimp -implicitDefEqProofs only [go_sem, List.map_append, List.map_cons, List.map_nil, eq_self, ↓reduceIte]))
  rintro q ⟨hq1, hq, hR⟩
  have hl := nm_len q
  obtain ⟨p, hp⟩ : ∃ p, nm q ++ [32] = p := ⟨_, rfl⟩
  have hpl : p.length = (nm q).length + 1 := by rw [← hp]; simp
  simp -dsimp -implicitDefEqProofs only [go_sem, eq_self, ↓reduceIte]
  (repeat' (first | (refine C_seq rfl ?_) | (refine C_block rfl ?_) | (refine C_skip rfl ?_; (try simp -dsimp -implicitDefEqProofs only [go_sem, eq_self, ↓reduceIte])) | (refine C_exit rfl ?_; (try simp -dsimp -implicitDefEqProofs only [go_sem, eq_self, ↓reduceIte])) | (refine C_cond rfl _ rfl (fun ht => ?_) (fun ht => ?_) <;> (try (simp only [nf] at ht)) <;> (try (exfalso; omega))) | ((first | (refine S_reg0 rfl [0,2,3,4,5,6,7,8,9,10,12,32,55,75] rfl rfl (fun K hK => ?_)) | (refine S_drw0 rfl [0,2,3,4,5,6,7,8,9,10,12,32,55,75] rfl (by kernel_rfl) rfl (fun K hK => ?_))); simp -dsimp -implicitDefEqProofs only [go_sem, eq_self, ↓reduceIte]; (repeat' (first | (refine And.intro ?_ ?_) | (refine gs_both (fun hb => ?_) (fun hb => ?_) <;> (have hg := hb; (try simp only [nfb] at hg); simp -dsimp -implicitDefEqProofs only [go_sem, hb, hg, eq_self, ↓reduceIte]; clear hb; (try simp only [nfe] at hg))))); any_goals ((first | (refine hK _ _ _ _ (fun hx => ?_)) | (refine hK _ _ _ _ (drawOk_names (fun i => i - k) (by simp only [List.map_cons, List.map_nil, shG, ↓reduceIte, Nat.add_sub_cancel_left, Nat.sub_self]; rfl) (by decide +kernel) (by simp -dsimp -implicitDefEqProofs only [go_sem, eq_self, ↓reduceIte])) (fun hx => ?_)) | (refine hK _ _ _ _ (drawOk_of (by kernel_rfl) (by simp -dsimp -implicitDefEqProofs only [go_sem, eq_self, ↓reduceIte])) (fun hx => ?_))); clear hx hK; simp -dsimp -implicitDefEqProofs only [go_sem, eq_self, ↓reduceIte]; (try simp (disch := omega) only [wrap_i64, wrap_u64, wrap_u32, wrap_u8]))) | omega))
  · rw [rdGo_at (by omega), hp] at hR
    refine S_reg rfl [0,2,3,4,5,6,7,8,9,10,12,32,55,75] [.ret (strs nmL)] rfl (fun K hK => ?_); simp -dsimp -implicitDefEqProofs only [go_sem, nmL_len, nmL_get, hp, eq_self, ↓reduceIte]; (repeat' (first | (refine And.intro ?_ ?_) | (refine gs_both (fun hb => ?_) (fun hb => ?_) <;> (have hg := hb; (try simp only [nfb] at hg); simp -dsimp -implicitDefEqProofs only [go_sem, nmL_len, nmL_get, hp, hb, hg, eq_self, ↓reduceIte]; clear hb; (try simp only [nfe] at hg))))); (any_goals ((refine hK _ _ _ _ (fun hx => ?_)); clear hx hK; simp -dsimp -implicitDefEqProofs only [go_sem, nmL_len, nmL_get, hp, eq_self, ↓reduceIte]; (try simp (disch := omega) only [wrap_i64, wrap_u64, wrap_u32, wrap_u8]))); (all_goals (try omega))
    · exact names_c
    have e2 : ((q + 1 : Nat) : Int) = (q : Int) + 1 := by omega
    (repeat' (first | (refine C_seq rfl ?_) | (refine C_block rfl ?_) | (refine C_skip rfl ?_; (try simp -dsimp -implicitDefEqProofs only [go_sem, eq_self, ↓reduceIte])) | (refine C_exit rfl ?_; (try simp -dsimp -implicitDefEqProofs only [go_sem, eq_self, ↓reduceIte])) | (refine C_cond rfl _ rfl (fun ht => ?_) (fun ht => ?_) <;> (try (simp only [nf] at ht)) <;> (try (exfalso; omega))) | ((first | (refine S_reg0 rfl [0,2,3,4,5,6,7,8,9,10,12,32,55,75] rfl rfl (fun K hK => ?_)) | (refine S_drw0 rfl [0,2,3,4,5,6,7,8,9,10,12,32,55,75] rfl (by kernel_rfl) rfl (fun K hK => ?_))); simp -dsimp -implicitDefEqProofs only [go_sem, eq_self, ↓reduceIte]; (repeat' (first | (refine And.intro ?_ ?_) | (refine gs_both (fun hb => ?_) (fun hb => ?_) <;> (have hg := hb; (try simp only [nfb] at hg); simp -dsimp -implicitDefEqProofs only [go_sem, hb, hg, eq_self, ↓reduceIte]; clear hb; (try simp only [nfe] at hg))))); any_goals ((first | (refine hK _ _ _ _ (fun hx => ?_)) | (refine hK _ _ _ _ (drawOk_names (fun i => i - k) (by simp only [List.map_cons, List.map_nil, shG, ↓reduceIte, Nat.add_sub_cancel_left, Nat.sub_self]; rfl) (by decide +kernel) (by simp -dsimp -implicitDefEqProofs only [go_sem, eq_self, ↓reduceIte])) (fun hx => ?_)) | (refine hK _ _ _ _ (drawOk_of (by kernel_rfl) (by simp -dsimp -implicitDefEqProofs only [go_sem, eq_self, ↓reduceIte])) (fun hx => ?_))); clear hx hK; simp -dsimp -implicitDefEqProofs only [go_sem, eq_self, ↓reduceIte]; (try simp (disch := omega) only [wrap_i64, wrap_u64, wrap_u32, wrap_u8]))) | omega))
    · rw [if_neg (fun e => ht e.symm)] at hR
      refine ⟨q + 1, ⟨by omega, by omega, hR⟩, by omega, ?_⟩
      rw [e2]
      exact Mv.wk (wk_low (by omega) (by simp -dsimp -implicitDefEqProofs only [go_sem, List.map_append, List.map_cons, List.map_nil, eq_self, ↓reduceIte]) (by simp -dsimp -implicitDefEqProofs only [go_sem, List.map_append, List.map_cons, List.map_nil, eq_self, ↓reduceIte]) (by simp -dsimp -implicitDefEqProofs only [go_sem, List.map_append, List.map_cons, List.map_nil, eq_self, ↓reduceIte]) (by simp -dsimp -implicitDefEqProofs only [go_sem, List.map_append, List.map_cons, List.map_nil, eq_self, ↓reduceIte]))
    · rw [if_pos ht.symm] at hR
      obtain ⟨rest, hrest⟩ : ∃ rest, s.drop p.length = rest := ⟨_, rfl⟩
      have hrl : rest.length ≤ 200 := by rw [← hrest, List.length_drop]; omega
      rw [hrest] at hR
      have hnl := numP_le rest
      have hnh := numP_hi rest
      unfold rdRest at hR
      have hc1 := number_c (Γ := Γ) rest (by omega)
      generalize numP rest = x at hR hnl hnh hc1
      obtain ⟨a, n⟩ := x
      simp only [] at hR hnl hnh hc1
      refine S_reg rfl [0,2,3,4,5,6,7,8,9,10,12,32,55,75] [.ret (.tup [.lit (.int .i64 a), .lit (.int .i64 (n : Int))])] rfl (fun K hK => ?_); simp -dsimp -implicitDefEqProofs only [go_sem, hrest, eq_self, ↓reduceIte]; (repeat' (first | (refine And.intro ?_ ?_) | (refine gs_both (fun hb => ?_) (fun hb => ?_) <;> (have hg := hb; (try simp only [nfb] at hg); simp -dsimp -implicitDefEqProofs only [go_sem, hrest, hb, hg, eq_self, ↓reduceIte]; clear hb; (try simp only [nfe] at hg))))); (any_goals ((refine hK _ _ _ _ (fun hx => ?_)); clear hx hK; simp -dsimp -implicitDefEqProofs only [go_sem, hrest, eq_self, ↓reduceIte]; (try simp (disch := omega) only [wrap_i64, wrap_u64, wrap_u32, wrap_u8]))); (all_goals (try omega))
      all_goals (try (exact hc1))
      have h32 : rest.getD n 0 = 32 ↔ ((rest.getD n 0).toNat : Int) = 32 := ⟨fun h => by rw [h]; rfl, fun h => UInt8.toNat_inj.1 (by have : (32 : UInt8).toNat = 32 := rfl; omega)⟩
      (repeat' (first | (refine C_seq rfl ?_) | (refine C_block rfl ?_) | (refine C_skip rfl ?_; (try simp -dsimp -implicitDefEqProofs only [go_sem, eq_self, ↓reduceIte])) | (refine C_exit rfl ?_; (try simp -dsimp -implicitDefEqProofs only [go_sem, eq_self, ↓reduceIte])) | (refine C_cond rfl _ rfl (fun ht => ?_) (fun ht => ?_) <;> (try (simp only [nf] at ht)) <;> (try (exfalso; omega))) | ((first | (refine S_reg0 rfl [0,2,3,4,5,6,7,8,9,10,12,32,55,75] rfl rfl (fun K hK => ?_)) | (refine S_drw0 rfl [0,2,3,4,5,6,7,8,9,10,12,32,55,75] rfl (by kernel_rfl) rfl (fun K hK => ?_))); simp -dsimp -implicitDefEqProofs only [go_sem, eq_self, ↓reduceIte]; (repeat' (first | (refine And.intro ?_ ?_) | (refine gs_both (fun hb => ?_) (fun hb => ?_) <;> (have hg := hb; (try simp only [nfb] at hg); simp -dsimp -implicitDefEqProofs only [go_sem, hb, hg, eq_self, ↓reduceIte]; clear hb; (try simp only [nfe] at hg))))); any_goals ((first | (refine hK _ _ _ _ (fun hx => ?_)) | (refine hK _ _ _ _ (drawOk_names (fun i => i - k) (by simp only [List.map_cons, List.map_nil, shG, ↓reduceIte, Nat.add_sub_cancel_left, Nat.sub_self]; rfl) (by decide +kernel) (by simp -dsimp -implicitDefEqProofs only [go_sem, eq_self, ↓reduceIte])) (fun hx => ?_)) | (refine hK _ _ _ _ (drawOk_of (by kernel_rfl) (by simp -dsimp -implicitDefEqProofs only [go_sem, eq_self, ↓reduceIte])) (fun hx => ?_))); clear hx hK; simp -dsimp -implicitDefEqProofs only [go_sem, eq_self, ↓reduceIte]; (try simp (disch := omega) only [wrap_i64, wrap_u64, wrap_u32, wrap_u8]))) | omega))
      · rw [if_pos (.inr (.inr (fun e => ht (h32.1 e))))] at hR
        refine C_ret rfl ?_; simp -dsimp -implicitDefEqProofs only [go_sem, eq_self, ↓reduceIte]; refine ⟨_, rfl, ?_⟩
        rw [hR]
        exact VLe.refl _
      · rw [if_neg (by rintro (h | h | h); (· omega); (· omega); (· exact h (h32.2 ht)))] at hR
        obtain ⟨rest2, hrest2⟩ : ∃ rest2, rest.drop (n + 1) = rest2 := ⟨_, rfl⟩
        have hrl2 : rest2.length ≤ 200 := by rw [← hrest2, List.length_drop]; omega
        rw [hrest2] at hR
        have hnl2 := numP_le rest2
        have hnh2 := numP_hi rest2
        have hc2 := number_c (Γ := Γ) rest2 (by omega)
        generalize numP rest2 = x at hR hnl2 hnh2 hc2
        obtain ⟨b, m⟩ := x
        simp only [] at hR hnl2 hnh2 hc2
        have e3 : ((n : Int) + 1).toNat = n + 1 := by omega
        have e4 : IntKind.i64.wrap ((n : Int) + 1) = (n : Int) + 1 := wrap_i64 (by omega) (by omega)
        refine S_reg rfl [0,2,3,4,5,6,7,8,9,10,12,32,55,75] [.ret (.tup [.lit (.int .i64 b), .lit (.int .i64 (m : Int))])] rfl (fun K hK => ?_); simp -dsimp -implicitDefEqProofs only [go_sem, e4, e3, hrest2, eq_self, ↓reduceIte]; (repeat' (first | (refine And.intro ?_ ?_) | (refine gs_both (fun hb => ?_) (fun hb => ?_) <;> (have hg := hb; (try simp only [nfb] at hg); simp -dsimp -implicitDefEqProofs only [go_sem, e4, e3, hrest2, hb, hg, eq_self, ↓reduceIte]; clear hb; (try simp only [nfe] at hg))))); (any_goals ((refine hK _ _ _ _ (fun hx => ?_)); clear hx hK; simp -dsimp -implicitDefEqProofs only [go_sem, e4, e3, hrest2, eq_self, ↓reduceIte]; (try simp (disch := omega) only [wrap_i64, wrap_u64, wrap_u32, wrap_u8]))); (all_goals (try omega))
        all_goals (try (exact hc2))
        (repeat' (first | (refine C_seq rfl ?_) | (refine C_block rfl ?_) | (refine C_skip rfl ?_; (try simp -dsimp -implicitDefEqProofs only [go_sem, eq_self, ↓reduceIte])) | (refine C_exit rfl ?_; (try simp -dsimp -implicitDefEqProofs only [go_sem, eq_self, ↓reduceIte])) | (refine C_cond rfl _ rfl (fun ht => ?_) (fun ht => ?_) <;> (try (simp only [nf] at ht)) <;> (try (exfalso; omega))) | ((first | (refine S_reg0 rfl [0,2,3,4,5,6,7,8,9,10,12,32,55,75] rfl rfl (fun K hK => ?_)) | (refine S_drw0 rfl [0,2,3,4,5,6,7,8,9,10,12,32,55,75] rfl (by kernel_rfl) rfl (fun K hK => ?_))); simp -dsimp -implicitDefEqProofs only [go_sem, eq_self, ↓reduceIte]; (repeat' (first | (refine And.intro ?_ ?_) | (refine gs_both (fun hb => ?_) (fun hb => ?_) <;> (have hg := hb; (try simp only [nfb] at hg); simp -dsimp -implicitDefEqProofs only [go_sem, hb, hg, eq_self, ↓reduceIte]; clear hb; (try simp only [nfe] at hg))))); any_goals ((first | (refine hK _ _ _ _ (fun hx => ?_)) | (refine hK _ _ _ _ (drawOk_names (fun i => i - k) (by simp only [List.map_cons, List.map_nil, shG, ↓reduceIte, Nat.add_sub_cancel_left, Nat.sub_self]; rfl) (by decide +kernel) (by simp -dsimp -implicitDefEqProofs only [go_sem, eq_self, ↓reduceIte])) (fun hx => ?_)) | (refine hK _ _ _ _ (drawOk_of (by kernel_rfl) (by simp -dsimp -implicitDefEqProofs only [go_sem, eq_self, ↓reduceIte])) (fun hx => ?_))); clear hx hK; simp -dsimp -implicitDefEqProofs only [go_sem, eq_self, ↓reduceIte]; (try simp (disch := omega) only [wrap_i64, wrap_u64, wrap_u32, wrap_u8]))) | omega))
        · rw [if_pos (by omega)] at hR
          refine C_ret rfl ?_; simp -dsimp -implicitDefEqProofs only [go_sem, eq_self, ↓reduceIte]; refine ⟨_, rfl, ?_⟩
          rw [hR]
          exact VLe.refl _
        · rw [if_neg (by omega)] at hR
          refine C_ret rfl ?_; simp -dsimp -implicitDefEqProofs only [go_sem, eq_self, ↓reduceIte]; refine ⟨_, rfl, ?_⟩
          rw [hR]
          exact VLe.refl _
        · rw [if_pos (by omega)] at hR
          refine C_ret rfl ?_; simp -dsimp -implicitDefEqProofs only [go_sem, eq_self, ↓reduceIte]; refine ⟨_, rfl, ?_⟩
          rw [hR]
          exact VLe.refl _
      all_goals (rw [if_pos (by omega)] at hR)
      all_goals (refine C_ret rfl ?_; simp -dsimp -implicitDefEqProofs only [go_sem, eq_self, ↓reduceIte]; refine ⟨_, rfl, ?_⟩)
      all_goals (rw [hR])
      all_goals (exact VLe.refl _)
    · rw [if_neg (take_ne (by omega))] at hR
      refine ⟨q + 1, ⟨by omega, by omega, hR⟩, by omega, ?_⟩
      rw [e2]
      exact Mv.wk (wk_low (by omega) (by simp -dsimp -implicitDefEqProofs only [go_sem, List.map_append, List.map_cons, List.map_nil, eq_self, ↓reduceIte]) (by simp -dsimp -implicitDefEqProofs only [go_sem, List.map_append, List.map_cons, List.map_nil, eq_self, ↓reduceIte]) (by simp -dsimp -implicitDefEqProofs only [go_sem, List.map_append, List.map_cons, List.map_nil, eq_self, ↓reduceIte]) (by simp -dsimp -implicitDefEqProofs only [go_sem, List.map_append, List.map_cons, List.map_nil, eq_self, ↓reduceIte]))
  · have hq18 : q = 18 := by omega
    subst hq18
    (repeat' (first | (refine C_seq rfl ?_) | (refine C_block rfl ?_) | (refine C_skip rfl ?_; (try simp -dsimp -implicitDefEqProofs only [go_sem, eq_self, ↓reduceIte])) | (refine C_exit rfl ?_; (try simp -dsimp -implicitDefEqProofs only [go_sem, eq_self, ↓reduceIte])) | (refine C_cond rfl _ rfl (fun ht => ?_) (fun ht => ?_) <;> (try (simp only [nf] at ht)) <;> (try (exfalso; omega))) | ((first | (refine S_reg0 rfl [0,2,3,4,5,6,7,8,9,10,12,32,55,75] rfl rfl (fun K hK => ?_)) | (refine S_drw0 rfl [0,2,3,4,5,6,7,8,9,10,12,32,55,75] rfl (by kernel_rfl) rfl (fun K hK => ?_))); simp -dsimp -implicitDefEqProofs only [go_sem, eq_self, ↓reduceIte]; (repeat' (first | (refine And.intro ?_ ?_) | (refine gs_both (fun hb => ?_) (fun hb => ?_) <;> (have hg := hb; (try simp only [nfb] at hg); simp -dsimp -implicitDefEqProofs only [go_sem, hb, hg, eq_self, ↓reduceIte]; clear hb; (try simp only [nfe] at hg))))); any_goals ((first | (refine hK _ _ _ _ (fun hx => ?_)) | (refine hK _ _ _ _ (drawOk_names (fun i => i - k) (by simp only [List.map_cons, List.map_nil, shG, ↓reduceIte, Nat.add_sub_cancel_left, Nat.sub_self]; rfl) (by decide +kernel) (by simp -dsimp -implicitDefEqProofs only [go_sem, eq_self, ↓reduceIte])) (fun hx => ?_)) | (refine hK _ _ _ _ (drawOk_of (by kernel_rfl) (by simp -dsimp -implicitDefEqProofs only [go_sem, eq_self, ↓reduceIte])) (fun hx => ?_))); clear hx hK; simp -dsimp -implicitDefEqProofs only [go_sem, eq_self, ↓reduceIte]; (try simp (disch := omega) only [wrap_i64, wrap_u64, wrap_u32, wrap_u8]))) | omega))
    refine C_ret rfl ?_; simp -dsimp -implicitDefEqProofs only [go_sem, eq_self, ↓reduceIte]; refine ⟨_, rfl, ?_⟩
    rw [hR]
    exact VLe.refl _
end Go.Proofs.T
end

section
set_option linter.unusedVariables false
set_option linter.unusedSimpArgs false
namespace Go.Proofs.T
open Go Go.AM Go.Proofs Go.Lib
set_option linter.unusedSimpArgs false
set_option linter.unusedVariables false
set_option maxRecDepth 4000
variable {Γ : List (Nat × List AVal)}
theorem tells_c (hG : GT Γ) (r : Nat) (a b : Int) (s : List UInt8) (hr : r < 256) (ha : a ≤ 9223372036854775807) (hb : b ≤ 9223372036854775807) :
    Pure Tryz.prog Γ 5 [.agg (flt r a b), .lit (.string (ByteArray.mk s.toArray))] (.lit (.bool true)) := by
  have hE := read_eq s
  refine Pure_at Tryz.func5 rfl 70 rfl (Nat.le_of_ble_eq_true rfl) rfl fun k => ?_
  (repeat' (first | (refine C_seq rfl ?_) | (refine C_block rfl ?_) | (refine C_skip rfl ?_; (try simp -dsimp -implicitDefEqProofs only [go_sem, nmL_len, nmL_get, eq_self, ↓reduceIte])) | (refine C_exit rfl ?_; (try simp -dsimp -implicitDefEqProofs only [go_sem, nmL_len, nmL_get, eq_self, ↓reduceIte])) | (refine C_cond rfl _ rfl (fun ht => ?_) (fun ht => ?_) <;> (try (simp only [nf] at ht)) <;> (try (exfalso; omega))) | ((first | (refine S_reg0 rfl [0,1,2,4,5,6,7,8,9,10,11,12,13,16,19] rfl rfl (fun K hK => ?_)) | (refine S_drw0 rfl [0,1,2,4,5,6,7,8,9,10,11,12,13,16,19] rfl (by kernel_rfl) rfl (fun K hK => ?_))); simp -dsimp -implicitDefEqProofs only [go_sem, nmL_len, nmL_get, eq_self, ↓reduceIte]; (repeat' (first | (refine And.intro ?_ ?_) | (refine gs_both (fun hb => ?_) (fun hb => ?_) <;> (have hg := hb; (try simp only [nfb] at hg); simp -dsimp -implicitDefEqProofs only [go_sem, nmL_len, nmL_get, hb, hg, eq_self, ↓reduceIte]; clear hb; (try simp only [nfe] at hg))))); any_goals ((first | (refine hK _ _ _ _ (fun hx => ?_)) | (refine hK _ _ _ _ (drawOk_names (fun i => i - k) (by simp only [List.map_cons, List.map_nil, shG, nmL_len, nmL_get, ↓reduceIte, Nat.add_sub_cancel_left, Nat.sub_self]; rfl) (by decide +kernel) (by simp -dsimp -implicitDefEqProofs only [go_sem, nmL_len, nmL_get, eq_self, ↓reduceIte])) (fun hx => ?_)) | (refine hK _ _ _ _ (drawOk_of (by kernel_rfl) (by simp -dsimp -implicitDefEqProofs only [go_sem, nmL_len, nmL_get, eq_self, ↓reduceIte])) (fun hx => ?_))); clear hx hK; simp -dsimp -implicitDefEqProofs only [go_sem, nmL_len, nmL_get, eq_self, ↓reduceIte]; (try simp (disch := omega) only [wrap_i64, wrap_u64, wrap_u32, wrap_u8]))) | omega))
  · refine C_ret rfl ⟨_, rfl, VLe.of_eq ?_⟩
    rfl
  · refine S_drw rfl [0,1,2,4,5,6,7,8,9,10,11,12,13,16,19] [.ret (strs nmL)] (by kernel_rfl) rfl (fun K hK => ?_); simp -dsimp -implicitDefEqProofs only [go_sem, nmL_len, nmL_get, eq_self, ↓reduceIte]; (repeat' (first | (refine And.intro ?_ ?_) | (refine gs_both (fun hb => ?_) (fun hb => ?_) <;> (have hg := hb; (try simp only [nfb] at hg); simp -dsimp -implicitDefEqProofs only [go_sem, nmL_len, nmL_get, hb, hg, eq_self, ↓reduceIte]; clear hb; (try simp only [nfe] at hg))))); (any_goals ((first | (refine hK _ _ _ _ (drawOk_names (fun i => i - k) (by simp only [List.map_cons, List.map_nil, shG, nmL_len, nmL_get, ↓reduceIte, Nat.add_sub_cancel_left, Nat.sub_self]; rfl) (by decide +kernel) (by simp -dsimp -implicitDefEqProofs only [go_sem, nmL_len, nmL_get, eq_self, ↓reduceIte])) (fun hx => ?_)) | (refine hK _ _ _ _ (drawOk_of (by kernel_rfl) (by simp -dsimp -implicitDefEqProofs only [go_sem, nmL_len, nmL_get, eq_self, ↓reduceIte])) (fun hx => ?_))); clear hx hK; simp -dsimp -implicitDefEqProofs only [go_sem, nmL_len, nmL_get, eq_self, ↓reduceIte]; (try simp (disch := omega) only [wrap_i64, wrap_u64, wrap_u32, wrap_u8]))); (all_goals (try omega))
    · exact names_c
    all_goals ((repeat' (first | (refine C_seq rfl ?_) | (refine C_block rfl ?_) | (refine C_skip rfl ?_; (try simp -dsimp -implicitDefEqProofs only [go_sem, nmL_len, nmL_get, eq_self, ↓reduceIte])) | (refine C_exit rfl ?_; (try simp -dsimp -implicitDefEqProofs only [go_sem, nmL_len, nmL_get, eq_self, ↓reduceIte])) | (refine C_cond rfl _ rfl (fun ht => ?_) (fun ht => ?_) <;> (try (simp only [nf] at ht)) <;> (try (exfalso; omega))) | ((first | (refine S_reg0 rfl [0,1,2,4,5,6,7,8,9,10,11,12,13,16,19] rfl rfl (fun K hK => ?_)) | (refine S_drw0 rfl [0,1,2,4,5,6,7,8,9,10,11,12,13,16,19] rfl (by kernel_rfl) rfl (fun K hK => ?_))); simp -dsimp -implicitDefEqProofs only [go_sem, nmL_len, nmL_get, eq_self, ↓reduceIte]; (repeat' (first | (refine And.intro ?_ ?_) | (refine gs_both (fun hb => ?_) (fun hb => ?_) <;> (have hg := hb; (try simp only [nfb] at hg); simp -dsimp -implicitDefEqProofs only [go_sem, nmL_len, nmL_get, hb, hg, eq_self, ↓reduceIte]; clear hb; (try simp only [nfe] at hg))))); any_goals ((first | (refine hK _ _ _ _ (fun hx => ?_)) | (refine hK _ _ _ _ (drawOk_names (fun i => i - k) (by simp only [List.map_cons, List.map_nil, shG, nmL_len, nmL_get, ↓reduceIte, Nat.add_sub_cancel_left, Nat.sub_self]; rfl) (by decide +kernel) (by simp -dsimp -implicitDefEqProofs only [go_sem, nmL_len, nmL_get, eq_self, ↓reduceIte])) (fun hx => ?_)) | (refine hK _ _ _ _ (drawOk_of (by kernel_rfl) (by simp -dsimp -implicitDefEqProofs only [go_sem, nmL_len, nmL_get, eq_self, ↓reduceIte])) (fun hx => ?_))); clear hx hK; simp -dsimp -implicitDefEqProofs only [go_sem, nmL_len, nmL_get, eq_self, ↓reduceIte]; (try simp (disch := omega) only [wrap_i64, wrap_u64, wrap_u32, wrap_u8]))) | omega)))
    refine S_reg rfl [0,1,2,4,5,6,7,8,9,10,11,12,13,16,19] [.ret (.tup [.lit (.string (ByteArray.mk (textT r a b).toArray)), .lit (.int .i64 (textE r a b))])] rfl (fun K hK => ?_); simp -dsimp -implicitDefEqProofs only [go_sem, nmL_len, nmL_get, eq_self, ↓reduceIte]; (repeat' (first | (refine And.intro ?_ ?_) | (refine gs_both (fun hb => ?_) (fun hb => ?_) <;> (have hg := hb; (try simp only [nfb] at hg); simp -dsimp -implicitDefEqProofs only [go_sem, nmL_len, nmL_get, hb, hg, eq_self, ↓reduceIte]; clear hb; (try simp only [nfe] at hg))))); (any_goals ((refine hK _ _ _ _ (fun hx => ?_)); clear hx hK; simp -dsimp -implicitDefEqProofs only [go_sem, nmL_len, nmL_get, eq_self, ↓reduceIte]; (try simp (disch := omega) only [wrap_i64, wrap_u64, wrap_u32, wrap_u8]))); (all_goals (try omega))
    · exact text_c hG r a b hr ha hb
    (repeat' (first | (refine C_seq rfl ?_) | (refine C_block rfl ?_) | (refine C_skip rfl ?_; (try simp -dsimp -implicitDefEqProofs only [go_sem, nmL_len, nmL_get, eq_self, ↓reduceIte])) | (refine C_exit rfl ?_; (try simp -dsimp -implicitDefEqProofs only [go_sem, nmL_len, nmL_get, eq_self, ↓reduceIte])) | (refine C_cond rfl _ rfl (fun ht => ?_) (fun ht => ?_) <;> (try (simp only [nf] at ht)) <;> (try (exfalso; omega))) | ((first | (refine S_reg0 rfl [0,1,2,4,5,6,7,8,9,10,11,12,13,16,19] rfl rfl (fun K hK => ?_)) | (refine S_drw0 rfl [0,1,2,4,5,6,7,8,9,10,11,12,13,16,19] rfl (by kernel_rfl) rfl (fun K hK => ?_))); simp -dsimp -implicitDefEqProofs only [go_sem, nmL_len, nmL_get, eq_self, ↓reduceIte]; (repeat' (first | (refine And.intro ?_ ?_) | (refine gs_both (fun hb => ?_) (fun hb => ?_) <;> (have hg := hb; (try simp only [nfb] at hg); simp -dsimp -implicitDefEqProofs only [go_sem, nmL_len, nmL_get, hb, hg, eq_self, ↓reduceIte]; clear hb; (try simp only [nfe] at hg))))); any_goals ((first | (refine hK _ _ _ _ (fun hx => ?_)) | (refine hK _ _ _ _ (drawOk_names (fun i => i - k) (by simp only [List.map_cons, List.map_nil, shG, nmL_len, nmL_get, ↓reduceIte, Nat.add_sub_cancel_left, Nat.sub_self]; rfl) (by decide +kernel) (by simp -dsimp -implicitDefEqProofs only [go_sem, nmL_len, nmL_get, eq_self, ↓reduceIte])) (fun hx => ?_)) | (refine hK _ _ _ _ (drawOk_of (by kernel_rfl) (by simp -dsimp -implicitDefEqProofs only [go_sem, nmL_len, nmL_get, eq_self, ↓reduceIte])) (fun hx => ?_))); clear hx hK; simp -dsimp -implicitDefEqProofs only [go_sem, nmL_len, nmL_get, eq_self, ↓reduceIte]; (try simp (disch := omega) only [wrap_i64, wrap_u64, wrap_u32, wrap_u8]))) | omega))
    refine S_reg rfl [0,1,2,4,5,6,7,8,9,10,11,12,13,16,19] [.ret (.tup [.lit (.string (ByteArray.mk (textT r a b).toArray)), .lit (.int .i64 (textE r a b))])] rfl (fun K hK => ?_); simp -dsimp -implicitDefEqProofs only [go_sem, nmL_len, nmL_get, eq_self, ↓reduceIte]; (repeat' (first | (refine And.intro ?_ ?_) | (refine gs_both (fun hb => ?_) (fun hb => ?_) <;> (have hg := hb; (try simp only [nfb] at hg); simp -dsimp -implicitDefEqProofs only [go_sem, nmL_len, nmL_get, hb, hg, eq_self, ↓reduceIte]; clear hb; (try simp only [nfe] at hg))))); (any_goals ((refine hK _ _ _ _ (fun hx => ?_)); clear hx hK; simp -dsimp -implicitDefEqProofs only [go_sem, nmL_len, nmL_get, eq_self, ↓reduceIte]; (try simp (disch := omega) only [wrap_i64, wrap_u64, wrap_u32, wrap_u8]))); (all_goals (try omega))
    · exact textR_c r a b hr ha hb
    (repeat' (first | (refine C_seq rfl ?_) | (refine C_block rfl ?_) | (refine C_skip rfl ?_; (try simp -dsimp -implicitDefEqProofs only [go_sem, nmL_len, nmL_get, eq_self, ↓reduceIte])) | (refine C_exit rfl ?_; (try simp -dsimp -implicitDefEqProofs only [go_sem, nmL_len, nmL_get, eq_self, ↓reduceIte])) | (refine C_cond rfl _ rfl (fun ht => ?_) (fun ht => ?_) <;> (try (simp only [nf] at ht)) <;> (try (exfalso; omega))) | ((first | (refine S_reg0 rfl [0,1,2,4,5,6,7,8,9,10,11,12,13,16,19] rfl rfl (fun K hK => ?_)) | (refine S_drw0 rfl [0,1,2,4,5,6,7,8,9,10,11,12,13,16,19] rfl (by kernel_rfl) rfl (fun K hK => ?_))); simp -dsimp -implicitDefEqProofs only [go_sem, nmL_len, nmL_get, eq_self, ↓reduceIte]; (repeat' (first | (refine And.intro ?_ ?_) | (refine gs_both (fun hb => ?_) (fun hb => ?_) <;> (have hg := hb; (try simp only [nfb] at hg); simp -dsimp -implicitDefEqProofs only [go_sem, nmL_len, nmL_get, hb, hg, eq_self, ↓reduceIte]; clear hb; (try simp only [nfe] at hg))))); any_goals ((first | (refine hK _ _ _ _ (fun hx => ?_)) | (refine hK _ _ _ _ (drawOk_names (fun i => i - k) (by simp only [List.map_cons, List.map_nil, shG, nmL_len, nmL_get, ↓reduceIte, Nat.add_sub_cancel_left, Nat.sub_self]; rfl) (by decide +kernel) (by simp -dsimp -implicitDefEqProofs only [go_sem, nmL_len, nmL_get, eq_self, ↓reduceIte])) (fun hx => ?_)) | (refine hK _ _ _ _ (drawOk_of (by kernel_rfl) (by simp -dsimp -implicitDefEqProofs only [go_sem, nmL_len, nmL_get, eq_self, ↓reduceIte])) (fun hx => ?_))); clear hx hK; simp -dsimp -implicitDefEqProofs only [go_sem, nmL_len, nmL_get, eq_self, ↓reduceIte]; (try simp (disch := omega) only [wrap_i64, wrap_u64, wrap_u32, wrap_u8]))) | omega))
    refine S_reg rfl [0,1,2,4,5,6,7,8,9,10,11,12,13,16,19] [.ret (.tup [.agg (flt (readP s).1.1 (readP s).1.2.1 (readP s).1.2.2), .lit (.int .i64 (readP s).2)])] rfl (fun K hK => ?_); simp -dsimp -implicitDefEqProofs only [go_sem, nmL_len, nmL_get, eq_self, ↓reduceIte]; (repeat' (first | (refine And.intro ?_ ?_) | (refine gs_both (fun hb => ?_) (fun hb => ?_) <;> (have hg := hb; (try simp only [nfb] at hg); simp -dsimp -implicitDefEqProofs only [go_sem, nmL_len, nmL_get, hb, hg, eq_self, ↓reduceIte]; clear hb; (try simp only [nfe] at hg))))); (any_goals ((refine hK _ _ _ _ (fun hx => ?_)); clear hx hK; simp -dsimp -implicitDefEqProofs only [go_sem, nmL_len, nmL_get, eq_self, ↓reduceIte]; (try simp (disch := omega) only [wrap_i64, wrap_u64, wrap_u32, wrap_u8]))); (all_goals (try omega))
    · exact read_c hG s (by omega)
    (repeat' (first | (refine C_seq rfl ?_) | (refine C_block rfl ?_) | (refine C_skip rfl ?_; (try simp -dsimp -implicitDefEqProofs only [go_sem, nmL_len, nmL_get, eq_self, ↓reduceIte])) | (refine C_exit rfl ?_; (try simp -dsimp -implicitDefEqProofs only [go_sem, nmL_len, nmL_get, eq_self, ↓reduceIte])) | (refine C_cond rfl _ rfl (fun ht => ?_) (fun ht => ?_) <;> (try (simp only [nf] at ht)) <;> (try (exfalso; omega))) | ((first | (refine S_reg0 rfl [0,1,2,4,5,6,7,8,9,10,11,12,13,16,19] rfl rfl (fun K hK => ?_)) | (refine S_drw0 rfl [0,1,2,4,5,6,7,8,9,10,11,12,13,16,19] rfl (by kernel_rfl) rfl (fun K hK => ?_))); simp -dsimp -implicitDefEqProofs only [go_sem, nmL_len, nmL_get, eq_self, ↓reduceIte]; (repeat' (first | (refine And.intro ?_ ?_) | (refine gs_both (fun hb => ?_) (fun hb => ?_) <;> (have hg := hb; (try simp only [nfb] at hg); simp -dsimp -implicitDefEqProofs only [go_sem, nmL_len, nmL_get, hb, hg, eq_self, ↓reduceIte]; clear hb; (try simp only [nfe] at hg))))); any_goals ((first | (refine hK _ _ _ _ (fun hx => ?_)) | (refine hK _ _ _ _ (drawOk_names (fun i => i - k) (by simp only [List.map_cons, List.map_nil, shG, nmL_len, nmL_get, ↓reduceIte, Nat.add_sub_cancel_left, Nat.sub_self]; rfl) (by decide +kernel) (by simp -dsimp -implicitDefEqProofs only [go_sem, nmL_len, nmL_get, eq_self, ↓reduceIte])) (fun hx => ?_)) | (refine hK _ _ _ _ (drawOk_of (by kernel_rfl) (by simp -dsimp -implicitDefEqProofs only [go_sem, nmL_len, nmL_get, eq_self, ↓reduceIte])) (fun hx => ?_))); clear hx hK; simp -dsimp -implicitDefEqProofs only [go_sem, nmL_len, nmL_get, eq_self, ↓reduceIte]; (try simp (disch := omega) only [wrap_i64, wrap_u64, wrap_u32, wrap_u8]))) | omega))
    refine S_reg rfl [0,1,2,4,5,6,7,8,9,10,11,12,13,16,19] [.ret (.tup [.agg (flt (readP s).1.1 (readP s).1.2.1 (readP s).1.2.2), .lit (.int .i64 (readP s).2)])] rfl (fun K hK => ?_); simp -dsimp -implicitDefEqProofs only [go_sem, nmL_len, nmL_get, eq_self, ↓reduceIte]; (repeat' (first | (refine And.intro ?_ ?_) | (refine gs_both (fun hb => ?_) (fun hb => ?_) <;> (have hg := hb; (try simp only [nfb] at hg); simp -dsimp -implicitDefEqProofs only [go_sem, nmL_len, nmL_get, hb, hg, eq_self, ↓reduceIte]; clear hb; (try simp only [nfe] at hg))))); (any_goals ((refine hK _ _ _ _ (fun hx => ?_)); clear hx hK; simp -dsimp -implicitDefEqProofs only [go_sem, nmL_len, nmL_get, eq_self, ↓reduceIte]; (try simp (disch := omega) only [wrap_i64, wrap_u64, wrap_u32, wrap_u8]))); (all_goals (try omega))
    · rw [← hE]; exact readR_c s (by omega)
    (repeat' (first | (refine C_seq rfl ?_) | (refine C_block rfl ?_) | (refine C_skip rfl ?_; (try simp -dsimp -implicitDefEqProofs only [go_sem, nmL_len, nmL_get, eq_self, ↓reduceIte])) | (refine C_exit rfl ?_; (try simp -dsimp -implicitDefEqProofs only [go_sem, nmL_len, nmL_get, eq_self, ↓reduceIte])) | (refine C_cond rfl _ rfl (fun ht => ?_) (fun ht => ?_) <;> (try (simp only [nf] at ht)) <;> (try (exfalso; omega))) | ((first | (refine S_reg0 rfl [0,1,2,4,5,6,7,8,9,10,11,12,13,16,19] rfl rfl (fun K hK => ?_)) | (refine S_drw0 rfl [0,1,2,4,5,6,7,8,9,10,11,12,13,16,19] rfl (by kernel_rfl) rfl (fun K hK => ?_))); simp -dsimp -implicitDefEqProofs only [go_sem, nmL_len, nmL_get, eq_self, ↓reduceIte]; (repeat' (first | (refine And.intro ?_ ?_) | (refine gs_both (fun hb => ?_) (fun hb => ?_) <;> (have hg := hb; (try simp only [nfb] at hg); simp -dsimp -implicitDefEqProofs only [go_sem, nmL_len, nmL_get, hb, hg, eq_self, ↓reduceIte]; clear hb; (try simp only [nfe] at hg))))); any_goals ((first | (refine hK _ _ _ _ (fun hx => ?_)) | (refine hK _ _ _ _ (drawOk_names (fun i => i - k) (by simp only [List.map_cons, List.map_nil, shG, nmL_len, nmL_get, ↓reduceIte, Nat.add_sub_cancel_left, Nat.sub_self]; rfl) (by decide +kernel) (by simp -dsimp -implicitDefEqProofs only [go_sem, nmL_len, nmL_get, eq_self, ↓reduceIte])) (fun hx => ?_)) | (refine hK _ _ _ _ (drawOk_of (by kernel_rfl) (by simp -dsimp -implicitDefEqProofs only [go_sem, nmL_len, nmL_get, eq_self, ↓reduceIte])) (fun hx => ?_))); clear hx hK; simp -dsimp -implicitDefEqProofs only [go_sem, nmL_len, nmL_get, eq_self, ↓reduceIte]; (try simp (disch := omega) only [wrap_i64, wrap_u64, wrap_u32, wrap_u8]))) | omega))
    refine S_reg rfl [0,1,2,4,5,6,7,8,9,10,11,12,13,16,19] [.ret (.lit (.string (ByteArray.mk (nm r).toArray)))] rfl (fun K hK => ?_); simp -dsimp -implicitDefEqProofs only [go_sem, nmL_len, nmL_get, eq_self, ↓reduceIte]; (repeat' (first | (refine And.intro ?_ ?_) | (refine gs_both (fun hb => ?_) (fun hb => ?_) <;> (have hg := hb; (try simp only [nfb] at hg); simp -dsimp -implicitDefEqProofs only [go_sem, nmL_len, nmL_get, hb, hg, eq_self, ↓reduceIte]; clear hb; (try simp only [nfe] at hg))))); (any_goals ((refine hK _ _ _ _ (fun hx => ?_)); clear hx hK; simp -dsimp -implicitDefEqProofs only [go_sem, nmL_len, nmL_get, eq_self, ↓reduceIte]; (try simp (disch := omega) only [wrap_i64, wrap_u64, wrap_u32, wrap_u8]))); (all_goals (try omega))
    · exact name_c r hr
    (repeat' (first | (refine C_seq rfl ?_) | (refine C_block rfl ?_) | (refine C_skip rfl ?_; (try simp -dsimp -implicitDefEqProofs only [go_sem, nmL_len, nmL_get, eq_self, ↓reduceIte])) | (refine C_exit rfl ?_; (try simp -dsimp -implicitDefEqProofs only [go_sem, nmL_len, nmL_get, eq_self, ↓reduceIte])) | (refine C_cond rfl _ rfl (fun ht => ?_) (fun ht => ?_) <;> (try (simp only [nf] at ht)) <;> (try (exfalso; omega))) | ((first | (refine S_reg0 rfl [0,1,2,4,5,6,7,8,9,10,11,12,13,16,19] rfl rfl (fun K hK => ?_)) | (refine S_drw0 rfl [0,1,2,4,5,6,7,8,9,10,11,12,13,16,19] rfl (by kernel_rfl) rfl (fun K hK => ?_))); simp -dsimp -implicitDefEqProofs only [go_sem, nmL_len, nmL_get, eq_self, ↓reduceIte]; (repeat' (first | (refine And.intro ?_ ?_) | (refine gs_both (fun hb => ?_) (fun hb => ?_) <;> (have hg := hb; (try simp only [nfb] at hg); simp -dsimp -implicitDefEqProofs only [go_sem, nmL_len, nmL_get, hb, hg, eq_self, ↓reduceIte]; clear hb; (try simp only [nfe] at hg))))); any_goals ((first | (refine hK _ _ _ _ (fun hx => ?_)) | (refine hK _ _ _ _ (drawOk_names (fun i => i - k) (by simp only [List.map_cons, List.map_nil, shG, nmL_len, nmL_get, ↓reduceIte, Nat.add_sub_cancel_left, Nat.sub_self]; rfl) (by decide +kernel) (by simp -dsimp -implicitDefEqProofs only [go_sem, nmL_len, nmL_get, eq_self, ↓reduceIte])) (fun hx => ?_)) | (refine hK _ _ _ _ (drawOk_of (by kernel_rfl) (by simp -dsimp -implicitDefEqProofs only [go_sem, nmL_len, nmL_get, eq_self, ↓reduceIte])) (fun hx => ?_))); clear hx hK; simp -dsimp -implicitDefEqProofs only [go_sem, nmL_len, nmL_get, eq_self, ↓reduceIte]; (try simp (disch := omega) only [wrap_i64, wrap_u64, wrap_u32, wrap_u8]))) | omega))
    refine C_ret rfl ⟨_, rfl, VLe.of_eq ?_⟩
    rfl
  · have hnB : nm r = [] := nm_big (by omega)
    refine S_reg rfl [0,1,2,4,5,6,7,8,9,10,11,12,13,16,19] [.ret (.tup [.lit (.string (ByteArray.mk (textT r a b).toArray)), .lit (.int .i64 (textE r a b))])] rfl (fun K hK => ?_); simp -dsimp -implicitDefEqProofs only [go_sem, hnB, eq_self, ↓reduceIte]; (repeat' (first | (refine And.intro ?_ ?_) | (refine gs_both (fun hb => ?_) (fun hb => ?_) <;> (have hg := hb; (try simp only [nfb] at hg); simp -dsimp -implicitDefEqProofs only [go_sem, hnB, hb, hg, eq_self, ↓reduceIte]; clear hb; (try simp only [nfe] at hg))))); (any_goals ((refine hK _ _ _ _ (fun hx => ?_)); clear hx hK; simp -dsimp -implicitDefEqProofs only [go_sem, hnB, eq_self, ↓reduceIte]; (try simp (disch := omega) only [wrap_i64, wrap_u64, wrap_u32, wrap_u8]))); (all_goals (try omega))
    · exact text_c hG r a b hr ha hb
    (repeat' (first | (refine C_seq rfl ?_) | (refine C_block rfl ?_) | (refine C_skip rfl ?_; (try simp -dsimp -implicitDefEqProofs only [go_sem, hnB, eq_self, ↓reduceIte])) | (refine C_exit rfl ?_; (try simp -dsimp -implicitDefEqProofs only [go_sem, hnB, eq_self, ↓reduceIte])) | (refine C_cond rfl _ rfl (fun ht => ?_) (fun ht => ?_) <;> (try (simp only [nf] at ht)) <;> (try (exfalso; omega))) | ((first | (refine S_reg0 rfl [0,1,2,4,5,6,7,8,9,10,11,12,13,16,19] rfl rfl (fun K hK => ?_)) | (refine S_drw0 rfl [0,1,2,4,5,6,7,8,9,10,11,12,13,16,19] rfl (by kernel_rfl) rfl (fun K hK => ?_))); simp -dsimp -implicitDefEqProofs only [go_sem, hnB, eq_self, ↓reduceIte]; (repeat' (first | (refine And.intro ?_ ?_) | (refine gs_both (fun hb => ?_) (fun hb => ?_) <;> (have hg := hb; (try simp only [nfb] at hg); simp -dsimp -implicitDefEqProofs only [go_sem, hnB, hb, hg, eq_self, ↓reduceIte]; clear hb; (try simp only [nfe] at hg))))); any_goals ((first | (refine hK _ _ _ _ (fun hx => ?_)) | (refine hK _ _ _ _ (drawOk_names (fun i => i - k) (by simp only [List.map_cons, List.map_nil, shG, hnB, ↓reduceIte, Nat.add_sub_cancel_left, Nat.sub_self]; rfl) (by decide +kernel) (by simp -dsimp -implicitDefEqProofs only [go_sem, hnB, eq_self, ↓reduceIte])) (fun hx => ?_)) | (refine hK _ _ _ _ (drawOk_of (by kernel_rfl) (by simp -dsimp -implicitDefEqProofs only [go_sem, hnB, eq_self, ↓reduceIte])) (fun hx => ?_))); clear hx hK; simp -dsimp -implicitDefEqProofs only [go_sem, hnB, eq_self, ↓reduceIte]; (try simp (disch := omega) only [wrap_i64, wrap_u64, wrap_u32, wrap_u8]))) | omega))
    refine S_reg rfl [0,1,2,4,5,6,7,8,9,10,11,12,13,16,19] [.ret (.tup [.lit (.string (ByteArray.mk (textT r a b).toArray)), .lit (.int .i64 (textE r a b))])] rfl (fun K hK => ?_); simp -dsimp -implicitDefEqProofs only [go_sem, hnB, eq_self, ↓reduceIte]; (repeat' (first | (refine And.intro ?_ ?_) | (refine gs_both (fun hb => ?_) (fun hb => ?_) <;> (have hg := hb; (try simp only [nfb] at hg); simp -dsimp -implicitDefEqProofs only [go_sem, hnB, hb, hg, eq_self, ↓reduceIte]; clear hb; (try simp only [nfe] at hg))))); (any_goals ((refine hK _ _ _ _ (fun hx => ?_)); clear hx hK; simp -dsimp -implicitDefEqProofs only [go_sem, hnB, eq_self, ↓reduceIte]; (try simp (disch := omega) only [wrap_i64, wrap_u64, wrap_u32, wrap_u8]))); (all_goals (try omega))
    · exact textR_c r a b hr ha hb
    (repeat' (first | (refine C_seq rfl ?_) | (refine C_block rfl ?_) | (refine C_skip rfl ?_; (try simp -dsimp -implicitDefEqProofs only [go_sem, hnB, eq_self, ↓reduceIte])) | (refine C_exit rfl ?_; (try simp -dsimp -implicitDefEqProofs only [go_sem, hnB, eq_self, ↓reduceIte])) | (refine C_cond rfl _ rfl (fun ht => ?_) (fun ht => ?_) <;> (try (simp only [nf] at ht)) <;> (try (exfalso; omega))) | ((first | (refine S_reg0 rfl [0,1,2,4,5,6,7,8,9,10,11,12,13,16,19] rfl rfl (fun K hK => ?_)) | (refine S_drw0 rfl [0,1,2,4,5,6,7,8,9,10,11,12,13,16,19] rfl (by kernel_rfl) rfl (fun K hK => ?_))); simp -dsimp -implicitDefEqProofs only [go_sem, hnB, eq_self, ↓reduceIte]; (repeat' (first | (refine And.intro ?_ ?_) | (refine gs_both (fun hb => ?_) (fun hb => ?_) <;> (have hg := hb; (try simp only [nfb] at hg); simp -dsimp -implicitDefEqProofs only [go_sem, hnB, hb, hg, eq_self, ↓reduceIte]; clear hb; (try simp only [nfe] at hg))))); any_goals ((first | (refine hK _ _ _ _ (fun hx => ?_)) | (refine hK _ _ _ _ (drawOk_names (fun i => i - k) (by simp only [List.map_cons, List.map_nil, shG, hnB, ↓reduceIte, Nat.add_sub_cancel_left, Nat.sub_self]; rfl) (by decide +kernel) (by simp -dsimp -implicitDefEqProofs only [go_sem, hnB, eq_self, ↓reduceIte])) (fun hx => ?_)) | (refine hK _ _ _ _ (drawOk_of (by kernel_rfl) (by simp -dsimp -implicitDefEqProofs only [go_sem, hnB, eq_self, ↓reduceIte])) (fun hx => ?_))); clear hx hK; simp -dsimp -implicitDefEqProofs only [go_sem, hnB, eq_self, ↓reduceIte]; (try simp (disch := omega) only [wrap_i64, wrap_u64, wrap_u32, wrap_u8]))) | omega))
    refine S_reg rfl [0,1,2,4,5,6,7,8,9,10,11,12,13,16,19] [.ret (.tup [.agg (flt (readP s).1.1 (readP s).1.2.1 (readP s).1.2.2), .lit (.int .i64 (readP s).2)])] rfl (fun K hK => ?_); simp -dsimp -implicitDefEqProofs only [go_sem, hnB, eq_self, ↓reduceIte]; (repeat' (first | (refine And.intro ?_ ?_) | (refine gs_both (fun hb => ?_) (fun hb => ?_) <;> (have hg := hb; (try simp only [nfb] at hg); simp -dsimp -implicitDefEqProofs only [go_sem, hnB, hb, hg, eq_self, ↓reduceIte]; clear hb; (try simp only [nfe] at hg))))); (any_goals ((refine hK _ _ _ _ (fun hx => ?_)); clear hx hK; simp -dsimp -implicitDefEqProofs only [go_sem, hnB, eq_self, ↓reduceIte]; (try simp (disch := omega) only [wrap_i64, wrap_u64, wrap_u32, wrap_u8]))); (all_goals (try omega))
    · exact read_c hG s (by omega)
    (repeat' (first | (refine C_seq rfl ?_) | (refine C_block rfl ?_) | (refine C_skip rfl ?_; (try simp -dsimp -implicitDefEqProofs only [go_sem, hnB, eq_self, ↓reduceIte])) | (refine C_exit rfl ?_; (try simp -dsimp -implicitDefEqProofs only [go_sem, hnB, eq_self, ↓reduceIte])) | (refine C_cond rfl _ rfl (fun ht => ?_) (fun ht => ?_) <;> (try (simp only [nf] at ht)) <;> (try (exfalso; omega))) | ((first | (refine S_reg0 rfl [0,1,2,4,5,6,7,8,9,10,11,12,13,16,19] rfl rfl (fun K hK => ?_)) | (refine S_drw0 rfl [0,1,2,4,5,6,7,8,9,10,11,12,13,16,19] rfl (by kernel_rfl) rfl (fun K hK => ?_))); simp -dsimp -implicitDefEqProofs only [go_sem, hnB, eq_self, ↓reduceIte]; (repeat' (first | (refine And.intro ?_ ?_) | (refine gs_both (fun hb => ?_) (fun hb => ?_) <;> (have hg := hb; (try simp only [nfb] at hg); simp -dsimp -implicitDefEqProofs only [go_sem, hnB, hb, hg, eq_self, ↓reduceIte]; clear hb; (try simp only [nfe] at hg))))); any_goals ((first | (refine hK _ _ _ _ (fun hx => ?_)) | (refine hK _ _ _ _ (drawOk_names (fun i => i - k) (by simp only [List.map_cons, List.map_nil, shG, hnB, ↓reduceIte, Nat.add_sub_cancel_left, Nat.sub_self]; rfl) (by decide +kernel) (by simp -dsimp -implicitDefEqProofs only [go_sem, hnB, eq_self, ↓reduceIte])) (fun hx => ?_)) | (refine hK _ _ _ _ (drawOk_of (by kernel_rfl) (by simp -dsimp -implicitDefEqProofs only [go_sem, hnB, eq_self, ↓reduceIte])) (fun hx => ?_))); clear hx hK; simp -dsimp -implicitDefEqProofs only [go_sem, hnB, eq_self, ↓reduceIte]; (try simp (disch := omega) only [wrap_i64, wrap_u64, wrap_u32, wrap_u8]))) | omega))
    refine S_reg rfl [0,1,2,4,5,6,7,8,9,10,11,12,13,16,19] [.ret (.tup [.agg (flt (readP s).1.1 (readP s).1.2.1 (readP s).1.2.2), .lit (.int .i64 (readP s).2)])] rfl (fun K hK => ?_); simp -dsimp -implicitDefEqProofs only [go_sem, hnB, eq_self, ↓reduceIte]; (repeat' (first | (refine And.intro ?_ ?_) | (refine gs_both (fun hb => ?_) (fun hb => ?_) <;> (have hg := hb; (try simp only [nfb] at hg); simp -dsimp -implicitDefEqProofs only [go_sem, hnB, hb, hg, eq_self, ↓reduceIte]; clear hb; (try simp only [nfe] at hg))))); (any_goals ((refine hK _ _ _ _ (fun hx => ?_)); clear hx hK; simp -dsimp -implicitDefEqProofs only [go_sem, hnB, eq_self, ↓reduceIte]; (try simp (disch := omega) only [wrap_i64, wrap_u64, wrap_u32, wrap_u8]))); (all_goals (try omega))
    · rw [← hE]; exact readR_c s (by omega)
    (repeat' (first | (refine C_seq rfl ?_) | (refine C_block rfl ?_) | (refine C_skip rfl ?_; (try simp -dsimp -implicitDefEqProofs only [go_sem, hnB, eq_self, ↓reduceIte])) | (refine C_exit rfl ?_; (try simp -dsimp -implicitDefEqProofs only [go_sem, hnB, eq_self, ↓reduceIte])) | (refine C_cond rfl _ rfl (fun ht => ?_) (fun ht => ?_) <;> (try (simp only [nf] at ht)) <;> (try (exfalso; omega))) | ((first | (refine S_reg0 rfl [0,1,2,4,5,6,7,8,9,10,11,12,13,16,19] rfl rfl (fun K hK => ?_)) | (refine S_drw0 rfl [0,1,2,4,5,6,7,8,9,10,11,12,13,16,19] rfl (by kernel_rfl) rfl (fun K hK => ?_))); simp -dsimp -implicitDefEqProofs only [go_sem, hnB, eq_self, ↓reduceIte]; (repeat' (first | (refine And.intro ?_ ?_) | (refine gs_both (fun hb => ?_) (fun hb => ?_) <;> (have hg := hb; (try simp only [nfb] at hg); simp -dsimp -implicitDefEqProofs only [go_sem, hnB, hb, hg, eq_self, ↓reduceIte]; clear hb; (try simp only [nfe] at hg))))); any_goals ((first | (refine hK _ _ _ _ (fun hx => ?_)) | (refine hK _ _ _ _ (drawOk_names (fun i => i - k) (by simp only [List.map_cons, List.map_nil, shG, hnB, ↓reduceIte, Nat.add_sub_cancel_left, Nat.sub_self]; rfl) (by decide +kernel) (by simp -dsimp -implicitDefEqProofs only [go_sem, hnB, eq_self, ↓reduceIte])) (fun hx => ?_)) | (refine hK _ _ _ _ (drawOk_of (by kernel_rfl) (by simp -dsimp -implicitDefEqProofs only [go_sem, hnB, eq_self, ↓reduceIte])) (fun hx => ?_))); clear hx hK; simp -dsimp -implicitDefEqProofs only [go_sem, hnB, eq_self, ↓reduceIte]; (try simp (disch := omega) only [wrap_i64, wrap_u64, wrap_u32, wrap_u8]))) | omega))
    refine S_reg rfl [0,1,2,4,5,6,7,8,9,10,11,12,13,16,19] [.ret (.lit (.string (ByteArray.mk ([] : List UInt8).toArray)))] rfl (fun K hK => ?_); simp -dsimp -implicitDefEqProofs only [go_sem, hnB, eq_self, ↓reduceIte]; (repeat' (first | (refine And.intro ?_ ?_) | (refine gs_both (fun hb => ?_) (fun hb => ?_) <;> (have hg := hb; (try simp only [nfb] at hg); simp -dsimp -implicitDefEqProofs only [go_sem, hnB, hb, hg, eq_self, ↓reduceIte]; clear hb; (try simp only [nfe] at hg))))); (any_goals ((refine hK _ _ _ _ (fun hx => ?_)); clear hx hK; simp -dsimp -implicitDefEqProofs only [go_sem, hnB, eq_self, ↓reduceIte]; (try simp (disch := omega) only [wrap_i64, wrap_u64, wrap_u32, wrap_u8]))); (all_goals (try omega))
    · rw [← hnB]; exact name_c r hr
    (repeat' (first | (refine C_seq rfl ?_) | (refine C_block rfl ?_) | (refine C_skip rfl ?_; (try simp -dsimp -implicitDefEqProofs only [go_sem, hnB, eq_self, ↓reduceIte])) | (refine C_exit rfl ?_; (try simp -dsimp -implicitDefEqProofs only [go_sem, hnB, eq_self, ↓reduceIte])) | (refine C_cond rfl _ rfl (fun ht => ?_) (fun ht => ?_) <;> (try (simp only [nf] at ht)) <;> (try (exfalso; omega))) | ((first | (refine S_reg0 rfl [0,1,2,4,5,6,7,8,9,10,11,12,13,16,19] rfl rfl (fun K hK => ?_)) | (refine S_drw0 rfl [0,1,2,4,5,6,7,8,9,10,11,12,13,16,19] rfl (by kernel_rfl) rfl (fun K hK => ?_))); simp -dsimp -implicitDefEqProofs only [go_sem, hnB, eq_self, ↓reduceIte]; (repeat' (first | (refine And.intro ?_ ?_) | (refine gs_both (fun hb => ?_) (fun hb => ?_) <;> (have hg := hb; (try simp only [nfb] at hg); simp -dsimp -implicitDefEqProofs only [go_sem, hnB, hb, hg, eq_self, ↓reduceIte]; clear hb; (try simp only [nfe] at hg))))); any_goals ((first | (refine hK _ _ _ _ (fun hx => ?_)) | (refine hK _ _ _ _ (drawOk_names (fun i => i - k) (by simp only [List.map_cons, List.map_nil, shG, hnB, ↓reduceIte, Nat.add_sub_cancel_left, Nat.sub_self]; rfl) (by decide +kernel) (by simp -dsimp -implicitDefEqProofs only [go_sem, hnB, eq_self, ↓reduceIte])) (fun hx => ?_)) | (refine hK _ _ _ _ (drawOk_of (by kernel_rfl) (by simp -dsimp -implicitDefEqProofs only [go_sem, hnB, eq_self, ↓reduceIte])) (fun hx => ?_))); clear hx hK; simp -dsimp -implicitDefEqProofs only [go_sem, hnB, eq_self, ↓reduceIte]; (try simp (disch := omega) only [wrap_i64, wrap_u64, wrap_u32, wrap_u8]))) | omega))
    refine C_ret rfl ⟨_, rfl, VLe.of_eq ?_⟩
    rfl
theorem awake_c : Pure Tryz.prog Γ 6 [] (.lit (.bool true)) := Pure_true 300 rfl (by kernel_rfl)
theorem auditTexts_c (hG : GT Γ) (r : Nat) (a b : Int) (s : List UInt8) (hr : r < 256) (ha : a ≤ 9223372036854775807) (hb : b ≤ 9223372036854775807) :
    Pure Tryz.prog Γ 3 [.agg (flt r a b), .lit (.string (ByteArray.mk s.toArray))] (.lit (.bool true)) := by
  refine Pure_at Tryz.func3 rfl 11 rfl (Nat.le_of_ble_eq_true rfl) rfl fun k => ?_
  (repeat' (first | (refine C_seq rfl ?_) | (refine C_block rfl ?_) | (refine C_skip rfl ?_; (try simp -dsimp -implicitDefEqProofs only [go_sem, eq_self, ↓reduceIte])) | (refine C_exit rfl ?_; (try simp -dsimp -implicitDefEqProofs only [go_sem, eq_self, ↓reduceIte])) | (refine C_cond rfl _ rfl (fun ht => ?_) (fun ht => ?_) <;> (try (simp only [nf] at ht)) <;> (try (exfalso; omega))) | ((first | (refine S_reg0 rfl [0,1,2,4] rfl rfl (fun K hK => ?_)) | (refine S_drw0 rfl [0,1,2,4] rfl (by kernel_rfl) rfl (fun K hK => ?_))); simp -dsimp -implicitDefEqProofs only [go_sem, eq_self, ↓reduceIte]; (repeat' (first | (refine And.intro ?_ ?_) | (refine gs_both (fun hb => ?_) (fun hb => ?_) <;> (have hg := hb; (try simp only [nfb] at hg); simp -dsimp -implicitDefEqProofs only [go_sem, hb, hg, eq_self, ↓reduceIte]; clear hb; (try simp only [nfe] at hg))))); any_goals ((first | (refine hK _ _ _ _ (fun hx => ?_)) | (refine hK _ _ _ _ (drawOk_names (fun i => i - k) (by simp only [List.map_cons, List.map_nil, shG, ↓reduceIte, Nat.add_sub_cancel_left, Nat.sub_self]; rfl) (by decide +kernel) (by simp -dsimp -implicitDefEqProofs only [go_sem, eq_self, ↓reduceIte])) (fun hx => ?_)) | (refine hK _ _ _ _ (drawOk_of (by kernel_rfl) (by simp -dsimp -implicitDefEqProofs only [go_sem, eq_self, ↓reduceIte])) (fun hx => ?_))); clear hx hK; simp -dsimp -implicitDefEqProofs only [go_sem, eq_self, ↓reduceIte]; (try simp (disch := omega) only [wrap_i64, wrap_u64, wrap_u32, wrap_u8]))) | omega))
  refine S_reg rfl [0,1,2,4] [.ret (.lit (.bool true)), .ret (.lit (.bool true))] rfl (fun K hK => ?_); simp -dsimp -implicitDefEqProofs only [go_sem, eq_self, ↓reduceIte]; (repeat' (first | (refine And.intro ?_ ?_) | (refine gs_both (fun hb => ?_) (fun hb => ?_) <;> (have hg := hb; (try simp only [nfb] at hg); simp -dsimp -implicitDefEqProofs only [go_sem, hb, hg, eq_self, ↓reduceIte]; clear hb; (try simp only [nfe] at hg))))); (any_goals ((refine hK _ _ _ _ (fun hx => ?_)); clear hx hK; simp -dsimp -implicitDefEqProofs only [go_sem, eq_self, ↓reduceIte]; (try simp (disch := omega) only [wrap_i64, wrap_u64, wrap_u32, wrap_u8]))); (all_goals (try omega))
  · exact tells_c hG r a b s hr ha hb
  · exact awake_c
  all_goals (refine C_ret rfl ⟨_, rfl, VLe.of_eq ?_⟩)
  all_goals (rfl)
end Go.Proofs.T
end

section
set_option linter.unusedVariables false
set_option linter.unusedSimpArgs false
namespace Go.AM
open Go Go.RowKit
theorem globIs_of {W : World} {g : Nat} {cs : List Value} {ty : TypeId} {x : Nat × Nat} (h : W.heap[g]? = some (.cells cs.toArray ty x)) : GlobIs W (fun b => b < W.heap.size) g (cs.map .lit) := by
  have hg : g < W.heap.size := (Array.getElem?_eq_some_iff.1 h).1
  refine ⟨.rp (fun j => cs.getD j undef) hg (fun j v hj => ?_) (fun j v hj => ?_), hg, _, _, _, h, by simp⟩
  · simp only [List.getElem?_map, Option.map_eq_some_iff] at hj
    obtain ⟨u, hu, rfl⟩ := hj
    unfold World.cell?
    simp [h, hu, List.getD]
  · simp only [List.getElem?_map, Option.map_eq_some_iff] at hj
    obtain ⟨u, hu, rfl⟩ := hj
    have e : cs.getD j undef = u := by simp [List.getD, hu]
    simp only [e]; exact .lit
theorem globIs_var {P : Program} {W : World} {g : Nat} {name : String} {cs : List Value} (hg : P.globalNamed name = some g) (h : W.var? P name = some cs.toArray) : GlobIs W (fun b => b < W.heap.size) g (cs.map .lit) := by
  unfold World.var? at h
  rw [hg, Option.bind_some] at h
  split at h
  · rename_i c t x hh; cases h; exact globIs_of hh
  · cases h
theorem globIs_int {P : Program} {W : World} {g : Nat} {t : TypeId} {zero : Array Value} {k : IntKind} (h : W.ShapedOpen P) (hg : g < P.globals.size)
    (h0 : ((begin P (fun _ _ => 0) default).world.heap[g]?).bind Obj.row? = some (zero, t)) (hz : zero.size = 1)
    (hb : P.buildable t = true) (hc : P.cellTypes P.depth t = some [t]) (hu : P.underlying t = some (.int k)) : ∃ m, GlobIs W (fun b => b < W.heap.size) g [.lit (.int k m)] := by
  obtain ⟨m, hm⟩ := Go.Proofs.cell_of_shapedOpen_int h hg h0 hz hb hc hu
  obtain ⟨cs, hh, hs, _⟩ := h.1 g zero t hg h0
  have e : cs = [Value.int k m].toArray := by
    unfold World.cell? at hm
    simp only [hh, Option.isSome_none, Bool.false_eq_true, if_false] at hm
    refine Array.ext (by simp [hs, hz]) fun i h1 h2 => ?_
    have : i = 0 := by simp at h2; exact h2
    subst this
    rw [Array.getElem?_eq_getElem h1] at hm
    simpa using hm
  rw [e] at hh
  exact ⟨m, globIs_of hh⟩
theorem row_callG {P : Program} {Γ : List (Nat × List AVal)} {f : FuncId} {vs : List AVal} {b : Bool} {args : Array Value} {W : World} (hΓ : ∀ g cells, look Γ g = some cells → GlobIs W (fun b => b < W.heap.size) g cells) (h : Pure P Γ f vs (.lit (.bool b)))
    (hv : Vs W (fun b => b < W.heap.size) noNames noAllow vs args) : Calls P f args W fun e W' => e = .returned (.bool b) ∧ Below W.heap.size W W' := by
  refine (h 0 noAllow (fun _ h => h.elim) W _ noNames args ⟨fun _ _ => rfl, fun id B A' hid => (by simp [ofHeap, look] at hid), fun i j b s t h => (by cases h), fun b hb => hb, hΓ⟩ hv).mono ?_
  rintro e W' ⟨cv, G', ρ', k', r, H', rfl, ⟨rfl, rfl, rfl⟩, _, _, hvr, hst⟩
  have e1 : cv = .bool b := by cases hvr; rfl
  subst e1
  exact ⟨rfl, hst.os, hst.tape, hst.output, hst.size, fun k hk => hst.keep k hk (fun ⟨_, _, h⟩ => by cases h)⟩
theorem row_both {H : Type} {enc : TypeId × Value → H} {a : Assume} {C : Checked} {os : Os} {f : FuncId} {fn : Func} {s : ChangeSpec} {conds : List PathCond} {apart fresh handsOn again : Bool} {X : World → Array Value → Prop}
    (hX : ∀ (w w' : World) (args : Array Value), w.heap = w'.heap → X w args → X w' args)
    (own : ownKnob C.prog.godebug = none) (started : os.Started) (noInit : C.prog.inits.idxOf? f = none) (hfn : C.prog.funcs[f]? = some fn)
    (witness : ∃ (w : World) (tape : Tape) (i : Input), w.os = os ∧ (w.forCall tape i).Shaped C.prog ∧ i.vars = [] ∧ Input.okWide C.prog (w.forCall tape i) .any w.heap.size f i ∧
      ((s.pre enc C.prog fn conds apart (w.forCall tape i).memory i.args ∧ X (w.forCall tape i).memory i.args) ∧ sizedMet enc C.prog fn (OpenSpec.ofChange s) apart (w.forCall tape i).memory i.args) ∧ a.holds C.prog (lone (Frame.enter C.prog f i.args .normal) [] (w.forCall tape i)))
    (contract : ∀ (W : World) (base : Nat) (args : Array Value) (ds gs : List (DataW H)) (before : List MemPlace),
      (∀ (j : Nat) t v, fn.params[j]? = some t → args[j]? = some v → Value.okWide C.prog W .any base t v) →
      DataW.Whole enc C.prog fn.params.toList s.vars apart W args.toList ds gs before → W.ShapedOpen C.prog → X W args →
      Calls C.prog f args W fun e W' => ∃ v, e = .returned v ∧ s.post enc C.prog fn apart fresh handsOn again W args v W') :
    ReturnsInHanded a C os f .any (fun w args => (s.pre enc C.prog fn conds apart w args ∧ X w args) ∧ sizedMet enc C.prog fn (OpenSpec.ofChange s) apart w args) (s.post enc C.prog fn apart fresh handsOn again) := by
  refine returnsInHanded_of_calls own started noInit witness ?_
  intro w tape i _ hsh _ hok hpre hholds
  obtain ⟨_, _, _, fn', hfn', _, _, _, _, hval⟩ := hok
  have e : fn' = fn := Option.some.inj (hfn'.symm.trans hfn)
  subst e
  obtain ⟨⟨⟨ds, gs, before, hw, hc⟩, hx⟩, hz⟩ := hpre
  have hw' := DataW.Whole.of_heap (w' := w.forCall tape i) (by rfl) hw
  refine (contract (w.forCall tape i) w.heap.size i.args ds gs before hval hw' hsh (hX _ _ _ (by rfl) hx)).mono fun e W' ⟨v, he, hp⟩ => ?_
  subst he
  exact ChangeSpec.post_blind hp
end Go.AM
end

section
set_option linter.unusedVariables false
set_option linter.unusedSimpArgs false
namespace Go.Proofs.T
open Go Go.AM Go.Proofs Go.ChangeMaps Go.ChangeShapes Go.WideShapes Go.ChangeAt Go.WideMaps Go.WideElems Go.RowKit Go.Proofs.YtegccfgfddpmpaaGreatDoor
set_option linter.unusedSimpArgs false
set_option linter.unusedVariables false
set_option maxRecDepth 100000
theorem ownK : ownKnob Tryz.prog.godebug = none := by kernel_rfl
theorem laidOut : laidOutB Tryz.prog = true := by kernel_rfl
section
variable {H : Type} {enc : TypeId × Value → H} {P : Program} {w : World} {base : Nat} {sp : Nat → Bool} {held : Bool} {fuel : Nat} {t : TypeId} {cs : List Value} {x : DataW H × List MemPlace} {G : Nat → Prop}
theorem dec_field {fs : Array Field} (ht : P.underlying t = some (.struct fs)) (h : DataW.trod enc P w base sp held fuel t cs = some x) :
    cs.length = P.cellsOf t ∧ ∃ n, ∀ (i : Nat) (f : Field), fs[i]? = some f → ∃ y, DataW.trod enc P w base sp held n f.type ((cs.drop f.offset).take (P.cellsOf f.type)) = some y := by
  obtain ⟨xs, n, _, _, h1, h2, h3⟩ := DataW.trod_struct ht h
  refine ⟨h1, n, fun i f hf => ?_⟩
  have hi : i < xs.length := by rw [h2]; exact (Array.getElem?_eq_some_iff.1 hf).1
  exact ⟨xs[i], by rw [h3 i f hf, List.getElem?_eq_getElem hi]⟩
theorem len3 {cs : List Value} (h : cs.length = 3) : ∃ a b c, cs = [a, b, c] := by
  match cs, h with
  | [a, b, c], _ => exact ⟨a, b, c, rfl⟩
theorem u8_rng {n : Int} (h : (Lit.int .u8 n).wf = true) : 0 ≤ n ∧ n < 256 := by
  simp [Lit.wf] at h
  have e1 : IntKind.u8.min = 0 := rfl
  have e2 : IntKind.u8.max = 255 := rfl
  omega
theorem i64_rng {n : Int} (h : (Lit.int .i64 n).wf = true) : -9223372036854775808 ≤ n ∧ n ≤ 9223372036854775807 := by
  simp [Lit.wf] at h
  have e1 : IntKind.i64.min = -9223372036854775808 := rfl
  have e2 : IntKind.i64.max = 9223372036854775807 := rfl
  omega
theorem dec_fault {n : Nat} {y : DataW H × List MemPlace} (hl : cs.length = 3) (h : DataW.trod enc Tryz.prog w base sp held n 23 cs = some y) :
    ∃ (r : Nat) (a b : Int), r < 256 ∧ a ≤ 9223372036854775807 ∧ b ≤ 9223372036854775807 ∧ Dec w G (flt r a b) cs := by
  obtain ⟨_, m, hf⟩ := dec_field Tryz.underlying23 h
  obtain ⟨c0, c1, c2, rfl⟩ := len3 hl
  obtain ⟨_, h0⟩ := hf 0 _ rfl
  obtain ⟨_, h1⟩ := hf 1 _ rfl
  obtain ⟨_, h2⟩ := hf 2 _ rfl
  obtain ⟨r, d0, w0⟩ := dec_int (G := G) Tryz.underlying5 h0
  obtain ⟨a, d1, w1⟩ := dec_int (G := G) Tryz.underlying3 h1
  obtain ⟨b, d2, w2⟩ := dec_int (G := G) Tryz.underlying3 h2
  have e := u8_rng w0
  obtain ⟨q, rfl⟩ := Int.eq_ofNat_of_zero_le e.1
  exact ⟨q, a, b, by omega, (i64_rng w1).2, (i64_rng w2).2, (d0.app d1).app d2⟩
end
theorem agg_of_ok {W : World} {r : Reach} {base : Nat} {v : Value} (h : Value.okWide Tryz.prog W r base 23 v) : ∃ cs, v = .agg cs := by
  unfold Value.okWide at h
  rw [Tryz.underlying23] at h
  obtain ⟨cs, h1, _⟩ := h
  exact ⟨cs, h1⟩
theorem fault_of {H : Type} {enc : TypeId × Value → H} {W : World} {cs : Array Value} {d : DataW H} {p : List MemPlace} (h : DataW.Trod enc Tryz.prog W 0 (fun _ => true) true 23 (.agg cs) d p) :
    ∃ (r : Nat) (a b : Int), r < 256 ∧ a ≤ 9223372036854775807 ∧ b ≤ 9223372036854775807 ∧ V W (fun b => b < W.heap.size) noNames noAllow (.agg (flt r a b)) (.agg cs) := by
  obtain ⟨fuel, h⟩ := h
  have hl : cs.toList.length = 3 := (dec_field Tryz.underlying23 h).1
  obtain ⟨r, a, b, h1, h2, h3, hd⟩ := dec_fault (G := fun b => b < W.heap.size) hl h
  exact ⟨r, a, b, h1, h2, h3, V.of_dec hd⟩
theorem vs_two {W : World} {G : Nat → Prop} {ρ : Names} {A : Allow} {v v' : AVal} {c c' : Value} (h : V W G ρ A v c) (h' : V W G ρ A v' c') : Vs W G ρ A [v, v'] #[c, c'] :=
  ⟨rfl, fun j u hj => by
    match j with
    | 0 => cases hj; exact h
    | 1 => cases hj; exact h'
    | j + 2 => simp at hj⟩
theorem rowES (u : TypeId) (h : Tryz.prog.typeName? 3 u = some "*errors.errorString") : u = 183 := by
  have star : "*" ++ "errors.errorString" = "*errors.errorString" := by decide
  exact typeName_ptr_named (nm := "errors.errorString") (by rw [star]; kernel_rfl) (by kernel_rfl) (by decide) u (by rw [star]; exact h)
theorem gt_of {W : World} (hL : laidMetH Tryz.prog Rows.auditTextsRow.laid W) (hsh : W.ShapedOpen Tryz.prog) : ∃ Γ, GT Γ ∧ ∀ g cells, AM.look Γ g = some cells → GlobIs W (fun b => b < W.heap.size) g cells := by
  have h1 : laidMet Tryz.prog [("internal/strconv.uint64pow10", Lib.tabData .u64 Lib.pow10Tab)] W := laidMetH.filter (fun x => x.1 == "internal/strconv.uint64pow10") hL
  have h2 : laidMet Tryz.prog [("strconv.ErrSyntax", Rows.laid_strconv_ErrSyntax)] W := laidMetH.filter (fun x => x.1 == "strconv.ErrSyntax") hL
  have h3 : laidMet Tryz.prog [("strconv.ErrRange", Rows.laid_strconv_ErrRange)] W := laidMetH.filter (fun x => x.1 == "strconv.ErrRange") hL
  have t1 := Lib.tabIs_of_head (g := 2) (by kernel_rfl) rfl rfl rfl (by kernel_rfl) (by kernel_rfl) h1
  obtain ⟨a2, _, v2, -, -, -⟩ := laid_sentinel (g := 0) h2 (by kernel_rfl) (by kernel_rfl) Tryz.underlying87 rowES Tryz.underlying183 Tryz.underlying185 rfl rfl Tryz.underlying9 (by kernel_rfl) (by kernel_rfl)
  obtain ⟨a3, _, v3, -, -, -⟩ := laid_sentinel (g := 1) h3 (by kernel_rfl) (by kernel_rfl) Tryz.underlying87 rowES Tryz.underlying183 Tryz.underlying185 rfl rfl Tryz.underlying9 (by kernel_rfl) (by kernel_rfl)
  have g1 : GlobIs W (fun b => b < W.heap.size) 2 (Lib.pow10Tab.map fun z => .lit (.int .u64 z)) := by
    have := globIs_var (g := 2) (cs := Lib.pow10Tab.map fun z => Value.int .u64 z) (by kernel_rfl) t1
    rw [List.map_map] at this
    exact this
  have g2 := globIs_var (g := 0) (cs := [Value.iface 183 (.pointer (some a2))]) (by kernel_rfl) v2
  have g3 := globIs_var (g := 1) (cs := [Value.iface 183 (.pointer (some a3))]) (by kernel_rfl) v3
  obtain ⟨m, g4⟩ := globIs_int (g := 3) (t := 3) (k := .i64) (zero := #[.int .i64 0]) hsh (of_decide_eq_true (by kernel_rfl)) (by kernel_rfl) rfl (by kernel_rfl) (by kernel_rfl) Tryz.underlying3
  refine ⟨[(2, Lib.pow10Tab.map fun z => .lit (.int .u64 z)), (0, [.lit (.iface 183 (.pointer (some a2)))]), (1, [.lit (.iface 183 (.pointer (some a3)))]), (3, [.lit (.int .i64 m)])], ⟨rfl, ⟨_, _, rfl⟩, ⟨_, _, rfl⟩, ⟨_, rfl⟩⟩, fun g cells hg => ?_⟩
  simp only [AM.look] at hg
  split at hg
  · rename_i e; subst e; cases hg; exact g1
  split at hg
  · rename_i e; subst e; cases hg; exact g2
  split at hg
  · rename_i e; subst e; cases hg; exact g3
  split at hg
  · rename_i e; subst e; cases hg; exact g4
  · cases hg
theorem lifted (os : Os) (started : os.Started) (H : Type) (enc : TypeId × Value → H) :
    ReturnsInHanded {} Tryz.checked os 3 .any (fun w args => (Rows.auditTextsSpec.pre enc Tryz.prog Tryz.f3 [] false w args ∧ laidMetH Tryz.prog Rows.auditTextsRow.laid w) ∧ sizedMet enc Tryz.prog Tryz.f3 (OpenSpec.ofChange Rows.auditTextsSpec) false w args)
      (Rows.auditTextsSpec.post enc Tryz.prog Tryz.f3 false true false false) := by
  refine row_both (C := Tryz.checked) (X := fun w _ => laidMetH Tryz.prog Rows.auditTextsRow.laid w) (fun _ _ _ hh h => h.of_heap hh) ownK started (by kernel_rfl) Tryz.func3
    (ChangeSpec.witness_shaped (enc := enc) (C := Tryz.checked) (os := os) (X := fun w _ => laidMetH Tryz.prog Rows.auditTextsRow.laid w) false (World.laidAll Tryz.prog os Rows.auditTextsRow.laid) #[.agg #[.int .u8 0, .int .i64 0, .int .i64 0], .string ⟨#[]⟩] 8 (World.laidAll_os _ _ _) (World.shaped_of_ZipB (by kernel_rfl) (by kernel_rfl)) (by kernel_rfl) (by kernel_rfl) (by kernel_rfl)
      (by rw [MakeChecks.laidMetH_plain _ _ _ (by kernel_rfl)]; exact laidMet_laidAll _ (by kernel_rfl) (by kernel_rfl))) ?_
  intro W base args ds gs before hval0 hW hsh hL
  have hval : ∀ (j : Nat) t v, Tryz.f3.params[j]? = some t → args[j]? = some v → Value.okWide Tryz.prog W .any base t v := hval0
  have hW' := hW
  obtain ⟨p, q, hA0, hV, rfl, hfz, hnd⟩ := hW
  have hA : DataW.TrodAll enc Tryz.prog W 0 (fun _ => true) true Tryz.f3.params.toList args.toList ds p := hA0
  rw [Tryz.params3] at hA hval
  obtain ⟨v0, v1, d0, d1, p0, p1, rfl, rfl, rfl, h0, h1⟩ := trodAll_two hA
  obtain ⟨rfl, rfl⟩ := trodVars_none hV
  clear hA0 hval0
  obtain ⟨cs, rfl⟩ := agg_of_ok (hval 0 23 v0 rfl rfl)
  obtain ⟨r, a, b, hr, ha, hb, hv⟩ := fault_of h0
  obtain ⟨s, rfl, rfl, rfl, hs⟩ := open_string Tryz.underlying9 (hval 1 9 v1 rfl rfl) h1
  obtain ⟨Γ, hG, hΓ⟩ := gt_of hL hsh
  refine (row_callG hΓ (auditTexts_c hG r a b s.data.toList hr ha hb) (vs_two hv (.lit (v := .string s)))).mono fun e W' ⟨he, hb⟩ => ?_
  subst he
  have hlt0 : ∀ x ∈ p0, x.block < W.heap.size := fun x hx => hW'.lt x (by simp [hx])
  refine ⟨_, rfl, _, _, _, [], p0 ++ [], [], hW', ?_, ?_, rfl, keptBut_below hb _, fun h => by cases h⟩
  · exact trodAll_mk1 (shut_bool Tryz.underlying4 true)
  · exact trodAll_mk2 (Below.trod laidOut (by kernel_rfl) (of_decide_eq_true (by kernel_rfl)) h0 hb hlt0) (shut_string Tryz.underlying9 hs)
theorem auditTexts_holds : Rows.AuditTextsSaid :=
  OpenClaim.holds_of_wide 3 Tryz.f3 rfl rfl rfl rfl rfl rfl rfl ⟨rfl, rfl, rfl, rfl, rfl⟩ rfl rfl rfl rfl rfl (by kernel_rfl) Tryz.func3 (by kernel_rfl)
    (of_decide_eq_true (by kernel_rfl)) (by unfold Func.isWrapper; first | (rw [if_pos (by decide +kernel)]; kernel_rfl) | (rw [if_neg (by decide +kernel)]; exact ⟨rfl, rfl⟩))
    (fun os started H enc _ => lifted os started H enc)
end Go.Proofs.T
end
