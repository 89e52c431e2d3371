import Derived.Test.YtbajbdfjpndkdaaDoorZAJ

section
set_option linter.unusedVariables false
set_option linter.unusedSimpArgs false
namespace Go.Proofs.T
open Go Go.AM Go.Proofs
set_option linter.unusedSimpArgs false
set_option linter.unusedVariables false
set_option maxRecDepth 4000
variable {Γ : List (Nat × List AVal)}
def brkAt (s : St) (r i : Nat) : List Flt := iff1 (brk s i (r + 4)) ⟨((r : Int) + 4), (i : Int), 0⟩
def brkR (s : St) (r : Nat) : List Flt := flats (brkAt s r) s.nt
def sptAt (s : St) (g c : Nat) : List Flt := iff1 (!(ent (s.sp g c).v (s.sp g c).r (s.wt g))) ⟨11, (g : Int), (c : Int)⟩
def sptR (s : St) (g : Nat) : List Flt := if g = 0 then [] else flats (sptAt s g) (s.nsp g)
def rootAt (s : St) (c : Nat) : List Flt := iff1 (decide (0 < (s.sp 0 c).v ∨ 0 < (s.sp 0 c).r)) ⟨12, (c : Int), 0⟩
def partsL (s : St) : List Flt := flats (clockAt s) s.nk ++ (flats (brkR s) 7 ++ (flats (sptR s) s.ns ++ (flats (rootAt s) s.cpus.toNat ++ flats (curAt s) s.cpus.toNat)))
structure PartOk (s : St) : Prop where
  sp : ∀ g, g < s.ns → (s.nsp g : Int) = s.cpus
  ng : s.ns = s.ng
  ns1 : 1 ≤ s.ns
  c0 : 0 ≤ s.cpus
  c1 : s.cpus ≤ 64
  nu : (s.nu : Int) = s.cpus
  n12 : s.ns ≤ 12
set_option maxHeartbeats 4000000 in
theorem parts_ref (s : St) (hs : s.Small) (hw : Wf s) (hp : PartOk s) : Pure Tryd.prog Γ 30 [.agg s.cells] (rows 3 ((partsL s).map Flt.row)) := by
  obtain ⟨hng, hnk, hnu, hnt, hns, hnsp⟩ := id hs
  obtain ⟨ksp, kng, kns1, kc0, kc1, knu, k12⟩ := id hp
  refine Pure_at Tryd.func30 rfl 170 rfl (Nat.le_of_ble_eq_true rfl) rfl fun k => ?_
  obtain ⟨R, eR⟩ : ∃ R, R = (partsL s).map Flt.row := ⟨_, rfl⟩
  rw [← eR]
  (repeat' (first | (refine C_seq rfl ?_) | (refine C_block rfl ?_) | (refine C_skip rfl ?_; (try simp -dsimp -implicitDefEqProofs only [go_sem, eq_self, ↓reduceIte])) | (refine C_exit rfl ?_; (try simp -dsimp -implicitDefEqProofs only [go_sem, eq_self, ↓reduceIte])) | (refine C_cond rfl _ rfl (fun ht => ?_) (fun ht => ?_) <;> (try (simp only [nf] at ht)) <;> (try (exfalso; omega))) | ((first | (refine S_reg0 rfl [0,1,2,3,4,5,6,7,8,9,10,15,31,38,45,51,62,72,101,112,134,144,163] rfl rfl (fun K hK => ?_)) | (refine S_drw0 rfl [0,1,2,3,4,5,6,7,8,9,10,15,31,38,45,51,62,72,101,112,134,144,163] rfl (by kernel_rfl) rfl (fun K hK => ?_))); simp -dsimp -implicitDefEqProofs only [go_sem, eq_self, ↓reduceIte]; (repeat' (first | (refine And.intro ?_ ?_) | (refine gs_both (fun hb => ?_) (fun hb => ?_) <;> (have hg := hb; (try simp only [nfb] at hg); simp -dsimp -implicitDefEqProofs only [go_sem, hb, hg, eq_self, ↓reduceIte]; clear hb; (try simp only [nfe] at hg))))); any_goals ((first | (refine hK _ _ _ _ (fun hx => ?_)) | (refine hK _ _ _ _ (drawOk_names (fun i => i - k) (by simp only [List.map_cons, List.map_nil, shG, ↓reduceIte, Nat.add_sub_cancel_left, Nat.sub_self]; rfl) (by decide +kernel) (by simp -dsimp -implicitDefEqProofs only [go_sem, eq_self, ↓reduceIte])) (fun hx => ?_)) | (refine hK _ _ _ _ (drawOk_of (by kernel_rfl) (by simp -dsimp -implicitDefEqProofs only [go_sem, eq_self, ↓reduceIte])) (fun hx => ?_))); clear hx hK; simp -dsimp -implicitDefEqProofs only [go_sem, eq_self, ↓reduceIte]; (try simp (disch := omega) only [wrap_i64, wrap_u64, wrap_u32, wrap_u8]))) | omega))
  refine M_forO (X := Nat) rfl [0,1,2,3,4,5,6,7,8,9,10,15,31,38,45,51,62,72,101,112,134,144,163] (k + 2) (fun c => [(4, .lit (.int .i64 (c : Int))), (3, accV (k + 1) ((flats (clockAt s) c).map Flt.row))]) (fun c => accH (k + 1) 3 ((flats (clockAt s) c).map Flt.row) [(k, ⟨7, true, [s.cells]⟩)]) (fun c => c ≤ s.nk) (fun c => s.nk - c) 0 ?_ (Nat.zero_le _) ?_
  · rw [flats_zero, List.map_nil]
    simp -dsimp -implicitDefEqProofs only [go_sem, eq_self, ↓reduceIte]
    exact Mv.wk (wk_low (by omega) (by simp -dsimp -implicitDefEqProofs only [go_sem, List.map_append, List.map_cons, List.map_nil, Flt.row, eq_self, ↓reduceIte]) (by simp -dsimp -implicitDefEqProofs only [go_sem, List.map_append, List.map_cons, List.map_nil, Flt.row, eq_self, ↓reduceIte]) (by simp -dsimp -implicitDefEqProofs only [go_sem, List.map_append, List.map_cons, List.map_nil, Flt.row, eq_self, ↓reduceIte]) (by simp -dsimp -implicitDefEqProofs only [go_sem, List.map_append, List.map_cons, List.map_nil, Flt.row, eq_self, ↓reduceIte]))
  intro c hc
  have hfl := flats_len (f := clockAt s) (m := 1) (fun c => iff1_len1 _ _) c
  obtain ⟨l1, e1, h1⟩ : ∃ x, x = flats (clockAt s) c ∧ x.length ≤ c := ⟨_, rfl, by omega⟩
  rw [← e1]
  have hsucc : flats (clockAt s) (c + 1) = l1 ++ clockAt s c := by rw [e1]; rfl
  simp -dsimp -implicitDefEqProofs only [go_sem, eq_self, ↓reduceIte]
  (repeat' (first | (refine C_seq rfl ?_) | (refine C_block rfl ?_) | (refine C_skip rfl ?_; (try simp -dsimp -implicitDefEqProofs only [go_sem, eq_self, ↓reduceIte])) | (refine C_exit rfl ?_; (try simp -dsimp -implicitDefEqProofs only [go_sem, eq_self, ↓reduceIte])) | (refine C_cond rfl _ rfl (fun ht => ?_) (fun ht => ?_) <;> (try (simp only [nf] at ht)) <;> (try (exfalso; omega))) | ((first | (refine S_reg0 rfl [0,1,2,3,4,5,6,7,8,9,10,15,31,38,45,51,62,72,101,112,134,144,163] rfl rfl (fun K hK => ?_)) | (refine S_drw0 rfl [0,1,2,3,4,5,6,7,8,9,10,15,31,38,45,51,62,72,101,112,134,144,163] rfl (by kernel_rfl) rfl (fun K hK => ?_))); simp -dsimp -implicitDefEqProofs only [go_sem, eq_self, ↓reduceIte]; (repeat' (first | (refine And.intro ?_ ?_) | (refine gs_both (fun hb => ?_) (fun hb => ?_) <;> (have hg := hb; (try simp only [nfb] at hg); simp -dsimp -implicitDefEqProofs only [go_sem, hb, hg, eq_self, ↓reduceIte]; clear hb; (try simp only [nfe] at hg))))); any_goals ((first | (refine hK _ _ _ _ (fun hx => ?_)) | (refine hK _ _ _ _ (drawOk_names (fun i => i - k) (by simp only [List.map_cons, List.map_nil, shG, ↓reduceIte, Nat.add_sub_cancel_left, Nat.sub_self]; rfl) (by decide +kernel) (by simp -dsimp -implicitDefEqProofs only [go_sem, eq_self, ↓reduceIte])) (fun hx => ?_)) | (refine hK _ _ _ _ (drawOk_of (by kernel_rfl) (by simp -dsimp -implicitDefEqProofs only [go_sem, eq_self, ↓reduceIte])) (fun hx => ?_))); clear hx hK; simp -dsimp -implicitDefEqProofs only [go_sem, eq_self, ↓reduceIte]; (try simp (disch := omega) only [wrap_i64, wrap_u64, wrap_u32, wrap_u8]))) | omega))
  · refine ⟨c + 1, by omega, by omega, ?_⟩
    rw [hsucc, show clockAt s c = [⟨3, (c : Int), 0⟩] by rw [clockAt, decide_eq_true (by omega)]; rfl]
    simp -dsimp -implicitDefEqProofs only [go_sem, eq_self, ↓reduceIte]
    exact Mv.app (k + 3) (k + 1) ⟨by omega, by omega⟩ ⟨by omega, by omega⟩ (wk_low (by omega) (by simp -dsimp -implicitDefEqProofs only [go_sem, List.map_append, List.map_cons, List.map_nil, Flt.row, eq_self, ↓reduceIte]) (by simp -dsimp -implicitDefEqProofs only [go_sem, List.map_append, List.map_cons, List.map_nil, Flt.row, eq_self, ↓reduceIte]) (by simp -dsimp -implicitDefEqProofs only [go_sem, List.map_append, List.map_cons, List.map_nil, Flt.row, eq_self, ↓reduceIte]) (by simp -dsimp -implicitDefEqProofs only [go_sem, List.map_append, List.map_cons, List.map_nil, Flt.row, eq_self, ↓reduceIte]))
  · refine ⟨c + 1, by omega, by omega, ?_⟩
    rw [hsucc, show clockAt s c = [] by rw [clockAt, decide_eq_false (by omega)]; rfl, List.append_nil]
    simp -dsimp -implicitDefEqProofs only [go_sem, eq_self, ↓reduceIte]
    exact Mv.wk (wk_low (by omega) (by simp -dsimp -implicitDefEqProofs only [go_sem, List.map_append, List.map_cons, List.map_nil, Flt.row, eq_self, ↓reduceIte]) (by simp -dsimp -implicitDefEqProofs only [go_sem, List.map_append, List.map_cons, List.map_nil, Flt.row, eq_self, ↓reduceIte]) (by simp -dsimp -implicitDefEqProofs only [go_sem, List.map_append, List.map_cons, List.map_nil, Flt.row, eq_self, ↓reduceIte]) (by simp -dsimp -implicitDefEqProofs only [go_sem, List.map_append, List.map_cons, List.map_nil, Flt.row, eq_self, ↓reduceIte]))
  · refine ⟨c + 1, by omega, by omega, ?_⟩
    rw [hsucc, show clockAt s c = [⟨3, (c : Int), 0⟩] by rw [clockAt, decide_eq_true (by omega)]; rfl]
    simp -dsimp -implicitDefEqProofs only [go_sem, eq_self, ↓reduceIte]
    exact Mv.app (k + 3) (k + 1) ⟨by omega, by omega⟩ ⟨by omega, by omega⟩ (wk_low (by omega) (by simp -dsimp -implicitDefEqProofs only [go_sem, List.map_append, List.map_cons, List.map_nil, Flt.row, eq_self, ↓reduceIte]) (by simp -dsimp -implicitDefEqProofs only [go_sem, List.map_append, List.map_cons, List.map_nil, Flt.row, eq_self, ↓reduceIte]) (by simp -dsimp -implicitDefEqProofs only [go_sem, List.map_append, List.map_cons, List.map_nil, Flt.row, eq_self, ↓reduceIte]) (by simp -dsimp -implicitDefEqProofs only [go_sem, List.map_append, List.map_cons, List.map_nil, Flt.row, eq_self, ↓reduceIte]))
  have hcn : c = s.nk := by omega
  subst hcn
  clear hsucc hfl
  refine M_forO (X := Nat) rfl [0,1,2,3,4,5,6,7,8,9,10,15,31,38,45,51,62,72,101,112,134,144,163] (k + 2) (fun r => [(5, .lit (.int .u8 ((r : Int) + 4))), (3, accV (k + 1) ((l1 ++ flats (brkR s) r).map Flt.row))]) (fun r => accH (k + 1) 3 ((l1 ++ flats (brkR s) r).map Flt.row) [(k, ⟨7, true, [s.cells]⟩)]) (fun r => r ≤ 7) (fun r => 7 - r) 0 ?_ (Nat.zero_le _) ?_
  · rw [flats_zero, List.append_nil, show (((0 : Nat) : Int) + 4) = 4 from rfl]
    simp -dsimp -implicitDefEqProofs only [go_sem, eq_self, ↓reduceIte]
    exact Mv.wk (wk_low (by omega) (by simp -dsimp -implicitDefEqProofs only [go_sem, List.map_append, List.map_cons, List.map_nil, Flt.row, eq_self, ↓reduceIte]) (by simp -dsimp -implicitDefEqProofs only [go_sem, List.map_append, List.map_cons, List.map_nil, Flt.row, eq_self, ↓reduceIte]) (by simp -dsimp -implicitDefEqProofs only [go_sem, List.map_append, List.map_cons, List.map_nil, Flt.row, eq_self, ↓reduceIte]) (by simp -dsimp -implicitDefEqProofs only [go_sem, List.map_append, List.map_cons, List.map_nil, Flt.row, eq_self, ↓reduceIte]))
  intro r hr
  have hfl := flats_len (f := brkR s) (m := 1000) (fun r => by have := flats_len (f := brkAt s r) (m := 1) (fun i => iff1_len1 _ _) s.nt; unfold brkR; omega) r
  obtain ⟨l2, e2, h2⟩ : ∃ x, x = l1 ++ flats (brkR s) r ∧ x.length ≤ l1.length + r * 1000 := ⟨_, rfl, by simp; omega⟩
  rw [← e2]
  have hsucc2 : l1 ++ flats (brkR s) (r + 1) = l2 ++ flats (brkAt s r) s.nt := by rw [e2, flats_succ, List.append_assoc]; rfl
  simp -dsimp -implicitDefEqProofs only [go_sem, eq_self, ↓reduceIte]
  (repeat' (first | (refine C_seq rfl ?_) | (refine C_block rfl ?_) | (refine C_skip rfl ?_; (try simp -dsimp -implicitDefEqProofs only [go_sem, eq_self, ↓reduceIte])) | (refine C_exit rfl ?_; (try simp -dsimp -implicitDefEqProofs only [go_sem, eq_self, ↓reduceIte])) | (refine C_cond rfl _ rfl (fun ht => ?_) (fun ht => ?_) <;> (try (simp only [nf] at ht)) <;> (try (exfalso; omega))) | ((first | (refine S_reg0 rfl [0,1,2,3,4,5,6,7,8,9,10,15,31,38,45,51,62,72,101,112,134,144,163] rfl rfl (fun K hK => ?_)) | (refine S_drw0 rfl [0,1,2,3,4,5,6,7,8,9,10,15,31,38,45,51,62,72,101,112,134,144,163] rfl (by kernel_rfl) rfl (fun K hK => ?_))); simp -dsimp -implicitDefEqProofs only [go_sem, eq_self, ↓reduceIte]; (repeat' (first | (refine And.intro ?_ ?_) | (refine gs_both (fun hb => ?_) (fun hb => ?_) <;> (have hg := hb; (try simp only [nfb] at hg); simp -dsimp -implicitDefEqProofs only [go_sem, hb, hg, eq_self, ↓reduceIte]; clear hb; (try simp only [nfe] at hg))))); any_goals ((first | (refine hK _ _ _ _ (fun hx => ?_)) | (refine hK _ _ _ _ (drawOk_names (fun i => i - k) (by simp only [List.map_cons, List.map_nil, shG, ↓reduceIte, Nat.add_sub_cancel_left, Nat.sub_self]; rfl) (by decide +kernel) (by simp -dsimp -implicitDefEqProofs only [go_sem, eq_self, ↓reduceIte])) (fun hx => ?_)) | (refine hK _ _ _ _ (drawOk_of (by kernel_rfl) (by simp -dsimp -implicitDefEqProofs only [go_sem, eq_self, ↓reduceIte])) (fun hx => ?_))); clear hx hK; simp -dsimp -implicitDefEqProofs only [go_sem, eq_self, ↓reduceIte]; (try simp (disch := omega) only [wrap_i64, wrap_u64, wrap_u32, wrap_u8]))) | omega))
  · refine M_forO (X := Nat) rfl [0,1,2,3,4,5,6,7,8,9,10,15,31,38,45,51,62,72,101,112,134,144,163] (k + 2) (fun i => [(6, .lit (.int .i64 (i : Int))), (3, accV (k + 1) ((l2 ++ flats (brkAt s r) i).map Flt.row))]) (fun i => accH (k + 1) 3 ((l2 ++ flats (brkAt s r) i).map Flt.row) [(k, ⟨7, true, [s.cells]⟩)]) (fun i => i ≤ s.nt) (fun i => s.nt - i) 0 ?_ (Nat.zero_le _) ?_
    · rw [flats_zero, List.append_nil]
      simp -dsimp -implicitDefEqProofs only [go_sem, eq_self, ↓reduceIte]
      exact Mv.wk (wk_low (by omega) (by simp -dsimp -implicitDefEqProofs only [go_sem, List.map_append, List.map_cons, List.map_nil, Flt.row, eq_self, ↓reduceIte]) (by simp -dsimp -implicitDefEqProofs only [go_sem, List.map_append, List.map_cons, List.map_nil, Flt.row, eq_self, ↓reduceIte]) (by simp -dsimp -implicitDefEqProofs only [go_sem, List.map_append, List.map_cons, List.map_nil, Flt.row, eq_self, ↓reduceIte]) (by simp -dsimp -implicitDefEqProofs only [go_sem, List.map_append, List.map_cons, List.map_nil, Flt.row, eq_self, ↓reduceIte]))
    intro i hi
    have hfi := flats_len (f := brkAt s r) (m := 1) (fun i => iff1_len1 _ _) i
    obtain ⟨l3, e3, h3⟩ : ∃ x, x = l2 ++ flats (brkAt s r) i ∧ x.length ≤ l2.length + i := ⟨_, rfl, by simp; omega⟩
    rw [← e3]
    have hsucc3 : l2 ++ flats (brkAt s r) (i + 1) = l3 ++ brkAt s r i := by rw [e3, flats_succ, List.append_assoc]
    simp -dsimp -implicitDefEqProofs only [go_sem, eq_self, ↓reduceIte]
    (repeat' (first | (refine C_seq rfl ?_) | (refine C_block rfl ?_) | (refine C_skip rfl ?_; (try simp -dsimp -implicitDefEqProofs only [go_sem, eq_self, ↓reduceIte])) | (refine C_exit rfl ?_; (try simp -dsimp -implicitDefEqProofs only [go_sem, eq_self, ↓reduceIte])) | (refine C_cond rfl _ rfl (fun ht => ?_) (fun ht => ?_) <;> (try (simp only [nf] at ht)) <;> (try (exfalso; omega))) | ((first | (refine S_reg0 rfl [0,1,2,3,4,5,6,7,8,9,10,15,31,38,45,51,62,72,101,112,134,144,163] rfl rfl (fun K hK => ?_)) | (refine S_drw0 rfl [0,1,2,3,4,5,6,7,8,9,10,15,31,38,45,51,62,72,101,112,134,144,163] rfl (by kernel_rfl) rfl (fun K hK => ?_))); simp -dsimp -implicitDefEqProofs only [go_sem, eq_self, ↓reduceIte]; (repeat' (first | (refine And.intro ?_ ?_) | (refine gs_both (fun hb => ?_) (fun hb => ?_) <;> (have hg := hb; (try simp only [nfb] at hg); simp -dsimp -implicitDefEqProofs only [go_sem, hb, hg, eq_self, ↓reduceIte]; clear hb; (try simp only [nfe] at hg))))); any_goals ((first | (refine hK _ _ _ _ (fun hx => ?_)) | (refine hK _ _ _ _ (drawOk_names (fun i => i - k) (by simp only [List.map_cons, List.map_nil, shG, ↓reduceIte, Nat.add_sub_cancel_left, Nat.sub_self]; rfl) (by decide +kernel) (by simp -dsimp -implicitDefEqProofs only [go_sem, eq_self, ↓reduceIte])) (fun hx => ?_)) | (refine hK _ _ _ _ (drawOk_of (by kernel_rfl) (by simp -dsimp -implicitDefEqProofs only [go_sem, eq_self, ↓reduceIte])) (fun hx => ?_))); clear hx hK; simp -dsimp -implicitDefEqProofs only [go_sem, eq_self, ↓reduceIte]; (try simp (disch := omega) only [wrap_i64, wrap_u64, wrap_u32, wrap_u8]))) | omega))
    · obtain ⟨b, eb⟩ : ∃ b, b = brk s i ((r : Int) + 4) := ⟨_, rfl⟩
      refine S_reg rfl [0,1,2,3,4,5,6,7,8,9,10,15,31,38,45,51,62,72,101,112,134,144,163] [.ret (.lit (.bool b))] rfl (fun K hK => ?_); simp -dsimp -implicitDefEqProofs only [go_sem, eq_self, ↓reduceIte]; (repeat' (first | (refine And.intro ?_ ?_) | (refine gs_both (fun hb => ?_) (fun hb => ?_) <;> (have hg := hb; (try simp only [nfb] at hg); simp -dsimp -implicitDefEqProofs only [go_sem, hb, hg, eq_self, ↓reduceIte]; clear hb; (try simp only [nfe] at hg))))); (any_goals ((refine hK _ _ _ _ (fun hx => ?_)); clear hx hK; simp -dsimp -implicitDefEqProofs only [go_sem, eq_self, ↓reduceIte]; (try simp (disch := omega) only [wrap_i64, wrap_u64, wrap_u32, wrap_u8]))); (all_goals (try omega))
      · rw [eb]; exact broken_ref s hs hw kc0 kc1 i (by omega) ((r : Int) + 4)
      (repeat' (first | (refine C_seq rfl ?_) | (refine C_block rfl ?_) | (refine C_skip rfl ?_; (try simp -dsimp -implicitDefEqProofs only [go_sem, eq_self, ↓reduceIte])) | (refine C_exit rfl ?_; (try simp -dsimp -implicitDefEqProofs only [go_sem, eq_self, ↓reduceIte])) | (refine C_cond rfl _ rfl (fun ht => ?_) (fun ht => ?_) <;> (try (simp only [nf] at ht)) <;> (try (exfalso; omega))) | ((first | (refine S_reg0 rfl [0,1,2,3,4,5,6,7,8,9,10,15,31,38,45,51,62,72,101,112,134,144,163] rfl rfl (fun K hK => ?_)) | (refine S_drw0 rfl [0,1,2,3,4,5,6,7,8,9,10,15,31,38,45,51,62,72,101,112,134,144,163] rfl (by kernel_rfl) rfl (fun K hK => ?_))); simp -dsimp -implicitDefEqProofs only [go_sem, eq_self, ↓reduceIte]; (repeat' (first | (refine And.intro ?_ ?_) | (refine gs_both (fun hb => ?_) (fun hb => ?_) <;> (have hg := hb; (try simp only [nfb] at hg); simp -dsimp -implicitDefEqProofs only [go_sem, hb, hg, eq_self, ↓reduceIte]; clear hb; (try simp only [nfe] at hg))))); any_goals ((first | (refine hK _ _ _ _ (fun hx => ?_)) | (refine hK _ _ _ _ (drawOk_names (fun i => i - k) (by simp only [List.map_cons, List.map_nil, shG, ↓reduceIte, Nat.add_sub_cancel_left, Nat.sub_self]; rfl) (by decide +kernel) (by simp -dsimp -implicitDefEqProofs only [go_sem, eq_self, ↓reduceIte])) (fun hx => ?_)) | (refine hK _ _ _ _ (drawOk_of (by kernel_rfl) (by simp -dsimp -implicitDefEqProofs only [go_sem, eq_self, ↓reduceIte])) (fun hx => ?_))); clear hx hK; simp -dsimp -implicitDefEqProofs only [go_sem, eq_self, ↓reduceIte]; (try simp (disch := omega) only [wrap_i64, wrap_u64, wrap_u32, wrap_u8]))) | omega))
      · refine ⟨i + 1, by omega, by omega, ?_⟩
        rw [hsucc3, show brkAt s r i = [⟨((r : Int) + 4), (i : Int), 0⟩] by rw [brkAt, ← eb, ht]; rfl]
        simp -dsimp -implicitDefEqProofs only [go_sem, eq_self, ↓reduceIte]
        exact Mv.app (k + 3) (k + 1) ⟨by omega, by omega⟩ ⟨by omega, by omega⟩ (wk_low (by omega) (by simp -dsimp -implicitDefEqProofs only [go_sem, List.map_append, List.map_cons, List.map_nil, Flt.row, eq_self, ↓reduceIte]) (by simp -dsimp -implicitDefEqProofs only [go_sem, List.map_append, List.map_cons, List.map_nil, Flt.row, eq_self, ↓reduceIte]) (by simp -dsimp -implicitDefEqProofs only [go_sem, List.map_append, List.map_cons, List.map_nil, Flt.row, eq_self, ↓reduceIte]) (by simp -dsimp -implicitDefEqProofs only [go_sem, List.map_append, List.map_cons, List.map_nil, Flt.row, eq_self, ↓reduceIte]))
      · refine ⟨i + 1, by omega, by omega, ?_⟩
        rw [hsucc3, show brkAt s r i = [] by rw [brkAt, ← eb, ht]; rfl, List.append_nil]
        simp -dsimp -implicitDefEqProofs only [go_sem, eq_self, ↓reduceIte]
        exact Mv.wk (wk_low (by omega) (by simp -dsimp -implicitDefEqProofs only [go_sem, List.map_append, List.map_cons, List.map_nil, Flt.row, eq_self, ↓reduceIte]) (by simp -dsimp -implicitDefEqProofs only [go_sem, List.map_append, List.map_cons, List.map_nil, Flt.row, eq_self, ↓reduceIte]) (by simp -dsimp -implicitDefEqProofs only [go_sem, List.map_append, List.map_cons, List.map_nil, Flt.row, eq_self, ↓reduceIte]) (by simp -dsimp -implicitDefEqProofs only [go_sem, List.map_append, List.map_cons, List.map_nil, Flt.row, eq_self, ↓reduceIte]))
    · have hin : i = s.nt := by omega
      refine ⟨r + 1, by omega, by omega, ?_⟩
      rw [hsucc2, ← hin, ← e3, show (((r + 1 : Nat) : Int) + 4) = (r : Int) + 4 + 1 by omega]
      (try (simp -dsimp -implicitDefEqProofs only [go_sem, eq_self, ↓reduceIte]))
      exact Mv.wk (wk_low (by omega) (by simp -dsimp -implicitDefEqProofs only [go_sem, List.map_append, List.map_cons, List.map_nil, Flt.row, eq_self, ↓reduceIte]) (by simp -dsimp -implicitDefEqProofs only [go_sem, List.map_append, List.map_cons, List.map_nil, Flt.row, eq_self, ↓reduceIte]) (by simp -dsimp -implicitDefEqProofs only [go_sem, List.map_append, List.map_cons, List.map_nil, Flt.row, eq_self, ↓reduceIte]) (by simp -dsimp -implicitDefEqProofs only [go_sem, List.map_append, List.map_cons, List.map_nil, Flt.row, eq_self, ↓reduceIte]))
  have hrn : r = 7 := by omega
  subst hrn
  clear hsucc2 hfl
  refine M_forO (X := Nat) rfl [0,1,2,3,4,5,6,7,8,9,10,15,31,38,45,51,62,72,101,112,134,144,163] (k + 2) (fun g => [(7, .lit (.int .i64 (g : Int))), (3, accV (k + 1) ((l2 ++ flats (sptR s) g).map Flt.row))]) (fun g => accH (k + 1) 3 ((l2 ++ flats (sptR s) g).map Flt.row) [(k, ⟨7, true, [s.cells]⟩)]) (fun g => 1 ≤ g ∧ g ≤ s.ns) (fun g => s.ns - g) 1 ?_ ⟨by omega, by omega⟩ ?_
  · rw [show flats (sptR s) 1 = [] from rfl, List.append_nil]
    simp -dsimp -implicitDefEqProofs only [go_sem, eq_self, ↓reduceIte]
    exact Mv.wk (wk_low (by omega) (by simp -dsimp -implicitDefEqProofs only [go_sem, List.map_append, List.map_cons, List.map_nil, Flt.row, eq_self, ↓reduceIte]) (by simp -dsimp -implicitDefEqProofs only [go_sem, List.map_append, List.map_cons, List.map_nil, Flt.row, eq_self, ↓reduceIte]) (by simp -dsimp -implicitDefEqProofs only [go_sem, List.map_append, List.map_cons, List.map_nil, Flt.row, eq_self, ↓reduceIte]) (by simp -dsimp -implicitDefEqProofs only [go_sem, List.map_append, List.map_cons, List.map_nil, Flt.row, eq_self, ↓reduceIte]))
  rintro g ⟨hg1, hg2⟩
  have hfl := flats_len' (f := sptR s) (m := 1000) g (fun g hg => by
    unfold sptR; split
    · simp
    · have := flats_len (f := sptAt s g) (m := 1) (fun i => iff1_len1 _ _) (s.nsp g); have := hnsp g (by omega); omega)
  obtain ⟨l3, e3, h3⟩ : ∃ x, x = l2 ++ flats (sptR s) g ∧ x.length ≤ l2.length + g * 1000 := ⟨_, rfl, by simp; omega⟩
  rw [← e3]
  have hsucc4 : l2 ++ flats (sptR s) (g + 1) = l3 ++ flats (sptAt s g) (s.nsp g) := by rw [e3, flats_succ, List.append_assoc, sptR, if_neg (by omega)]
  simp -dsimp -implicitDefEqProofs only [go_sem, eq_self, ↓reduceIte]
  (repeat' (first | (refine C_seq rfl ?_) | (refine C_block rfl ?_) | (refine C_skip rfl ?_; (try simp -dsimp -implicitDefEqProofs only [go_sem, eq_self, ↓reduceIte])) | (refine C_exit rfl ?_; (try simp -dsimp -implicitDefEqProofs only [go_sem, eq_self, ↓reduceIte])) | (refine C_cond rfl _ rfl (fun ht => ?_) (fun ht => ?_) <;> (try (simp only [nf] at ht)) <;> (try (exfalso; omega))) | ((first | (refine S_reg0 rfl [0,1,2,3,4,5,6,7,8,9,10,15,31,38,45,51,62,72,101,112,134,144,163] rfl rfl (fun K hK => ?_)) | (refine S_drw0 rfl [0,1,2,3,4,5,6,7,8,9,10,15,31,38,45,51,62,72,101,112,134,144,163] rfl (by kernel_rfl) rfl (fun K hK => ?_))); simp -dsimp -implicitDefEqProofs only [go_sem, eq_self, ↓reduceIte]; (repeat' (first | (refine And.intro ?_ ?_) | (refine gs_both (fun hb => ?_) (fun hb => ?_) <;> (have hg := hb; (try simp only [nfb] at hg); simp -dsimp -implicitDefEqProofs only [go_sem, hb, hg, eq_self, ↓reduceIte]; clear hb; (try simp only [nfe] at hg))))); any_goals ((first | (refine hK _ _ _ _ (fun hx => ?_)) | (refine hK _ _ _ _ (drawOk_names (fun i => i - k) (by simp only [List.map_cons, List.map_nil, shG, ↓reduceIte, Nat.add_sub_cancel_left, Nat.sub_self]; rfl) (by decide +kernel) (by simp -dsimp -implicitDefEqProofs only [go_sem, eq_self, ↓reduceIte])) (fun hx => ?_)) | (refine hK _ _ _ _ (drawOk_of (by kernel_rfl) (by simp -dsimp -implicitDefEqProofs only [go_sem, eq_self, ↓reduceIte])) (fun hx => ?_))); clear hx hK; simp -dsimp -implicitDefEqProofs only [go_sem, eq_self, ↓reduceIte]; (try simp (disch := omega) only [wrap_i64, wrap_u64, wrap_u32, wrap_u8]))) | omega))
  · have hpg : s.nsp g ≤ 1000 := hnsp g (by omega)
    refine M_forO (X := Nat) rfl [0,1,2,3,4,5,6,7,8,9,10,15,31,38,45,51,62,72,101,112,134,144,163] (k + 2) (fun c => [(8, .lit (.int .i64 (c : Int))), (3, accV (k + 1) ((l3 ++ flats (sptAt s g) c).map Flt.row))]) (fun c => accH (k + 1) 3 ((l3 ++ flats (sptAt s g) c).map Flt.row) [(k, ⟨7, true, [s.cells]⟩)]) (fun c => c ≤ s.nsp g) (fun c => s.nsp g - c) 0 ?_ (Nat.zero_le _) ?_
    · rw [flats_zero, List.append_nil]
      simp -dsimp -implicitDefEqProofs only [go_sem, eq_self, ↓reduceIte]
      exact Mv.wk (wk_low (by omega) (by simp -dsimp -implicitDefEqProofs only [go_sem, List.map_append, List.map_cons, List.map_nil, Flt.row, eq_self, ↓reduceIte]) (by simp -dsimp -implicitDefEqProofs only [go_sem, List.map_append, List.map_cons, List.map_nil, Flt.row, eq_self, ↓reduceIte]) (by simp -dsimp -implicitDefEqProofs only [go_sem, List.map_append, List.map_cons, List.map_nil, Flt.row, eq_self, ↓reduceIte]) (by simp -dsimp -implicitDefEqProofs only [go_sem, List.map_append, List.map_cons, List.map_nil, Flt.row, eq_self, ↓reduceIte]))
    intro c hc
    have hfi := flats_len (f := sptAt s g) (m := 1) (fun i => iff1_len1 _ _) c
    obtain ⟨l4, e4, h4⟩ : ∃ x, x = l3 ++ flats (sptAt s g) c ∧ x.length ≤ l3.length + c := ⟨_, rfl, by simp; omega⟩
    rw [← e4]
    have hsucc5 : l3 ++ flats (sptAt s g) (c + 1) = l4 ++ sptAt s g c := by rw [e4, flats_succ, List.append_assoc]
    simp -dsimp -implicitDefEqProofs only [go_sem, eq_self, ↓reduceIte]
    (repeat' (first | (refine C_seq rfl ?_) | (refine C_block rfl ?_) | (refine C_skip rfl ?_; (try simp -dsimp -implicitDefEqProofs only [go_sem, eq_self, ↓reduceIte])) | (refine C_exit rfl ?_; (try simp -dsimp -implicitDefEqProofs only [go_sem, eq_self, ↓reduceIte])) | (refine C_cond rfl _ rfl (fun ht => ?_) (fun ht => ?_) <;> (try (simp only [nf] at ht)) <;> (try (exfalso; omega))) | ((first | (refine S_reg0 rfl [0,1,2,3,4,5,6,7,8,9,10,15,31,38,45,51,62,72,101,112,134,144,163] rfl rfl (fun K hK => ?_)) | (refine S_drw0 rfl [0,1,2,3,4,5,6,7,8,9,10,15,31,38,45,51,62,72,101,112,134,144,163] rfl (by kernel_rfl) rfl (fun K hK => ?_))); simp -dsimp -implicitDefEqProofs only [go_sem, eq_self, ↓reduceIte]; (repeat' (first | (refine And.intro ?_ ?_) | (refine gs_both (fun hb => ?_) (fun hb => ?_) <;> (have hg := hb; (try simp only [nfb] at hg); simp -dsimp -implicitDefEqProofs only [go_sem, hb, hg, eq_self, ↓reduceIte]; clear hb; (try simp only [nfe] at hg))))); any_goals ((first | (refine hK _ _ _ _ (fun hx => ?_)) | (refine hK _ _ _ _ (drawOk_names (fun i => i - k) (by simp only [List.map_cons, List.map_nil, shG, ↓reduceIte, Nat.add_sub_cancel_left, Nat.sub_self]; rfl) (by decide +kernel) (by simp -dsimp -implicitDefEqProofs only [go_sem, eq_self, ↓reduceIte])) (fun hx => ?_)) | (refine hK _ _ _ _ (drawOk_of (by kernel_rfl) (by simp -dsimp -implicitDefEqProofs only [go_sem, eq_self, ↓reduceIte])) (fun hx => ?_))); clear hx hK; simp -dsimp -implicitDefEqProofs only [go_sem, eq_self, ↓reduceIte]; (try simp (disch := omega) only [wrap_i64, wrap_u64, wrap_u32, wrap_u8]))) | omega))
    · obtain ⟨b, eb⟩ : ∃ b, b = ent (s.sp g c).v (s.sp g c).r (s.wt g) := ⟨_, rfl⟩
      refine S_drw rfl [0,1,2,3,4,5,6,7,8,9,10,15,31,38,45,51,62,72,101,112,134,144,163] [.ret (.lit (.bool b))] (by kernel_rfl) rfl (fun K hK => ?_); simp -dsimp -implicitDefEqProofs only [go_sem, eq_self, ↓reduceIte]; (repeat' (first | (refine And.intro ?_ ?_) | (refine gs_both (fun hb => ?_) (fun hb => ?_) <;> (have hg := hb; (try simp only [nfb] at hg); simp -dsimp -implicitDefEqProofs only [go_sem, hb, hg, eq_self, ↓reduceIte]; clear hb; (try simp only [nfe] at hg))))); (any_goals ((first | (refine hK _ _ _ _ (drawOk_names (fun i => i - k) (by simp only [List.map_cons, List.map_nil, shG, ↓reduceIte, Nat.add_sub_cancel_left, Nat.sub_self]; rfl) (by decide +kernel) (by simp -dsimp -implicitDefEqProofs only [go_sem, eq_self, ↓reduceIte])) (fun hx => ?_)) | (refine hK _ _ _ _ (drawOk_of (by kernel_rfl) (by simp -dsimp -implicitDefEqProofs only [go_sem, eq_self, ↓reduceIte])) (fun hx => ?_))); clear hx hK; simp -dsimp -implicitDefEqProofs only [go_sem, eq_self, ↓reduceIte]; (try simp (disch := omega) only [wrap_i64, wrap_u64, wrap_u32, wrap_u8]))); (all_goals (try omega))
      · rw [eb]; exact entity_ref (s.sp g c).v (s.sp g c).r (s.wt g) (hw.sv g c) (hw.sr g c)
      (repeat' (first | (refine C_seq rfl ?_) | (refine C_block rfl ?_) | (refine C_skip rfl ?_; (try simp -dsimp -implicitDefEqProofs only [go_sem, eq_self, ↓reduceIte])) | (refine C_exit rfl ?_; (try simp -dsimp -implicitDefEqProofs only [go_sem, eq_self, ↓reduceIte])) | (refine C_cond rfl _ rfl (fun ht => ?_) (fun ht => ?_) <;> (try (simp only [nf] at ht)) <;> (try (exfalso; omega))) | ((first | (refine S_reg0 rfl [0,1,2,3,4,5,6,7,8,9,10,15,31,38,45,51,62,72,101,112,134,144,163] rfl rfl (fun K hK => ?_)) | (refine S_drw0 rfl [0,1,2,3,4,5,6,7,8,9,10,15,31,38,45,51,62,72,101,112,134,144,163] rfl (by kernel_rfl) rfl (fun K hK => ?_))); simp -dsimp -implicitDefEqProofs only [go_sem, eq_self, ↓reduceIte]; (repeat' (first | (refine And.intro ?_ ?_) | (refine gs_both (fun hb => ?_) (fun hb => ?_) <;> (have hg := hb; (try simp only [nfb] at hg); simp -dsimp -implicitDefEqProofs only [go_sem, hb, hg, eq_self, ↓reduceIte]; clear hb; (try simp only [nfe] at hg))))); any_goals ((first | (refine hK _ _ _ _ (fun hx => ?_)) | (refine hK _ _ _ _ (drawOk_names (fun i => i - k) (by simp only [List.map_cons, List.map_nil, shG, ↓reduceIte, Nat.add_sub_cancel_left, Nat.sub_self]; rfl) (by decide +kernel) (by simp -dsimp -implicitDefEqProofs only [go_sem, eq_self, ↓reduceIte])) (fun hx => ?_)) | (refine hK _ _ _ _ (drawOk_of (by kernel_rfl) (by simp -dsimp -implicitDefEqProofs only [go_sem, eq_self, ↓reduceIte])) (fun hx => ?_))); clear hx hK; simp -dsimp -implicitDefEqProofs only [go_sem, eq_self, ↓reduceIte]; (try simp (disch := omega) only [wrap_i64, wrap_u64, wrap_u32, wrap_u8]))) | omega))
      · refine ⟨c + 1, by omega, by omega, ?_⟩
        rw [hsucc5, show sptAt s g c = [⟨11, (g : Int), (c : Int)⟩] by rw [sptAt, ← eb, ht]; rfl]
        simp -dsimp -implicitDefEqProofs only [go_sem, eq_self, ↓reduceIte]
        exact Mv.app (k + 3) (k + 1) ⟨by omega, by omega⟩ ⟨by omega, by omega⟩ (wk_low (by omega) (by simp -dsimp -implicitDefEqProofs only [go_sem, List.map_append, List.map_cons, List.map_nil, Flt.row, eq_self, ↓reduceIte]) (by simp -dsimp -implicitDefEqProofs only [go_sem, List.map_append, List.map_cons, List.map_nil, Flt.row, eq_self, ↓reduceIte]) (by simp -dsimp -implicitDefEqProofs only [go_sem, List.map_append, List.map_cons, List.map_nil, Flt.row, eq_self, ↓reduceIte]) (by simp -dsimp -implicitDefEqProofs only [go_sem, List.map_append, List.map_cons, List.map_nil, Flt.row, eq_self, ↓reduceIte]))
      · refine ⟨c + 1, by omega, by omega, ?_⟩
        rw [hsucc5, show sptAt s g c = [] by rw [sptAt, ← eb, ht]; rfl, List.append_nil]
        simp -dsimp -implicitDefEqProofs only [go_sem, eq_self, ↓reduceIte]
        exact Mv.wk (wk_low (by omega) (by simp -dsimp -implicitDefEqProofs only [go_sem, List.map_append, List.map_cons, List.map_nil, Flt.row, eq_self, ↓reduceIte]) (by simp -dsimp -implicitDefEqProofs only [go_sem, List.map_append, List.map_cons, List.map_nil, Flt.row, eq_self, ↓reduceIte]) (by simp -dsimp -implicitDefEqProofs only [go_sem, List.map_append, List.map_cons, List.map_nil, Flt.row, eq_self, ↓reduceIte]) (by simp -dsimp -implicitDefEqProofs only [go_sem, List.map_append, List.map_cons, List.map_nil, Flt.row, eq_self, ↓reduceIte]))
    · have hin : c = s.nsp g := by omega
      refine ⟨g + 1, ⟨by omega, by omega⟩, by omega, ?_⟩
      rw [hsucc4, ← hin, ← e4]
      simp -dsimp -implicitDefEqProofs only [go_sem, eq_self, ↓reduceIte]
      exact Mv.wk (wk_low (by omega) (by simp -dsimp -implicitDefEqProofs only [go_sem, List.map_append, List.map_cons, List.map_nil, Flt.row, eq_self, ↓reduceIte]) (by simp -dsimp -implicitDefEqProofs only [go_sem, List.map_append, List.map_cons, List.map_nil, Flt.row, eq_self, ↓reduceIte]) (by simp -dsimp -implicitDefEqProofs only [go_sem, List.map_append, List.map_cons, List.map_nil, Flt.row, eq_self, ↓reduceIte]) (by simp -dsimp -implicitDefEqProofs only [go_sem, List.map_append, List.map_cons, List.map_nil, Flt.row, eq_self, ↓reduceIte]))
  have hgn : g = s.ns := by omega
  subst hgn
  clear hsucc4 hfl
  have hst : (s.cpus.toNat : Int) = s.cpus := by omega
  have hsp0 := ksp 0 (by omega)
  refine M_forO (X := Nat) rfl [0,1,2,3,4,5,6,7,8,9,10,15,31,38,45,51,62,72,101,112,134,144,163] (k + 2) (fun c => [(9, .lit (.int .i64 (c : Int))), (3, accV (k + 1) ((l3 ++ flats (rootAt s) c).map Flt.row))]) (fun c => accH (k + 1) 3 ((l3 ++ flats (rootAt s) c).map Flt.row) [(k, ⟨7, true, [s.cells]⟩)]) (fun c => c ≤ s.cpus.toNat) (fun c => s.cpus.toNat - c) 0 ?_ (Nat.zero_le _) ?_
  · rw [flats_zero, List.append_nil]
    simp -dsimp -implicitDefEqProofs only [go_sem, eq_self, ↓reduceIte]
    exact Mv.wk (wk_low (by omega) (by simp -dsimp -implicitDefEqProofs only [go_sem, List.map_append, List.map_cons, List.map_nil, Flt.row, eq_self, ↓reduceIte]) (by simp -dsimp -implicitDefEqProofs only [go_sem, List.map_append, List.map_cons, List.map_nil, Flt.row, eq_self, ↓reduceIte]) (by simp -dsimp -implicitDefEqProofs only [go_sem, List.map_append, List.map_cons, List.map_nil, Flt.row, eq_self, ↓reduceIte]) (by simp -dsimp -implicitDefEqProofs only [go_sem, List.map_append, List.map_cons, List.map_nil, Flt.row, eq_self, ↓reduceIte]))
  intro c hc
  have hfl := flats_len (f := rootAt s) (m := 1) (fun c => iff1_len1 _ _) c
  obtain ⟨l4, e4, h4⟩ : ∃ x, x = l3 ++ flats (rootAt s) c ∧ x.length ≤ l3.length + c := ⟨_, rfl, by simp; omega⟩
  rw [← e4]
  have hsucc6 : l3 ++ flats (rootAt s) (c + 1) = l4 ++ rootAt s c := by rw [e4, flats_succ, List.append_assoc]
  simp -dsimp -implicitDefEqProofs only [go_sem, eq_self, ↓reduceIte]
  (repeat' (first | (refine C_seq rfl ?_) | (refine C_block rfl ?_) | (refine C_skip rfl ?_; (try simp -dsimp -implicitDefEqProofs only [go_sem, eq_self, ↓reduceIte])) | (refine C_exit rfl ?_; (try simp -dsimp -implicitDefEqProofs only [go_sem, eq_self, ↓reduceIte])) | (refine C_cond rfl _ rfl (fun ht => ?_) (fun ht => ?_) <;> (try (simp only [nf] at ht)) <;> (try (exfalso; omega))) | ((first | (refine S_reg0 rfl [0,1,2,3,4,5,6,7,8,9,10,15,31,38,45,51,62,72,101,112,134,144,163] rfl rfl (fun K hK => ?_)) | (refine S_drw0 rfl [0,1,2,3,4,5,6,7,8,9,10,15,31,38,45,51,62,72,101,112,134,144,163] rfl (by kernel_rfl) rfl (fun K hK => ?_))); simp -dsimp -implicitDefEqProofs only [go_sem, eq_self, ↓reduceIte]; (repeat' (first | (refine And.intro ?_ ?_) | (refine gs_both (fun hb => ?_) (fun hb => ?_) <;> (have hg := hb; (try simp only [nfb] at hg); simp -dsimp -implicitDefEqProofs only [go_sem, hb, hg, eq_self, ↓reduceIte]; clear hb; (try simp only [nfe] at hg))))); any_goals ((first | (refine hK _ _ _ _ (fun hx => ?_)) | (refine hK _ _ _ _ (drawOk_names (fun i => i - k) (by simp only [List.map_cons, List.map_nil, shG, ↓reduceIte, Nat.add_sub_cancel_left, Nat.sub_self]; rfl) (by decide +kernel) (by simp -dsimp -implicitDefEqProofs only [go_sem, eq_self, ↓reduceIte])) (fun hx => ?_)) | (refine hK _ _ _ _ (drawOk_of (by kernel_rfl) (by simp -dsimp -implicitDefEqProofs only [go_sem, eq_self, ↓reduceIte])) (fun hx => ?_))); clear hx hK; simp -dsimp -implicitDefEqProofs only [go_sem, eq_self, ↓reduceIte]; (try simp (disch := omega) only [wrap_i64, wrap_u64, wrap_u32, wrap_u8]))) | omega))
  · refine ⟨c + 1, by omega, by omega, ?_⟩
    rw [hsucc6, show rootAt s c = [⟨12, (c : Int), 0⟩] by rw [rootAt, decide_eq_true (by omega)]; rfl]
    simp -dsimp -implicitDefEqProofs only [go_sem, eq_self, ↓reduceIte]
    exact Mv.app (k + 3) (k + 1) ⟨by omega, by omega⟩ ⟨by omega, by omega⟩ (wk_low (by omega) (by simp -dsimp -implicitDefEqProofs only [go_sem, List.map_append, List.map_cons, List.map_nil, Flt.row, eq_self, ↓reduceIte]) (by simp -dsimp -implicitDefEqProofs only [go_sem, List.map_append, List.map_cons, List.map_nil, Flt.row, eq_self, ↓reduceIte]) (by simp -dsimp -implicitDefEqProofs only [go_sem, List.map_append, List.map_cons, List.map_nil, Flt.row, eq_self, ↓reduceIte]) (by simp -dsimp -implicitDefEqProofs only [go_sem, List.map_append, List.map_cons, List.map_nil, Flt.row, eq_self, ↓reduceIte]))
  · refine ⟨c + 1, by omega, by omega, ?_⟩
    rw [hsucc6, show rootAt s c = [] by rw [rootAt, decide_eq_false (by omega)]; rfl, List.append_nil]
    simp -dsimp -implicitDefEqProofs only [go_sem, eq_self, ↓reduceIte]
    exact Mv.wk (wk_low (by omega) (by simp -dsimp -implicitDefEqProofs only [go_sem, List.map_append, List.map_cons, List.map_nil, Flt.row, eq_self, ↓reduceIte]) (by simp -dsimp -implicitDefEqProofs only [go_sem, List.map_append, List.map_cons, List.map_nil, Flt.row, eq_self, ↓reduceIte]) (by simp -dsimp -implicitDefEqProofs only [go_sem, List.map_append, List.map_cons, List.map_nil, Flt.row, eq_self, ↓reduceIte]) (by simp -dsimp -implicitDefEqProofs only [go_sem, List.map_append, List.map_cons, List.map_nil, Flt.row, eq_self, ↓reduceIte]))
  · refine ⟨c + 1, by omega, by omega, ?_⟩
    rw [hsucc6, show rootAt s c = [⟨12, (c : Int), 0⟩] by rw [rootAt, decide_eq_true (by omega)]; rfl]
    simp -dsimp -implicitDefEqProofs only [go_sem, eq_self, ↓reduceIte]
    exact Mv.app (k + 3) (k + 1) ⟨by omega, by omega⟩ ⟨by omega, by omega⟩ (wk_low (by omega) (by simp -dsimp -implicitDefEqProofs only [go_sem, List.map_append, List.map_cons, List.map_nil, Flt.row, eq_self, ↓reduceIte]) (by simp -dsimp -implicitDefEqProofs only [go_sem, List.map_append, List.map_cons, List.map_nil, Flt.row, eq_self, ↓reduceIte]) (by simp -dsimp -implicitDefEqProofs only [go_sem, List.map_append, List.map_cons, List.map_nil, Flt.row, eq_self, ↓reduceIte]) (by simp -dsimp -implicitDefEqProofs only [go_sem, List.map_append, List.map_cons, List.map_nil, Flt.row, eq_self, ↓reduceIte]))
  have hcn : c = s.cpus.toNat := by omega
  subst hcn
  clear hsucc6 hfl
  refine M_forO (X := Nat) rfl [0,1,2,3,4,5,6,7,8,9,10,15,31,38,45,51,62,72,101,112,134,144,163] (k + 2) (fun c => [(10, .lit (.int .i64 (c : Int))), (3, accV (k + 1) ((l4 ++ flats (curAt s) c).map Flt.row))]) (fun c => accH (k + 1) 3 ((l4 ++ flats (curAt s) c).map Flt.row) [(k, ⟨7, true, [s.cells]⟩)]) (fun c => c ≤ s.cpus.toNat) (fun c => s.cpus.toNat - c) 0 ?_ (Nat.zero_le _) ?_
  · rw [flats_zero, List.append_nil]
    simp -dsimp -implicitDefEqProofs only [go_sem, eq_self, ↓reduceIte]
    exact Mv.wk (wk_low (by omega) (by simp -dsimp -implicitDefEqProofs only [go_sem, List.map_append, List.map_cons, List.map_nil, Flt.row, eq_self, ↓reduceIte]) (by simp -dsimp -implicitDefEqProofs only [go_sem, List.map_append, List.map_cons, List.map_nil, Flt.row, eq_self, ↓reduceIte]) (by simp -dsimp -implicitDefEqProofs only [go_sem, List.map_append, List.map_cons, List.map_nil, Flt.row, eq_self, ↓reduceIte]) (by simp -dsimp -implicitDefEqProofs only [go_sem, List.map_append, List.map_cons, List.map_nil, Flt.row, eq_self, ↓reduceIte]))
  intro c hc
  have hfl := flats_len (f := curAt s) (m := 1) (fun c => iff1_len1 _ _) c
  obtain ⟨l5, e5, h5⟩ : ∃ x, x = l4 ++ flats (curAt s) c ∧ x.length ≤ l4.length + c := ⟨_, rfl, by simp; omega⟩
  rw [← e5]
  have hsucc7 : l4 ++ flats (curAt s) (c + 1) = l5 ++ curAt s c := by rw [e5, flats_succ, List.append_assoc]
  simp -dsimp -implicitDefEqProofs only [go_sem, eq_self, ↓reduceIte]
  (repeat' (first | (refine C_seq rfl ?_) | (refine C_block rfl ?_) | (refine C_skip rfl ?_; (try simp -dsimp -implicitDefEqProofs only [go_sem, eq_self, ↓reduceIte])) | (refine C_exit rfl ?_; (try simp -dsimp -implicitDefEqProofs only [go_sem, eq_self, ↓reduceIte])) | (refine C_cond rfl _ rfl (fun ht => ?_) (fun ht => ?_) <;> (try (simp only [nf] at ht)) <;> (try (exfalso; omega))) | ((first | (refine S_reg0 rfl [0,1,2,3,4,5,6,7,8,9,10,15,31,38,45,51,62,72,101,112,134,144,163] rfl rfl (fun K hK => ?_)) | (refine S_drw0 rfl [0,1,2,3,4,5,6,7,8,9,10,15,31,38,45,51,62,72,101,112,134,144,163] rfl (by kernel_rfl) rfl (fun K hK => ?_))); simp -dsimp -implicitDefEqProofs only [go_sem, eq_self, ↓reduceIte]; (repeat' (first | (refine And.intro ?_ ?_) | (refine gs_both (fun hb => ?_) (fun hb => ?_) <;> (have hg := hb; (try simp only [nfb] at hg); simp -dsimp -implicitDefEqProofs only [go_sem, hb, hg, eq_self, ↓reduceIte]; clear hb; (try simp only [nfe] at hg))))); any_goals ((first | (refine hK _ _ _ _ (fun hx => ?_)) | (refine hK _ _ _ _ (drawOk_names (fun i => i - k) (by simp only [List.map_cons, List.map_nil, shG, ↓reduceIte, Nat.add_sub_cancel_left, Nat.sub_self]; rfl) (by decide +kernel) (by simp -dsimp -implicitDefEqProofs only [go_sem, eq_self, ↓reduceIte])) (fun hx => ?_)) | (refine hK _ _ _ _ (drawOk_of (by kernel_rfl) (by simp -dsimp -implicitDefEqProofs only [go_sem, eq_self, ↓reduceIte])) (fun hx => ?_))); clear hx hK; simp -dsimp -implicitDefEqProofs only [go_sem, eq_self, ↓reduceIte]; (try simp (disch := omega) only [wrap_i64, wrap_u64, wrap_u32, wrap_u8]))) | omega))
  · obtain ⟨b, eb⟩ : ∃ b, b = anyB (isReady s (s.cur c) c) s.nt := ⟨_, rfl⟩
    refine S_drw rfl [0,1,2,3,4,5,6,7,8,9,10,15,31,38,45,51,62,72,101,112,134,144,163] [.ret (.lit (.bool b))] (by kernel_rfl) rfl (fun K hK => ?_); simp -dsimp -implicitDefEqProofs only [go_sem, eq_self, ↓reduceIte]; (repeat' (first | (refine And.intro ?_ ?_) | (refine gs_both (fun hb => ?_) (fun hb => ?_) <;> (have hg := hb; (try simp only [nfb] at hg); simp -dsimp -implicitDefEqProofs only [go_sem, hb, hg, eq_self, ↓reduceIte]; clear hb; (try simp only [nfe] at hg))))); (any_goals ((first | (refine hK _ _ _ _ (drawOk_names (fun i => i - k) (by simp only [List.map_cons, List.map_nil, shG, ↓reduceIte, Nat.add_sub_cancel_left, Nat.sub_self]; rfl) (by decide +kernel) (by simp -dsimp -implicitDefEqProofs only [go_sem, eq_self, ↓reduceIte])) (fun hx => ?_)) | (refine hK _ _ _ _ (drawOk_of (by kernel_rfl) (by simp -dsimp -implicitDefEqProofs only [go_sem, eq_self, ↓reduceIte])) (fun hx => ?_))); clear hx hK; simp -dsimp -implicitDefEqProofs only [go_sem, eq_self, ↓reduceIte]; (try simp (disch := omega) only [wrap_i64, wrap_u64, wrap_u32, wrap_u8]))); (all_goals (try omega))
    · rw [eb]; exact ready_ref s (s.cur c) c hnt
    all_goals (repeat' (first | (refine C_seq rfl ?_) | (refine C_block rfl ?_) | (refine C_skip rfl ?_; (try simp -dsimp -implicitDefEqProofs only [go_sem, eq_self, ↓reduceIte])) | (refine C_exit rfl ?_; (try simp -dsimp -implicitDefEqProofs only [go_sem, eq_self, ↓reduceIte])) | (refine C_cond rfl _ rfl (fun ht => ?_) (fun ht => ?_) <;> (try (simp only [nf] at ht)) <;> (try (exfalso; omega))) | ((first | (refine S_reg0 rfl [0,1,2,3,4,5,6,7,8,9,10,15,31,38,45,51,62,72,101,112,134,144,163] rfl rfl (fun K hK => ?_)) | (refine S_drw0 rfl [0,1,2,3,4,5,6,7,8,9,10,15,31,38,45,51,62,72,101,112,134,144,163] rfl (by kernel_rfl) rfl (fun K hK => ?_))); simp -dsimp -implicitDefEqProofs only [go_sem, eq_self, ↓reduceIte]; (repeat' (first | (refine And.intro ?_ ?_) | (refine gs_both (fun hb => ?_) (fun hb => ?_) <;> (have hg := hb; (try simp only [nfb] at hg); simp -dsimp -implicitDefEqProofs only [go_sem, hb, hg, eq_self, ↓reduceIte]; clear hb; (try simp only [nfe] at hg))))); any_goals ((first | (refine hK _ _ _ _ (fun hx => ?_)) | (refine hK _ _ _ _ (drawOk_names (fun i => i - k) (by simp only [List.map_cons, List.map_nil, shG, ↓reduceIte, Nat.add_sub_cancel_left, Nat.sub_self]; rfl) (by decide +kernel) (by simp -dsimp -implicitDefEqProofs only [go_sem, eq_self, ↓reduceIte])) (fun hx => ?_)) | (refine hK _ _ _ _ (drawOk_of (by kernel_rfl) (by simp -dsimp -implicitDefEqProofs only [go_sem, eq_self, ↓reduceIte])) (fun hx => ?_))); clear hx hK; simp -dsimp -implicitDefEqProofs only [go_sem, eq_self, ↓reduceIte]; (try simp (disch := omega) only [wrap_i64, wrap_u64, wrap_u32, wrap_u8]))) | omega))
    · refine ⟨c + 1, by omega, by omega, ?_⟩
      rw [hsucc7, show curAt s c = [⟨13, (c : Int), 0⟩] by rw [curAt, ← eb, ht, decide_eq_true hg]; rfl]
      simp -dsimp -implicitDefEqProofs only [go_sem, eq_self, ↓reduceIte]
      exact Mv.app (k + 3) (k + 1) ⟨by omega, by omega⟩ ⟨by omega, by omega⟩ (wk_low (by omega) (by simp -dsimp -implicitDefEqProofs only [go_sem, List.map_append, List.map_cons, List.map_nil, Flt.row, eq_self, ↓reduceIte]) (by simp -dsimp -implicitDefEqProofs only [go_sem, List.map_append, List.map_cons, List.map_nil, Flt.row, eq_self, ↓reduceIte]) (by simp -dsimp -implicitDefEqProofs only [go_sem, List.map_append, List.map_cons, List.map_nil, Flt.row, eq_self, ↓reduceIte]) (by simp -dsimp -implicitDefEqProofs only [go_sem, List.map_append, List.map_cons, List.map_nil, Flt.row, eq_self, ↓reduceIte]))
    · refine ⟨c + 1, by omega, by omega, ?_⟩
      rw [hsucc7, show curAt s c = [] by rw [curAt, ← eb, ht, Bool.not_true, Bool.and_false]; rfl, List.append_nil]
      simp -dsimp -implicitDefEqProofs only [go_sem, eq_self, ↓reduceIte]
      exact Mv.wk (wk_low (by omega) (by simp -dsimp -implicitDefEqProofs only [go_sem, List.map_append, List.map_cons, List.map_nil, Flt.row, eq_self, ↓reduceIte]) (by simp -dsimp -implicitDefEqProofs only [go_sem, List.map_append, List.map_cons, List.map_nil, Flt.row, eq_self, ↓reduceIte]) (by simp -dsimp -implicitDefEqProofs only [go_sem, List.map_append, List.map_cons, List.map_nil, Flt.row, eq_self, ↓reduceIte]) (by simp -dsimp -implicitDefEqProofs only [go_sem, List.map_append, List.map_cons, List.map_nil, Flt.row, eq_self, ↓reduceIte]))
    · refine ⟨c + 1, by omega, by omega, ?_⟩
      rw [hsucc7, show curAt s c = [] by rw [curAt, decide_eq_false (fun h => h hg), Bool.false_and]; rfl, List.append_nil]
      simp -dsimp -implicitDefEqProofs only [go_sem, eq_self, ↓reduceIte]
      exact Mv.wk (wk_low (by omega) (by simp -dsimp -implicitDefEqProofs only [go_sem, List.map_append, List.map_cons, List.map_nil, Flt.row, eq_self, ↓reduceIte]) (by simp -dsimp -implicitDefEqProofs only [go_sem, List.map_append, List.map_cons, List.map_nil, Flt.row, eq_self, ↓reduceIte]) (by simp -dsimp -implicitDefEqProofs only [go_sem, List.map_append, List.map_cons, List.map_nil, Flt.row, eq_self, ↓reduceIte]) (by simp -dsimp -implicitDefEqProofs only [go_sem, List.map_append, List.map_cons, List.map_nil, Flt.row, eq_self, ↓reduceIte]))
  · have hcn : c = s.cpus.toNat := by omega
    have hL : l5 = partsL s := by rw [e5, e4, e3, e2, e1, partsL, hcn]; simp
    refine M_racc rfl (id := k + 1) (s := 3) (l := List.map Flt.row l5) 2 (by simp -dsimp -implicitDefEqProofs only [go_sem, List.map_append, List.map_cons, List.map_nil, Flt.row, eq_self, ↓reduceIte]) (by simp -dsimp -implicitDefEqProofs only [go_sem, List.map_append, List.map_cons, List.map_nil, Flt.row, eq_self, ↓reduceIte]) ?_
    exact ⟨_, rfl, by rw [eR, hL]; exact VLe.refl _⟩
end Go.Proofs.T
end

section
set_option linter.unusedVariables false
set_option linter.unusedSimpArgs false
namespace Go.Proofs.T
open Go Go.AM Go.Proofs
set_option linter.unusedSimpArgs false
set_option linter.unusedVariables false
set_option maxRecDepth 4000
variable {Γ : List (Nat × List AVal)}
structure Mem where
  v : Int
  a : Int
  b : Int
def Mem.row (m : Mem) : List AVal := [.lit (.int .u64 m.v), .lit (.int .i64 m.a), .lit (.int .i64 m.b)]
attribute [go_sem] Mem.row
def flatM (f : Nat → List Mem) : Nat → List Mem
  | 0 => []
  | n + 1 => flatM f n ++ f n
theorem flatM_zero {f : Nat → List Mem} : flatM f 0 = [] := rfl
theorem flatM_succ {f : Nat → List Mem} {n : Nat} : flatM f (n + 1) = flatM f n ++ f n := rfl
theorem flatM_len {f : Nat → List Mem} {m : Nat} (h : ∀ i, (f i).length ≤ m) : ∀ n, (flatM f n).length ≤ n * m
  | 0 => by simp [flatM]
  | n + 1 => by have := flatM_len h n; have := h n; simp only [flatM, List.length_append, Nat.add_mul, Nat.one_mul]; omega
def ifM (b : Bool) (m : Mem) : List Mem := if b = true then [m] else []
theorem ifM_len (b : Bool) (m : Mem) : (ifM b m).length ≤ 1 := by unfold ifM; split <;> simp
def inQ (s : St) (g c : Int) (i : Nat) : Bool := (s.tsk i).ready && (decide ((s.tsk i).group = g) && decide ((s.tsk i).cpu = c))
def memT (s : St) (g c i : Nat) : List Mem := ifM (inQ s g c i) ⟨(s.tsk i).v, 0, (s.tsk i).id⟩
def memF (s : St) (c : Nat) : Nat → Nat → List Mem
  | 0, g => flatM (memT s g c) s.nt
  | f + 1, g => flatM (memT s g c) s.nt ++ flatM (fun h => ifM (decide (1 ≤ h ∧ s.par h = (g : Int)) && !(memF s c f h).isEmpty) ⟨(s.sp h c).v, 1, (h : Int)⟩) s.ns
def memS (s : St) (c g : Nat) (sub : Nat → List Mem) (h : Nat) : List Mem := ifM (decide (1 ≤ h ∧ s.par h = (g : Int)) && !(sub h).isEmpty) ⟨(s.sp h c).v, 1, (h : Int)⟩
set_option maxHeartbeats 4000000 in
theorem members_step (s : St) (hs : s.Small) (hp : PartOk s) (c : Nat) (hc : (c : Int) < s.cpus) (g : Nat) (sub : Nat → List Mem)
    (hsub : ∀ h, 1 ≤ h → h < s.ns → s.par h = (g : Int) → Pure Tryd.prog Γ 53 [.agg s.cells, .lit (.int .i64 (h : Int)), .lit (.int .i64 (c : Int))] (rows 3 ((sub h).map Mem.row))) :
    Pure Tryd.prog Γ 53 [.agg s.cells, .lit (.int .i64 (g : Int)), .lit (.int .i64 (c : Int))] (rows 3 ((flatM (memT s g c) s.nt ++ flatM (memS s c g sub) s.ns).map Mem.row)) := by
  obtain ⟨hng, hnk, hnu, hnt, hns, hnsp⟩ := id hs
  obtain ⟨ksp, kng, kns1, kc0, kc1, knu, k12⟩ := id hp
  refine Pure_at Tryd.func53 rfl 84 rfl (Nat.le_of_ble_eq_true rfl) rfl fun k => ?_
  obtain ⟨R, eR⟩ : ∃ R, R = (flatM (memT s g c) s.nt ++ flatM (memS s c g sub) s.ns).map Mem.row := ⟨_, rfl⟩
  rw [← eR]
  (repeat' (first | (refine C_seq rfl ?_) | (refine C_block rfl ?_) | (refine C_skip rfl ?_; (try simp -dsimp -implicitDefEqProofs only [go_sem, eq_self, ↓reduceIte])) | (refine C_exit rfl ?_; (try simp -dsimp -implicitDefEqProofs only [go_sem, eq_self, ↓reduceIte])) | (refine C_cond rfl _ rfl (fun ht => ?_) (fun ht => ?_) <;> (try (simp only [nf] at ht)) <;> (try (exfalso; omega))) | ((first | (refine S_reg0 rfl [0,1,2,3,6,7,8,9,10,15,36,49,68] rfl rfl (fun K hK => ?_)) | (refine S_drw0 rfl [0,1,2,3,6,7,8,9,10,15,36,49,68] rfl (by kernel_rfl) rfl (fun K hK => ?_))); simp -dsimp -implicitDefEqProofs only [go_sem, eq_self, ↓reduceIte]; (repeat' (first | (refine And.intro ?_ ?_) | (refine gs_both (fun hb => ?_) (fun hb => ?_) <;> (have hg := hb; (try simp only [nfb] at hg); simp -dsimp -implicitDefEqProofs only [go_sem, hb, hg, eq_self, ↓reduceIte]; clear hb; (try simp only [nfe] at hg))))); any_goals ((first | (refine hK _ _ _ _ (fun hx => ?_)) | (refine hK _ _ _ _ (drawOk_names (fun i => i - k) (by simp only [List.map_cons, List.map_nil, shG, ↓reduceIte, Nat.add_sub_cancel_left, Nat.sub_self]; rfl) (by decide +kernel) (by simp -dsimp -implicitDefEqProofs only [go_sem, eq_self, ↓reduceIte])) (fun hx => ?_)) | (refine hK _ _ _ _ (drawOk_of (by kernel_rfl) (by simp -dsimp -implicitDefEqProofs only [go_sem, eq_self, ↓reduceIte])) (fun hx => ?_))); clear hx hK; simp -dsimp -implicitDefEqProofs only [go_sem, eq_self, ↓reduceIte]; (try simp (disch := omega) only [wrap_i64, wrap_u64, wrap_u32, wrap_u8]))) | omega))
  refine M_forO (X := Nat) rfl [0,1,2,3,6,7,8,9,10,15,36,49,68] (k + 2) (fun i => [(8, .lit (.int .i64 (i : Int))), (7, accV (k + 1) ((flatM (memT s g c) i).map Mem.row))]) (fun i => accH (k + 1) 3 ((flatM (memT s g c) i).map Mem.row) [(k, ⟨7, true, [s.cells]⟩)]) (fun i => i ≤ s.nt) (fun i => s.nt - i) 0 ?_ (Nat.zero_le _) ?_
  · rw [flatM_zero, List.map_nil]
    simp -dsimp -implicitDefEqProofs only [go_sem, eq_self, ↓reduceIte]
    exact Mv.wk (wk_low (by omega) (by simp -dsimp -implicitDefEqProofs only [go_sem, List.map_append, List.map_cons, List.map_nil, Flt.row, eq_self, ↓reduceIte]) (by simp -dsimp -implicitDefEqProofs only [go_sem, List.map_append, List.map_cons, List.map_nil, Flt.row, eq_self, ↓reduceIte]) (by simp -dsimp -implicitDefEqProofs only [go_sem, List.map_append, List.map_cons, List.map_nil, Flt.row, eq_self, ↓reduceIte]) (by simp -dsimp -implicitDefEqProofs only [go_sem, List.map_append, List.map_cons, List.map_nil, Flt.row, eq_self, ↓reduceIte]))
  intro i hi
  have hfl := flatM_len (f := memT s g c) (m := 1) (fun i => ifM_len _ _) i
  obtain ⟨l1, e1, h1⟩ : ∃ x, x = flatM (memT s g c) i ∧ x.length ≤ i := ⟨_, rfl, by omega⟩
  rw [← e1]
  have hsucc : flatM (memT s g c) (i + 1) = l1 ++ memT s g c i := by rw [e1]; rfl
  simp -dsimp -implicitDefEqProofs only [go_sem, eq_self, ↓reduceIte]
  (repeat' (first | (refine C_seq rfl ?_) | (refine C_block rfl ?_) | (refine C_skip rfl ?_; (try simp -dsimp -implicitDefEqProofs only [go_sem, eq_self, ↓reduceIte])) | (refine C_exit rfl ?_; (try simp -dsimp -implicitDefEqProofs only [go_sem, eq_self, ↓reduceIte])) | (refine C_cond rfl _ rfl (fun ht => ?_) (fun ht => ?_) <;> (try (simp only [nf] at ht)) <;> (try (exfalso; omega))) | ((first | (refine S_reg0 rfl [0,1,2,3,6,7,8,9,10,15,36,49,68] rfl rfl (fun K hK => ?_)) | (refine S_drw0 rfl [0,1,2,3,6,7,8,9,10,15,36,49,68] rfl (by kernel_rfl) rfl (fun K hK => ?_))); simp -dsimp -implicitDefEqProofs only [go_sem, eq_self, ↓reduceIte]; (repeat' (first | (refine And.intro ?_ ?_) | (refine gs_both (fun hb => ?_) (fun hb => ?_) <;> (have hg := hb; (try simp only [nfb] at hg); simp -dsimp -implicitDefEqProofs only [go_sem, hb, hg, eq_self, ↓reduceIte]; clear hb; (try simp only [nfe] at hg))))); any_goals ((first | (refine hK _ _ _ _ (fun hx => ?_)) | (refine hK _ _ _ _ (drawOk_names (fun i => i - k) (by simp only [List.map_cons, List.map_nil, shG, ↓reduceIte, Nat.add_sub_cancel_left, Nat.sub_self]; rfl) (by decide +kernel) (by simp -dsimp -implicitDefEqProofs only [go_sem, eq_self, ↓reduceIte])) (fun hx => ?_)) | (refine hK _ _ _ _ (drawOk_of (by kernel_rfl) (by simp -dsimp -implicitDefEqProofs only [go_sem, eq_self, ↓reduceIte])) (fun hx => ?_))); clear hx hK; simp -dsimp -implicitDefEqProofs only [go_sem, eq_self, ↓reduceIte]; (try simp (disch := omega) only [wrap_i64, wrap_u64, wrap_u32, wrap_u8]))) | omega))
  · have hq := ‹(s.tsk i).ready = true›
    refine ⟨i + 1, by omega, by omega, ?_⟩
    rw [hsucc, show memT s g c i = [⟨(s.tsk i).v, 0, (s.tsk i).id⟩] by simp [memT, ifM, inQ, hq, hg, ht]]
    simp -dsimp -implicitDefEqProofs only [go_sem, eq_self, ↓reduceIte]
    exact Mv.app (k + 4) (k + 1) ⟨by omega, by omega⟩ ⟨by omega, by omega⟩ (wk_low (by omega) (by simp -dsimp -implicitDefEqProofs only [go_sem, List.map_append, List.map_cons, List.map_nil, Flt.row, eq_self, ↓reduceIte]) (by simp -dsimp -implicitDefEqProofs only [go_sem, List.map_append, List.map_cons, List.map_nil, Flt.row, eq_self, ↓reduceIte]) (by simp -dsimp -implicitDefEqProofs only [go_sem, List.map_append, List.map_cons, List.map_nil, Flt.row, eq_self, ↓reduceIte]) (by simp -dsimp -implicitDefEqProofs only [go_sem, List.map_append, List.map_cons, List.map_nil, Flt.row, eq_self, ↓reduceIte]))
  · refine ⟨i + 1, by omega, by omega, ?_⟩
    rw [hsucc, show memT s g c i = [] by simp [memT, ifM, inQ, ht], List.append_nil]
    simp -dsimp -implicitDefEqProofs only [go_sem, eq_self, ↓reduceIte]
    exact Mv.wk (wk_low (by omega) (by simp -dsimp -implicitDefEqProofs only [go_sem, List.map_append, List.map_cons, List.map_nil, Flt.row, eq_self, ↓reduceIte]) (by simp -dsimp -implicitDefEqProofs only [go_sem, List.map_append, List.map_cons, List.map_nil, Flt.row, eq_self, ↓reduceIte]) (by simp -dsimp -implicitDefEqProofs only [go_sem, List.map_append, List.map_cons, List.map_nil, Flt.row, eq_self, ↓reduceIte]) (by simp -dsimp -implicitDefEqProofs only [go_sem, List.map_append, List.map_cons, List.map_nil, Flt.row, eq_self, ↓reduceIte]))
  · refine ⟨i + 1, by omega, by omega, ?_⟩
    rw [hsucc, show memT s g c i = [] by simp [memT, ifM, inQ, hg], List.append_nil]
    simp -dsimp -implicitDefEqProofs only [go_sem, eq_self, ↓reduceIte]
    exact Mv.wk (wk_low (by omega) (by simp -dsimp -implicitDefEqProofs only [go_sem, List.map_append, List.map_cons, List.map_nil, Flt.row, eq_self, ↓reduceIte]) (by simp -dsimp -implicitDefEqProofs only [go_sem, List.map_append, List.map_cons, List.map_nil, Flt.row, eq_self, ↓reduceIte]) (by simp -dsimp -implicitDefEqProofs only [go_sem, List.map_append, List.map_cons, List.map_nil, Flt.row, eq_self, ↓reduceIte]) (by simp -dsimp -implicitDefEqProofs only [go_sem, List.map_append, List.map_cons, List.map_nil, Flt.row, eq_self, ↓reduceIte]))
  · refine ⟨i + 1, by omega, by omega, ?_⟩
    rw [hsucc, show memT s g c i = [] by simp [memT, ifM, inQ, hg], List.append_nil]
    simp -dsimp -implicitDefEqProofs only [go_sem, eq_self, ↓reduceIte]
    exact Mv.wk (wk_low (by omega) (by simp -dsimp -implicitDefEqProofs only [go_sem, List.map_append, List.map_cons, List.map_nil, Flt.row, eq_self, ↓reduceIte]) (by simp -dsimp -implicitDefEqProofs only [go_sem, List.map_append, List.map_cons, List.map_nil, Flt.row, eq_self, ↓reduceIte]) (by simp -dsimp -implicitDefEqProofs only [go_sem, List.map_append, List.map_cons, List.map_nil, Flt.row, eq_self, ↓reduceIte]) (by simp -dsimp -implicitDefEqProofs only [go_sem, List.map_append, List.map_cons, List.map_nil, Flt.row, eq_self, ↓reduceIte]))
  have hin : i = s.nt := by omega
  subst hin
  clear hsucc hfl
  refine M_forO (X := Nat) rfl [0,1,2,3,6,7,8,9,10,15,36,49,68] (k + 2) (fun h => [(10, .lit (.int .i64 (h : Int))), (7, accV (k + 1) ((l1 ++ flatM (memS s c g sub) h).map Mem.row))]) (fun h => accH (k + 1) 3 ((l1 ++ flatM (memS s c g sub) h).map Mem.row) [(k, ⟨7, true, [s.cells]⟩)]) (fun h => 1 ≤ h ∧ h ≤ s.ns) (fun h => s.ns - h) 1 ?_ ⟨by omega, by omega⟩ ?_
  · rw [show flatM (memS s c g sub) 1 = [] from by simp [flatM, memS, ifM], List.append_nil]
    simp -dsimp -implicitDefEqProofs only [go_sem, eq_self, ↓reduceIte]
    exact Mv.wk (wk_low (by omega) (by simp -dsimp -implicitDefEqProofs only [go_sem, List.map_append, List.map_cons, List.map_nil, Flt.row, eq_self, ↓reduceIte]) (by simp -dsimp -implicitDefEqProofs only [go_sem, List.map_append, List.map_cons, List.map_nil, Flt.row, eq_self, ↓reduceIte]) (by simp -dsimp -implicitDefEqProofs only [go_sem, List.map_append, List.map_cons, List.map_nil, Flt.row, eq_self, ↓reduceIte]) (by simp -dsimp -implicitDefEqProofs only [go_sem, List.map_append, List.map_cons, List.map_nil, Flt.row, eq_self, ↓reduceIte]))
  rintro h ⟨hh1, hh2⟩
  have hfl := flatM_len (f := memS s c g sub) (m := 1) (fun i => ifM_len _ _) h
  obtain ⟨l2, e2, h2⟩ : ∃ x, x = l1 ++ flatM (memS s c g sub) h ∧ x.length ≤ l1.length + h := ⟨_, rfl, by simp; omega⟩
  rw [← e2]
  have hsucc : l1 ++ flatM (memS s c g sub) (h + 1) = l2 ++ memS s c g sub h := by rw [e2, flatM_succ, List.append_assoc]
  simp -dsimp -implicitDefEqProofs only [go_sem, eq_self, ↓reduceIte]
  (repeat' (first | (refine C_seq rfl ?_) | (refine C_block rfl ?_) | (refine C_skip rfl ?_; (try simp -dsimp -implicitDefEqProofs only [go_sem, eq_self, ↓reduceIte])) | (refine C_exit rfl ?_; (try simp -dsimp -implicitDefEqProofs only [go_sem, eq_self, ↓reduceIte])) | (refine C_cond rfl _ rfl (fun ht => ?_) (fun ht => ?_) <;> (try (simp only [nf] at ht)) <;> (try (exfalso; omega))) | ((first | (refine S_reg0 rfl [0,1,2,3,6,7,8,9,10,15,36,49,68] rfl rfl (fun K hK => ?_)) | (refine S_drw0 rfl [0,1,2,3,6,7,8,9,10,15,36,49,68] rfl (by kernel_rfl) rfl (fun K hK => ?_))); simp -dsimp -implicitDefEqProofs only [go_sem, eq_self, ↓reduceIte]; (repeat' (first | (refine And.intro ?_ ?_) | (refine gs_both (fun hb => ?_) (fun hb => ?_) <;> (have hg := hb; (try simp only [nfb] at hg); simp -dsimp -implicitDefEqProofs only [go_sem, hb, hg, eq_self, ↓reduceIte]; clear hb; (try simp only [nfe] at hg))))); any_goals ((first | (refine hK _ _ _ _ (fun hx => ?_)) | (refine hK _ _ _ _ (drawOk_names (fun i => i - k) (by simp only [List.map_cons, List.map_nil, shG, ↓reduceIte, Nat.add_sub_cancel_left, Nat.sub_self]; rfl) (by decide +kernel) (by simp -dsimp -implicitDefEqProofs only [go_sem, eq_self, ↓reduceIte])) (fun hx => ?_)) | (refine hK _ _ _ _ (drawOk_of (by kernel_rfl) (by simp -dsimp -implicitDefEqProofs only [go_sem, eq_self, ↓reduceIte])) (fun hx => ?_))); clear hx hK; simp -dsimp -implicitDefEqProofs only [go_sem, eq_self, ↓reduceIte]; (try simp (disch := omega) only [wrap_i64, wrap_u64, wrap_u32, wrap_u8]))) | omega))
  · by_cases hpg : s.par h = (g : Int)
    · have hb : (s.par h == (g : Int)) = true := by simp [hpg]
      have hsp := ksp h (by omega)
      obtain ⟨n, F, eF⟩ : ∃ n F, (.rd 3 n F : AVal) = rows 3 ((sub h).map Mem.row) ∧ n = (sub h).length := ⟨_, _, rfl, by simp⟩
      refine S_reg rfl [0,1,2,3,6,7,8,9,10,15,36,49,68] [.ret (.rd 3 n F)] rfl (fun K hK => ?_); simp -dsimp -implicitDefEqProofs only [go_sem, hb, eq_self, ↓reduceIte]; (repeat' (first | (refine And.intro ?_ ?_) | (refine gs_both (fun hb => ?_) (fun hb => ?_) <;> (have hg := hb; (try simp only [nfb] at hg); simp -dsimp -implicitDefEqProofs only [go_sem, hb, hb, hg, eq_self, ↓reduceIte]; clear hb; (try simp only [nfe] at hg))))); (any_goals ((refine hK _ _ _ _ (fun hx => ?_)); clear hx hK; simp -dsimp -implicitDefEqProofs only [go_sem, hb, eq_self, ↓reduceIte]; (try simp (disch := omega) only [wrap_i64, wrap_u64, wrap_u32, wrap_u8]))); (all_goals (try omega))
      · rw [eF.1]; exact hsub h (by omega) (by omega) hpg
      have hn2 := eF.2
      (repeat' (first | (refine C_seq rfl ?_) | (refine C_block rfl ?_) | (refine C_skip rfl ?_; (try simp -dsimp -implicitDefEqProofs only [go_sem, eq_self, ↓reduceIte])) | (refine C_exit rfl ?_; (try simp -dsimp -implicitDefEqProofs only [go_sem, eq_self, ↓reduceIte])) | (refine C_cond rfl _ rfl (fun ht => ?_) (fun ht => ?_) <;> (try (simp only [nf] at ht)) <;> (try (exfalso; omega))) | ((first | (refine S_reg0 rfl [0,1,2,3,6,7,8,9,10,15,36,49,68] rfl rfl (fun K hK => ?_)) | (refine S_drw0 rfl [0,1,2,3,6,7,8,9,10,15,36,49,68] rfl (by kernel_rfl) rfl (fun K hK => ?_))); simp -dsimp -implicitDefEqProofs only [go_sem, eq_self, ↓reduceIte]; (repeat' (first | (refine And.intro ?_ ?_) | (refine gs_both (fun hb => ?_) (fun hb => ?_) <;> (have hg := hb; (try simp only [nfb] at hg); simp -dsimp -implicitDefEqProofs only [go_sem, hb, hg, eq_self, ↓reduceIte]; clear hb; (try simp only [nfe] at hg))))); any_goals ((first | (refine hK _ _ _ _ (fun hx => ?_)) | (refine hK _ _ _ _ (drawOk_names (fun i => i - k) (by simp only [List.map_cons, List.map_nil, shG, ↓reduceIte, Nat.add_sub_cancel_left, Nat.sub_self]; rfl) (by decide +kernel) (by simp -dsimp -implicitDefEqProofs only [go_sem, eq_self, ↓reduceIte])) (fun hx => ?_)) | (refine hK _ _ _ _ (drawOk_of (by kernel_rfl) (by simp -dsimp -implicitDefEqProofs only [go_sem, eq_self, ↓reduceIte])) (fun hx => ?_))); clear hx hK; simp -dsimp -implicitDefEqProofs only [go_sem, eq_self, ↓reduceIte]; (try simp (disch := omega) only [wrap_i64, wrap_u64, wrap_u32, wrap_u8]))) | omega))
      · have hne : (sub h).isEmpty = false := by
          cases hq : sub h with
          | nil => rw [hq] at hn2; simp at hn2; omega
          | cons a b => rfl
        refine ⟨h + 1, ⟨by omega, by omega⟩, by omega, ?_⟩
        rw [hsucc, show memS s c g sub h = [⟨(s.sp h c).v, 1, (h : Int)⟩] by rw [memS, ifM, hne, decide_eq_true ⟨by omega, hpg⟩]; rfl]
        simp -dsimp -implicitDefEqProofs only [go_sem, eq_self, ↓reduceIte]
        exact Mv.app (k + 3) (k + 1) ⟨by omega, by omega⟩ ⟨by omega, by omega⟩ (wk_low (by omega) (by simp -dsimp -implicitDefEqProofs only [go_sem, List.map_append, List.map_cons, List.map_nil, Flt.row, eq_self, ↓reduceIte]) (by simp -dsimp -implicitDefEqProofs only [go_sem, List.map_append, List.map_cons, List.map_nil, Flt.row, eq_self, ↓reduceIte]) (by simp -dsimp -implicitDefEqProofs only [go_sem, List.map_append, List.map_cons, List.map_nil, Flt.row, eq_self, ↓reduceIte]) (by simp -dsimp -implicitDefEqProofs only [go_sem, List.map_append, List.map_cons, List.map_nil, Flt.row, eq_self, ↓reduceIte]))
      · have hne : (sub h).isEmpty = true := by
          cases hq : sub h with
          | nil => rfl
          | cons a b => rw [hq] at hn2; simp at hn2; omega
        refine ⟨h + 1, ⟨by omega, by omega⟩, by omega, ?_⟩
        rw [hsucc, show memS s c g sub h = [] by rw [memS, ifM, hne, Bool.not_true, Bool.and_false]; rfl, List.append_nil]
        simp -dsimp -implicitDefEqProofs only [go_sem, eq_self, ↓reduceIte]
        exact Mv.wk (wk_low (by omega) (by simp -dsimp -implicitDefEqProofs only [go_sem, List.map_append, List.map_cons, List.map_nil, Flt.row, eq_self, ↓reduceIte]) (by simp -dsimp -implicitDefEqProofs only [go_sem, List.map_append, List.map_cons, List.map_nil, Flt.row, eq_self, ↓reduceIte]) (by simp -dsimp -implicitDefEqProofs only [go_sem, List.map_append, List.map_cons, List.map_nil, Flt.row, eq_self, ↓reduceIte]) (by simp -dsimp -implicitDefEqProofs only [go_sem, List.map_append, List.map_cons, List.map_nil, Flt.row, eq_self, ↓reduceIte]))
    · have hb : (s.par h == (g : Int)) = false := by simp [hpg]
      refine S_reg rfl [0,1,2,3,6,7,8,9,10,15,36,49,68] [.ret .junk] rfl (fun K hK => ?_); simp -dsimp -implicitDefEqProofs only [go_sem, hb, eq_self, ↓reduceIte]; (repeat' (first | (refine And.intro ?_ ?_) | (refine gs_both (fun hb => ?_) (fun hb => ?_) <;> (have hg := hb; (try simp only [nfb] at hg); simp -dsimp -implicitDefEqProofs only [go_sem, hb, hb, hg, eq_self, ↓reduceIte]; clear hb; (try simp only [nfe] at hg))))); (any_goals ((refine hK _ _ _ _ (fun hx => ?_)); clear hx hK; simp -dsimp -implicitDefEqProofs only [go_sem, hb, eq_self, ↓reduceIte]; (try simp (disch := omega) only [wrap_i64, wrap_u64, wrap_u32, wrap_u8]))); (all_goals (try omega))
      (repeat' (first | (refine C_seq rfl ?_) | (refine C_block rfl ?_) | (refine C_skip rfl ?_; (try simp -dsimp -implicitDefEqProofs only [go_sem, hb, eq_self, ↓reduceIte])) | (refine C_exit rfl ?_; (try simp -dsimp -implicitDefEqProofs only [go_sem, hb, eq_self, ↓reduceIte])) | (refine C_cond rfl _ rfl (fun ht => ?_) (fun ht => ?_) <;> (try (simp only [nf] at ht)) <;> (try (exfalso; omega))) | ((first | (refine S_reg0 rfl [0,1,2,3,6,7,8,9,10,15,36,49,68] rfl rfl (fun K hK => ?_)) | (refine S_drw0 rfl [0,1,2,3,6,7,8,9,10,15,36,49,68] rfl (by kernel_rfl) rfl (fun K hK => ?_))); simp -dsimp -implicitDefEqProofs only [go_sem, hb, eq_self, ↓reduceIte]; (repeat' (first | (refine And.intro ?_ ?_) | (refine gs_both (fun hb => ?_) (fun hb => ?_) <;> (have hg := hb; (try simp only [nfb] at hg); simp -dsimp -implicitDefEqProofs only [go_sem, hb, hb, hg, eq_self, ↓reduceIte]; clear hb; (try simp only [nfe] at hg))))); any_goals ((first | (refine hK _ _ _ _ (fun hx => ?_)) | (refine hK _ _ _ _ (drawOk_names (fun i => i - k) (by simp only [List.map_cons, List.map_nil, shG, hb, ↓reduceIte, Nat.add_sub_cancel_left, Nat.sub_self]; rfl) (by decide +kernel) (by simp -dsimp -implicitDefEqProofs only [go_sem, hb, eq_self, ↓reduceIte])) (fun hx => ?_)) | (refine hK _ _ _ _ (drawOk_of (by kernel_rfl) (by simp -dsimp -implicitDefEqProofs only [go_sem, hb, eq_self, ↓reduceIte])) (fun hx => ?_))); clear hx hK; simp -dsimp -implicitDefEqProofs only [go_sem, hb, eq_self, ↓reduceIte]; (try simp (disch := omega) only [wrap_i64, wrap_u64, wrap_u32, wrap_u8]))) | omega))
      refine ⟨h + 1, ⟨by omega, by omega⟩, by omega, ?_⟩
      rw [hsucc, show memS s c g sub h = [] by simp [memS, ifM, hpg], List.append_nil]
      simp -dsimp -implicitDefEqProofs only [go_sem, hb, eq_self, ↓reduceIte]
      exact Mv.wk (wk_low (by omega) (by simp -dsimp -implicitDefEqProofs only [go_sem, hb, List.map_append, List.map_cons, List.map_nil, Flt.row, eq_self, ↓reduceIte]) (by simp -dsimp -implicitDefEqProofs only [go_sem, hb, List.map_append, List.map_cons, List.map_nil, Flt.row, eq_self, ↓reduceIte]) (by simp -dsimp -implicitDefEqProofs only [go_sem, hb, List.map_append, List.map_cons, List.map_nil, Flt.row, eq_self, ↓reduceIte]) (by simp -dsimp -implicitDefEqProofs only [go_sem, hb, List.map_append, List.map_cons, List.map_nil, Flt.row, eq_self, ↓reduceIte]))
  · have hin : h = s.ns := by omega
    refine M_racc rfl (id := k + 1) (s := 3) (l := List.map Mem.row l2) 6 (by simp -dsimp -implicitDefEqProofs only [go_sem, List.map_append, List.map_cons, List.map_nil, Flt.row, eq_self, ↓reduceIte]) (by simp -dsimp -implicitDefEqProofs only [go_sem, List.map_append, List.map_cons, List.map_nil, Flt.row, eq_self, ↓reduceIte]) ?_
    exact ⟨_, rfl, by rw [eR, e2, e1, hin]; exact VLe.refl _⟩
theorem memF_succ (s : St) (c f g : Nat) : memF s c (f + 1) g = flatM (memT s g c) s.nt ++ flatM (memS s c g (memF s c f)) s.ns := rfl
theorem flatM_nil {f : Nat → List Mem} : ∀ {n : Nat}, (∀ i, i < n → f i = []) → flatM f n = []
  | 0, _ => rfl
  | n + 1, h => by rw [flatM, flatM_nil (fun i hi => h i (by omega)), h n (by omega)]; rfl
theorem members_ref (s : St) (hs : s.Small) (hp : PartOk s) (hpar : ∀ g, 1 ≤ g → g < s.ns → s.par g < g) (c : Nat) (hc : (c : Int) < s.cpus) : ∀ f g, s.ns - g ≤ f →
    Pure Tryd.prog Γ 53 [.agg s.cells, .lit (.int .i64 (g : Int)), .lit (.int .i64 (c : Int))] (rows 3 ((memF s c f g).map Mem.row)) := by
  intro f
  induction f with
  | zero =>
    intro g hg
    have h := members_step (Γ := Γ) s hs hp c hc g (fun _ => []) (fun h h1 h2 h3 => by have := hpar h h1 h2; omega)
    rw [flatM_nil (f := memS s c g (fun _ => [])) (fun i hi => by simp [memS, ifM]), List.append_nil] at h
    exact h
  | succ f ih =>
    intro g hg
    rw [memF_succ]
    exact members_step s hs hp c hc g (memF s c f) (fun h h1 h2 h3 => ih h (by have := hpar h h1 h2; omega))
end Go.Proofs.T
end

section
set_option linter.unusedVariables false
set_option linter.unusedSimpArgs false
namespace Go.Proofs.T
open Go Go.AM Go.Proofs
set_option linter.unusedSimpArgs false
set_option linter.unusedVariables false
set_option maxRecDepth 4000
variable {Γ : List (Nat × List AVal)}
def cntB (f : Nat → Bool) : Nat → Nat
  | 0 => 0
  | n + 1 => cntB f n + (if f n = true then 1 else 0)
theorem cntB_le (f : Nat → Bool) : ∀ n, cntB f n ≤ n
  | 0 => Nat.le_refl _
  | n + 1 => by have := cntB_le f n; simp only [cntB]; split <;> omega
def memV (l : List Mem) (i : Nat) : Int := (l.getD i ⟨0, 0, 0⟩).v
def belowB (s : St) (g c : Nat) (l : List Mem) (i : Nat) : Bool := decide ((s.sp g c).floor < memV l i)
def flrAt (s : St) (g c : Nat) : List Flt := iff1 (decide (0 < (memF s c s.ns g).length ∧ cntB (belowB s g c (memF s c s.ns g)) (memF s c s.ns g).length = (memF s c s.ns g).length)) ⟨14, (g : Int), (c : Int)⟩
def flrR (s : St) (g : Nat) : List Flt := flats (flrAt s g) s.cpus.toNat
def floorsL (s : St) : List Flt := flats (flrR s) s.ns
theorem memF_len (s : St) (c f g : Nat) : (memF s c f g).length ≤ s.nt + s.ns := by
  have h1 := flatM_len (f := memT s g c) (m := 1) (fun i => ifM_len _ _) s.nt
  cases f with
  | zero => rw [memF]; omega
  | succ f =>
    have h2 := flatM_len (f := memS s c g (memF s c f)) (m := 1) (fun i => ifM_len _ _) s.ns
    rw [memF_succ, List.length_append]; omega
set_option maxHeartbeats 4000000 in
theorem floors_ref (s : St) (hs : s.Small) (hp : PartOk s) (hpar : ∀ g, 1 ≤ g → g < s.ns → s.par g < g) : Pure Tryd.prog Γ 31 [.agg s.cells] (rows 3 ((floorsL s).map Flt.row)) := by
  obtain ⟨hng, hnk, hnu, hnt, hns, hnsp⟩ := id hs
  obtain ⟨ksp, kng, kns1, kc0, kc1, knu, k12⟩ := id hp
  refine Pure_at Tryd.func31 rfl 66 rfl (Nat.le_of_ble_eq_true rfl) rfl fun k => ?_
  obtain ⟨R, eR⟩ : ∃ R, R = (floorsL s).map Flt.row := ⟨_, rfl⟩
  rw [← eR]
  (repeat' (first | (refine C_seq rfl ?_) | (refine C_block rfl ?_) | (refine C_skip rfl ?_; (try simp -dsimp -implicitDefEqProofs only [go_sem, eq_self, ↓reduceIte])) | (refine C_exit rfl ?_; (try simp -dsimp -implicitDefEqProofs only [go_sem, eq_self, ↓reduceIte])) | (refine C_cond rfl _ rfl (fun ht => ?_) (fun ht => ?_) <;> (try (simp only [nf] at ht)) <;> (try (exfalso; omega))) | ((first | (refine S_reg0 rfl [0,1,2,3,4,5,6,7,8,13,20,30,47,58] rfl rfl (fun K hK => ?_)) | (refine S_drw0 rfl [0,1,2,3,4,5,6,7,8,13,20,30,47,58] rfl (by kernel_rfl) rfl (fun K hK => ?_))); simp -dsimp -implicitDefEqProofs only [go_sem, eq_self, ↓reduceIte]; (repeat' (first | (refine And.intro ?_ ?_) | (refine gs_both (fun hb => ?_) (fun hb => ?_) <;> (have hg := hb; (try simp only [nfb] at hg); simp -dsimp -implicitDefEqProofs only [go_sem, hb, hg, eq_self, ↓reduceIte]; clear hb; (try simp only [nfe] at hg))))); any_goals ((first | (refine hK _ _ _ _ (fun hx => ?_)) | (refine hK _ _ _ _ (drawOk_names (fun i => i - k) (by simp only [List.map_cons, List.map_nil, shG, ↓reduceIte, Nat.add_sub_cancel_left, Nat.sub_self]; rfl) (by decide +kernel) (by simp -dsimp -implicitDefEqProofs only [go_sem, eq_self, ↓reduceIte])) (fun hx => ?_)) | (refine hK _ _ _ _ (drawOk_of (by kernel_rfl) (by simp -dsimp -implicitDefEqProofs only [go_sem, eq_self, ↓reduceIte])) (fun hx => ?_))); clear hx hK; simp -dsimp -implicitDefEqProofs only [go_sem, eq_self, ↓reduceIte]; (try simp (disch := omega) only [wrap_i64, wrap_u64, wrap_u32, wrap_u8]))) | omega))
  refine M_forO (X := Nat) rfl [0,1,2,3,4,5,6,7,8,13,20,30,47,58] (k + 2) (fun g => [(4, .lit (.int .i64 (g : Int))), (3, accV (k + 1) ((flats (flrR s) g).map Flt.row))]) (fun g => accH (k + 1) 3 ((flats (flrR s) g).map Flt.row) [(k, ⟨7, true, [s.cells]⟩)]) (fun g => g ≤ s.ns) (fun g => s.ns - g) 0 ?_ (Nat.zero_le _) ?_
  · rw [flats_zero, List.map_nil]
    simp -dsimp -implicitDefEqProofs only [go_sem, eq_self, ↓reduceIte]
    exact Mv.wk (wk_low (by omega) (by simp -dsimp -implicitDefEqProofs only [go_sem, List.map_append, List.map_cons, List.map_nil, Flt.row, eq_self, ↓reduceIte]) (by simp -dsimp -implicitDefEqProofs only [go_sem, List.map_append, List.map_cons, List.map_nil, Flt.row, eq_self, ↓reduceIte]) (by simp -dsimp -implicitDefEqProofs only [go_sem, List.map_append, List.map_cons, List.map_nil, Flt.row, eq_self, ↓reduceIte]) (by simp -dsimp -implicitDefEqProofs only [go_sem, List.map_append, List.map_cons, List.map_nil, Flt.row, eq_self, ↓reduceIte]))
  intro g hg
  have hfl := flats_len (f := flrR s) (m := 64) (fun g => by have := flats_len (f := flrAt s g) (m := 1) (fun i => iff1_len1 _ _) s.cpus.toNat; unfold flrR; omega) g
  obtain ⟨l1, e1, h1⟩ : ∃ x, x = flats (flrR s) g ∧ x.length ≤ g * 64 := ⟨_, rfl, hfl⟩
  rw [← e1]
  have hsucc : flats (flrR s) (g + 1) = l1 ++ flats (flrAt s g) s.cpus.toNat := by rw [e1]; rfl
  simp -dsimp -implicitDefEqProofs only [go_sem, eq_self, ↓reduceIte]
  (repeat' (first | (refine C_seq rfl ?_) | (refine C_block rfl ?_) | (refine C_skip rfl ?_; (try simp -dsimp -implicitDefEqProofs only [go_sem, eq_self, ↓reduceIte])) | (refine C_exit rfl ?_; (try simp -dsimp -implicitDefEqProofs only [go_sem, eq_self, ↓reduceIte])) | (refine C_cond rfl _ rfl (fun ht => ?_) (fun ht => ?_) <;> (try (simp only [nf] at ht)) <;> (try (exfalso; omega))) | ((first | (refine S_reg0 rfl [0,1,2,3,4,5,6,7,8,13,20,30,47,58] rfl rfl (fun K hK => ?_)) | (refine S_drw0 rfl [0,1,2,3,4,5,6,7,8,13,20,30,47,58] rfl (by kernel_rfl) rfl (fun K hK => ?_))); simp -dsimp -implicitDefEqProofs only [go_sem, eq_self, ↓reduceIte]; (repeat' (first | (refine And.intro ?_ ?_) | (refine gs_both (fun hb => ?_) (fun hb => ?_) <;> (have hg := hb; (try simp only [nfb] at hg); simp -dsimp -implicitDefEqProofs only [go_sem, hb, hg, eq_self, ↓reduceIte]; clear hb; (try simp only [nfe] at hg))))); any_goals ((first | (refine hK _ _ _ _ (fun hx => ?_)) | (refine hK _ _ _ _ (drawOk_names (fun i => i - k) (by simp only [List.map_cons, List.map_nil, shG, ↓reduceIte, Nat.add_sub_cancel_left, Nat.sub_self]; rfl) (by decide +kernel) (by simp -dsimp -implicitDefEqProofs only [go_sem, eq_self, ↓reduceIte])) (fun hx => ?_)) | (refine hK _ _ _ _ (drawOk_of (by kernel_rfl) (by simp -dsimp -implicitDefEqProofs only [go_sem, eq_self, ↓reduceIte])) (fun hx => ?_))); clear hx hK; simp -dsimp -implicitDefEqProofs only [go_sem, eq_self, ↓reduceIte]; (try simp (disch := omega) only [wrap_i64, wrap_u64, wrap_u32, wrap_u8]))) | omega))
  · refine M_forO (X := Nat) rfl [0,1,2,3,4,5,6,7,8,13,20,30,47,58] (k + 2) (fun c => [(5, .lit (.int .i64 (c : Int))), (3, accV (k + 1) ((l1 ++ flats (flrAt s g) c).map Flt.row))]) (fun c => accH (k + 1) 3 ((l1 ++ flats (flrAt s g) c).map Flt.row) [(k, ⟨7, true, [s.cells]⟩)]) (fun c => c ≤ s.cpus.toNat) (fun c => s.cpus.toNat - c) 0 ?_ (Nat.zero_le _) ?_
    · rw [flats_zero, List.append_nil]
      simp -dsimp -implicitDefEqProofs only [go_sem, eq_self, ↓reduceIte]
      exact Mv.wk (wk_low (by omega) (by simp -dsimp -implicitDefEqProofs only [go_sem, List.map_append, List.map_cons, List.map_nil, Flt.row, eq_self, ↓reduceIte]) (by simp -dsimp -implicitDefEqProofs only [go_sem, List.map_append, List.map_cons, List.map_nil, Flt.row, eq_self, ↓reduceIte]) (by simp -dsimp -implicitDefEqProofs only [go_sem, List.map_append, List.map_cons, List.map_nil, Flt.row, eq_self, ↓reduceIte]) (by simp -dsimp -implicitDefEqProofs only [go_sem, List.map_append, List.map_cons, List.map_nil, Flt.row, eq_self, ↓reduceIte]))
    intro c hc
    have hfc := flats_len (f := flrAt s g) (m := 1) (fun i => iff1_len1 _ _) c
    obtain ⟨l2, e2, h2⟩ : ∃ x, x = l1 ++ flats (flrAt s g) c ∧ x.length ≤ l1.length + c := ⟨_, rfl, by simp; omega⟩
    rw [← e2]
    have hsucc2 : l1 ++ flats (flrAt s g) (c + 1) = l2 ++ flrAt s g c := by rw [e2, flats_succ, List.append_assoc]
    simp -dsimp -implicitDefEqProofs only [go_sem, eq_self, ↓reduceIte]
    (repeat' (first | (refine C_seq rfl ?_) | (refine C_block rfl ?_) | (refine C_skip rfl ?_; (try simp -dsimp -implicitDefEqProofs only [go_sem, eq_self, ↓reduceIte])) | (refine C_exit rfl ?_; (try simp -dsimp -implicitDefEqProofs only [go_sem, eq_self, ↓reduceIte])) | (refine C_cond rfl _ rfl (fun ht => ?_) (fun ht => ?_) <;> (try (simp only [nf] at ht)) <;> (try (exfalso; omega))) | ((first | (refine S_reg0 rfl [0,1,2,3,4,5,6,7,8,13,20,30,47,58] rfl rfl (fun K hK => ?_)) | (refine S_drw0 rfl [0,1,2,3,4,5,6,7,8,13,20,30,47,58] rfl (by kernel_rfl) rfl (fun K hK => ?_))); simp -dsimp -implicitDefEqProofs only [go_sem, eq_self, ↓reduceIte]; (repeat' (first | (refine And.intro ?_ ?_) | (refine gs_both (fun hb => ?_) (fun hb => ?_) <;> (have hg := hb; (try simp only [nfb] at hg); simp -dsimp -implicitDefEqProofs only [go_sem, hb, hg, eq_self, ↓reduceIte]; clear hb; (try simp only [nfe] at hg))))); any_goals ((first | (refine hK _ _ _ _ (fun hx => ?_)) | (refine hK _ _ _ _ (drawOk_names (fun i => i - k) (by simp only [List.map_cons, List.map_nil, shG, ↓reduceIte, Nat.add_sub_cancel_left, Nat.sub_self]; rfl) (by decide +kernel) (by simp -dsimp -implicitDefEqProofs only [go_sem, eq_self, ↓reduceIte])) (fun hx => ?_)) | (refine hK _ _ _ _ (drawOk_of (by kernel_rfl) (by simp -dsimp -implicitDefEqProofs only [go_sem, eq_self, ↓reduceIte])) (fun hx => ?_))); clear hx hK; simp -dsimp -implicitDefEqProofs only [go_sem, eq_self, ↓reduceIte]; (try simp (disch := omega) only [wrap_i64, wrap_u64, wrap_u32, wrap_u8]))) | omega))
    · obtain ⟨ml, em⟩ : ∃ ml, ml = memF s c s.ns g := ⟨_, rfl⟩
      refine S_reg rfl [0,1,2,3,4,5,6,7,8,13,20,30,47,58] [.ret (.rd 3 ml.length (fun j => (ml.map Mem.row).getD j []))] rfl (fun K hK => ?_); simp -dsimp -implicitDefEqProofs only [go_sem, eq_self, ↓reduceIte]; (repeat' (first | (refine And.intro ?_ ?_) | (refine gs_both (fun hb => ?_) (fun hb => ?_) <;> (have hg := hb; (try simp only [nfb] at hg); simp -dsimp -implicitDefEqProofs only [go_sem, hb, hg, eq_self, ↓reduceIte]; clear hb; (try simp only [nfe] at hg))))); (any_goals ((refine hK _ _ _ _ (fun hx => ?_)); clear hx hK; simp -dsimp -implicitDefEqProofs only [go_sem, eq_self, ↓reduceIte]; (try simp (disch := omega) only [wrap_i64, wrap_u64, wrap_u32, wrap_u8]))); (all_goals (try omega))
      · have h := members_ref (Γ := Γ) s hs hp hpar c (by omega) s.ns g (by omega)
        rw [← em, rows, List.length_map] at h
        exact h
      (repeat' (first | (refine C_seq rfl ?_) | (refine C_block rfl ?_) | (refine C_skip rfl ?_; (try simp -dsimp -implicitDefEqProofs only [go_sem, eq_self, ↓reduceIte])) | (refine C_exit rfl ?_; (try simp -dsimp -implicitDefEqProofs only [go_sem, eq_self, ↓reduceIte])) | (refine C_cond rfl _ rfl (fun ht => ?_) (fun ht => ?_) <;> (try (simp only [nf] at ht)) <;> (try (exfalso; omega))) | ((first | (refine S_reg0 rfl [0,1,2,3,4,5,6,7,8,13,20,30,47,58] rfl rfl (fun K hK => ?_)) | (refine S_drw0 rfl [0,1,2,3,4,5,6,7,8,13,20,30,47,58] rfl (by kernel_rfl) rfl (fun K hK => ?_))); simp -dsimp -implicitDefEqProofs only [go_sem, eq_self, ↓reduceIte]; (repeat' (first | (refine And.intro ?_ ?_) | (refine gs_both (fun hb => ?_) (fun hb => ?_) <;> (have hg := hb; (try simp only [nfb] at hg); simp -dsimp -implicitDefEqProofs only [go_sem, hb, hg, eq_self, ↓reduceIte]; clear hb; (try simp only [nfe] at hg))))); any_goals ((first | (refine hK _ _ _ _ (fun hx => ?_)) | (refine hK _ _ _ _ (drawOk_names (fun i => i - k) (by simp only [List.map_cons, List.map_nil, shG, ↓reduceIte, Nat.add_sub_cancel_left, Nat.sub_self]; rfl) (by decide +kernel) (by simp -dsimp -implicitDefEqProofs only [go_sem, eq_self, ↓reduceIte])) (fun hx => ?_)) | (refine hK _ _ _ _ (drawOk_of (by kernel_rfl) (by simp -dsimp -implicitDefEqProofs only [go_sem, eq_self, ↓reduceIte])) (fun hx => ?_))); clear hx hK; simp -dsimp -implicitDefEqProofs only [go_sem, eq_self, ↓reduceIte]; (try simp (disch := omega) only [wrap_i64, wrap_u64, wrap_u32, wrap_u8]))) | omega))
      have hml : ml.length ≤ 2000 := by rw [em]; have := memF_len s c s.ns g; omega
      have hspg := ksp g (by omega)
      have hcnt := cntB_le (belowB s g c ml)
      have hat : flrAt s g c = iff1 (decide (0 < ml.length ∧ cntB (belowB s g c ml) ml.length = ml.length)) ⟨14, (g : Int), (c : Int)⟩ := by rw [em]; rfl
      refine M_forO (X := Nat) rfl [0,1,2,3,4,5,6,7,8,13,20,30,47,58] (k + 2) (fun i => [(8, .lit (.int .i64 (i : Int))), (7, .lit (.int .i64 ((cntB (belowB s g c ml) i : Nat) : Int)))]) (fun i => accH (k + 1) 3 (l2.map Flt.row) [(k, ⟨7, true, [s.cells]⟩)]) (fun i => i ≤ ml.length) (fun i => ml.length - i) 0 ?_ (Nat.zero_le _) ?_
      · rw [cntB]
        simp -dsimp -implicitDefEqProofs only [go_sem, eq_self, ↓reduceIte]
        exact Mv.wk (wk_low (by omega) (by simp -dsimp -implicitDefEqProofs only [go_sem, List.map_append, List.map_cons, List.map_nil, Flt.row, eq_self, ↓reduceIte]) (by simp -dsimp -implicitDefEqProofs only [go_sem, List.map_append, List.map_cons, List.map_nil, Flt.row, eq_self, ↓reduceIte]) (by simp -dsimp -implicitDefEqProofs only [go_sem, List.map_append, List.map_cons, List.map_nil, Flt.row, eq_self, ↓reduceIte]) (by simp -dsimp -implicitDefEqProofs only [go_sem, List.map_append, List.map_cons, List.map_nil, Flt.row, eq_self, ↓reduceIte]))
      intro i hi
      have hci := hcnt i
      have hstep : cntB (belowB s g c ml) (i + 1) = cntB (belowB s g c ml) i + (if belowB s g c ml i = true then 1 else 0) := rfl
      obtain ⟨n, en⟩ : ∃ n, n = cntB (belowB s g c ml) i := ⟨_, rfl⟩
      rw [← en]
      rw [← en] at hci hstep
      simp -dsimp -implicitDefEqProofs only [go_sem, eq_self, ↓reduceIte]
      by_cases hlt : i < ml.length
      · have hr : (ml.map Mem.row).getD i [] = Mem.row (ml.getD i ⟨0, 0, 0⟩) := by
          simp [List.getD_eq_getElem?_getD, List.getElem?_map, List.getElem?_eq_getElem hlt]
        (repeat' (first | (refine C_seq rfl ?_) | (refine C_block rfl ?_) | (refine C_skip rfl ?_; (try simp -dsimp -implicitDefEqProofs only [go_sem, hr, Mem.row, eq_self, ↓reduceIte])) | (refine C_exit rfl ?_; (try simp -dsimp -implicitDefEqProofs only [go_sem, hr, Mem.row, eq_self, ↓reduceIte])) | (refine C_cond rfl _ rfl (fun ht => ?_) (fun ht => ?_) <;> (try (simp only [nf] at ht)) <;> (try (exfalso; omega))) | ((first | (refine S_reg0 rfl [0,1,2,3,4,5,6,7,8,13,20,30,47,58] rfl rfl (fun K hK => ?_)) | (refine S_drw0 rfl [0,1,2,3,4,5,6,7,8,13,20,30,47,58] rfl (by kernel_rfl) rfl (fun K hK => ?_))); simp -dsimp -implicitDefEqProofs only [go_sem, hr, Mem.row, eq_self, ↓reduceIte]; (repeat' (first | (refine And.intro ?_ ?_) | (refine gs_both (fun hb => ?_) (fun hb => ?_) <;> (have hg := hb; (try simp only [nfb] at hg); simp -dsimp -implicitDefEqProofs only [go_sem, hr, Mem.row, hb, hg, eq_self, ↓reduceIte]; clear hb; (try simp only [nfe] at hg))))); any_goals ((first | (refine hK _ _ _ _ (fun hx => ?_)) | (refine hK _ _ _ _ (drawOk_names (fun i => i - k) (by simp only [List.map_cons, List.map_nil, shG, hr, Mem.row, ↓reduceIte, Nat.add_sub_cancel_left, Nat.sub_self]; rfl) (by decide +kernel) (by simp -dsimp -implicitDefEqProofs only [go_sem, hr, Mem.row, eq_self, ↓reduceIte])) (fun hx => ?_)) | (refine hK _ _ _ _ (drawOk_of (by kernel_rfl) (by simp -dsimp -implicitDefEqProofs only [go_sem, hr, Mem.row, eq_self, ↓reduceIte])) (fun hx => ?_))); clear hx hK; simp -dsimp -implicitDefEqProofs only [go_sem, hr, Mem.row, eq_self, ↓reduceIte]; (try simp (disch := omega) only [wrap_i64, wrap_u64, wrap_u32, wrap_u8]))) | omega))
        · refine ⟨i + 1, by omega, by omega, ?_⟩
          rw [hstep, if_pos (by rw [belowB, memV]; exact decide_eq_true ht)]
          simp -dsimp -implicitDefEqProofs only [go_sem, hr, Mem.row, eq_self, ↓reduceIte]
          exact Mv.wk (wk_low (by omega) (by simp -dsimp -implicitDefEqProofs only [go_sem, hr, Mem.row, List.map_append, List.map_cons, List.map_nil, Flt.row, eq_self, ↓reduceIte]) (by simp -dsimp -implicitDefEqProofs only [go_sem, hr, Mem.row, List.map_append, List.map_cons, List.map_nil, Flt.row, eq_self, ↓reduceIte]) (by simp -dsimp -implicitDefEqProofs only [go_sem, hr, Mem.row, List.map_append, List.map_cons, List.map_nil, Flt.row, eq_self, ↓reduceIte]) (by simp -dsimp -implicitDefEqProofs only [go_sem, hr, Mem.row, List.map_append, List.map_cons, List.map_nil, Flt.row, eq_self, ↓reduceIte]))
        · refine ⟨i + 1, by omega, by omega, ?_⟩
          rw [hstep, if_neg (by rw [belowB, memV]; simp only [decide_eq_true_eq]; omega)]
          simp -dsimp -implicitDefEqProofs only [go_sem, hr, Mem.row, eq_self, ↓reduceIte]
          exact Mv.wk (wk_low (by omega) (by simp -dsimp -implicitDefEqProofs only [go_sem, hr, Mem.row, List.map_append, List.map_cons, List.map_nil, Flt.row, eq_self, ↓reduceIte]) (by simp -dsimp -implicitDefEqProofs only [go_sem, hr, Mem.row, List.map_append, List.map_cons, List.map_nil, Flt.row, eq_self, ↓reduceIte]) (by simp -dsimp -implicitDefEqProofs only [go_sem, hr, Mem.row, List.map_append, List.map_cons, List.map_nil, Flt.row, eq_self, ↓reduceIte]) (by simp -dsimp -implicitDefEqProofs only [go_sem, hr, Mem.row, List.map_append, List.map_cons, List.map_nil, Flt.row, eq_self, ↓reduceIte]))
      · have hin : i = ml.length := by omega
        rw [hin] at en
        (repeat' (first | (refine C_seq rfl ?_) | (refine C_block rfl ?_) | (refine C_skip rfl ?_; (try simp -dsimp -implicitDefEqProofs only [go_sem, eq_self, ↓reduceIte])) | (refine C_exit rfl ?_; (try simp -dsimp -implicitDefEqProofs only [go_sem, eq_self, ↓reduceIte])) | (refine C_cond rfl _ rfl (fun ht => ?_) (fun ht => ?_) <;> (try (simp only [nf] at ht)) <;> (try (exfalso; omega))) | ((first | (refine S_reg0 rfl [0,1,2,3,4,5,6,7,8,13,20,30,47,58] rfl rfl (fun K hK => ?_)) | (refine S_drw0 rfl [0,1,2,3,4,5,6,7,8,13,20,30,47,58] rfl (by kernel_rfl) rfl (fun K hK => ?_))); simp -dsimp -implicitDefEqProofs only [go_sem, eq_self, ↓reduceIte]; (repeat' (first | (refine And.intro ?_ ?_) | (refine gs_both (fun hb => ?_) (fun hb => ?_) <;> (have hg := hb; (try simp only [nfb] at hg); simp -dsimp -implicitDefEqProofs only [go_sem, hb, hg, eq_self, ↓reduceIte]; clear hb; (try simp only [nfe] at hg))))); any_goals ((first | (refine hK _ _ _ _ (fun hx => ?_)) | (refine hK _ _ _ _ (drawOk_names (fun i => i - k) (by simp only [List.map_cons, List.map_nil, shG, ↓reduceIte, Nat.add_sub_cancel_left, Nat.sub_self]; rfl) (by decide +kernel) (by simp -dsimp -implicitDefEqProofs only [go_sem, eq_self, ↓reduceIte])) (fun hx => ?_)) | (refine hK _ _ _ _ (drawOk_of (by kernel_rfl) (by simp -dsimp -implicitDefEqProofs only [go_sem, eq_self, ↓reduceIte])) (fun hx => ?_))); clear hx hK; simp -dsimp -implicitDefEqProofs only [go_sem, eq_self, ↓reduceIte]; (try simp (disch := omega) only [wrap_i64, wrap_u64, wrap_u32, wrap_u8]))) | omega))
        · refine ⟨c + 1, by omega, by omega, ?_⟩
          rw [hsucc2, show flrAt s g c = [⟨14, (g : Int), (c : Int)⟩] by rw [hat, decide_eq_true ⟨by omega, by omega⟩]; rfl]
          simp -dsimp -implicitDefEqProofs only [go_sem, eq_self, ↓reduceIte]
          exact Mv.app (k + 3) (k + 1) ⟨by omega, by omega⟩ ⟨by omega, by omega⟩ (wk_low (by omega) (by simp -dsimp -implicitDefEqProofs only [go_sem, List.map_append, List.map_cons, List.map_nil, Flt.row, eq_self, ↓reduceIte]) (by simp -dsimp -implicitDefEqProofs only [go_sem, List.map_append, List.map_cons, List.map_nil, Flt.row, eq_self, ↓reduceIte]) (by simp -dsimp -implicitDefEqProofs only [go_sem, List.map_append, List.map_cons, List.map_nil, Flt.row, eq_self, ↓reduceIte]) (by simp -dsimp -implicitDefEqProofs only [go_sem, List.map_append, List.map_cons, List.map_nil, Flt.row, eq_self, ↓reduceIte]))
        · refine ⟨c + 1, by omega, by omega, ?_⟩
          rw [hsucc2, show flrAt s g c = [] by rw [hat, decide_eq_false (fun h => by have h1 := h.1; have h2 := h.2; omega)]; rfl, List.append_nil]
          simp -dsimp -implicitDefEqProofs only [go_sem, eq_self, ↓reduceIte]
          exact Mv.wk (wk_low (by omega) (by simp -dsimp -implicitDefEqProofs only [go_sem, List.map_append, List.map_cons, List.map_nil, Flt.row, eq_self, ↓reduceIte]) (by simp -dsimp -implicitDefEqProofs only [go_sem, List.map_append, List.map_cons, List.map_nil, Flt.row, eq_self, ↓reduceIte]) (by simp -dsimp -implicitDefEqProofs only [go_sem, List.map_append, List.map_cons, List.map_nil, Flt.row, eq_self, ↓reduceIte]) (by simp -dsimp -implicitDefEqProofs only [go_sem, List.map_append, List.map_cons, List.map_nil, Flt.row, eq_self, ↓reduceIte]))
        · refine ⟨c + 1, by omega, by omega, ?_⟩
          rw [hsucc2, show flrAt s g c = [] by rw [hat, decide_eq_false (fun h => by have h1 := h.1; have h2 := h.2; omega)]; rfl, List.append_nil]
          simp -dsimp -implicitDefEqProofs only [go_sem, eq_self, ↓reduceIte]
          exact Mv.wk (wk_low (by omega) (by simp -dsimp -implicitDefEqProofs only [go_sem, List.map_append, List.map_cons, List.map_nil, Flt.row, eq_self, ↓reduceIte]) (by simp -dsimp -implicitDefEqProofs only [go_sem, List.map_append, List.map_cons, List.map_nil, Flt.row, eq_self, ↓reduceIte]) (by simp -dsimp -implicitDefEqProofs only [go_sem, List.map_append, List.map_cons, List.map_nil, Flt.row, eq_self, ↓reduceIte]) (by simp -dsimp -implicitDefEqProofs only [go_sem, List.map_append, List.map_cons, List.map_nil, Flt.row, eq_self, ↓reduceIte]))
    · have hin : c = s.cpus.toNat := by omega
      refine ⟨g + 1, by omega, by omega, ?_⟩
      rw [hsucc, ← hin, ← e2]
      (try (simp -dsimp -implicitDefEqProofs only [go_sem, eq_self, ↓reduceIte]))
      exact Mv.wk (wk_low (by omega) (by simp -dsimp -implicitDefEqProofs only [go_sem, List.map_append, List.map_cons, List.map_nil, Flt.row, eq_self, ↓reduceIte]) (by simp -dsimp -implicitDefEqProofs only [go_sem, List.map_append, List.map_cons, List.map_nil, Flt.row, eq_self, ↓reduceIte]) (by simp -dsimp -implicitDefEqProofs only [go_sem, List.map_append, List.map_cons, List.map_nil, Flt.row, eq_self, ↓reduceIte]) (by simp -dsimp -implicitDefEqProofs only [go_sem, List.map_append, List.map_cons, List.map_nil, Flt.row, eq_self, ↓reduceIte]))
  · have hgn : g = s.ns := by omega
    refine M_racc rfl (id := k + 1) (s := 3) (l := List.map Flt.row l1) 2 (by simp -dsimp -implicitDefEqProofs only [go_sem, List.map_append, List.map_cons, List.map_nil, Flt.row, eq_self, ↓reduceIte]) (by simp -dsimp -implicitDefEqProofs only [go_sem, List.map_append, List.map_cons, List.map_nil, Flt.row, eq_self, ↓reduceIte]) ?_
    exact ⟨_, rfl, by rw [eR, e1, hgn]; exact VLe.refl _⟩
end Go.Proofs.T
end

section
set_option linter.unusedVariables false
set_option linter.unusedSimpArgs false
namespace Go.Proofs.T
open Go Go.AM Go.Proofs
set_option linter.unusedSimpArgs false
set_option linter.unusedVariables false
set_option maxRecDepth 4000
variable {Γ : List (Nat × List AVal)}
def checkR (s : St) : List Flt := if refCfg s = false then [⟨1, 0, 0⟩] else if 0 < (shapesL s).length then shapesL s else if 0 < (partsL s).length then partsL s else floorsL s
theorem check_ref (s : St) (hs : s.Small) (hw : Wf s) (hok : refCfg s = true → (shapesL s).length = 0 → PartOk s ∧ ∀ g, 1 ≤ g → g < s.ns → s.par g < g) : Pure Tryd.prog Γ 12 [.agg s.cells] (rows 3 ((checkR s).map Flt.row)) := by
  obtain ⟨hng, hnk, hnu, hnt, hns, hnsp⟩ := id hs
  refine Pure_at Tryd.func12 rfl 25 rfl (Nat.le_of_ble_eq_true rfl) rfl fun k => ?_
  obtain ⟨R, eR⟩ : ∃ R, R = (checkR s).map Flt.row := ⟨_, rfl⟩
  rw [← eR]
  (repeat' (first | (refine C_seq rfl ?_) | (refine C_block rfl ?_) | (refine C_skip rfl ?_; (try simp -dsimp -implicitDefEqProofs only [go_sem, eq_self, ↓reduceIte])) | (refine C_exit rfl ?_; (try simp -dsimp -implicitDefEqProofs only [go_sem, eq_self, ↓reduceIte])) | (refine C_cond rfl _ rfl (fun ht => ?_) (fun ht => ?_) <;> (try (simp only [nf] at ht)) <;> (try (exfalso; omega))) | ((first | (refine S_reg0 rfl [0,1,2,3,4,8,15,21] rfl rfl (fun K hK => ?_)) | (refine S_drw0 rfl [0,1,2,3,4,8,15,21] rfl (by kernel_rfl) rfl (fun K hK => ?_))); simp -dsimp -implicitDefEqProofs only [go_sem, eq_self, ↓reduceIte]; (repeat' (first | (refine And.intro ?_ ?_) | (refine gs_both (fun hb => ?_) (fun hb => ?_) <;> (have hg := hb; (try simp only [nfb] at hg); simp -dsimp -implicitDefEqProofs only [go_sem, hb, hg, eq_self, ↓reduceIte]; clear hb; (try simp only [nfe] at hg))))); any_goals ((first | (refine hK _ _ _ _ (fun hx => ?_)) | (refine hK _ _ _ _ (drawOk_names (fun i => i - k) (by simp only [List.map_cons, List.map_nil, shG, ↓reduceIte, Nat.add_sub_cancel_left, Nat.sub_self]; rfl) (by decide +kernel) (by simp -dsimp -implicitDefEqProofs only [go_sem, eq_self, ↓reduceIte])) (fun hx => ?_)) | (refine hK _ _ _ _ (drawOk_of (by kernel_rfl) (by simp -dsimp -implicitDefEqProofs only [go_sem, eq_self, ↓reduceIte])) (fun hx => ?_))); clear hx hK; simp -dsimp -implicitDefEqProofs only [go_sem, eq_self, ↓reduceIte]; (try simp (disch := omega) only [wrap_i64, wrap_u64, wrap_u32, wrap_u8]))) | omega))
  refine S_reg rfl [0,1,2,3,4,8,15,21] [.ret (.lit (.bool (refCfg s)))] rfl (fun K hK => ?_); simp -dsimp -implicitDefEqProofs only [go_sem, eq_self, ↓reduceIte]; (repeat' (first | (refine And.intro ?_ ?_) | (refine gs_both (fun hb => ?_) (fun hb => ?_) <;> (have hg := hb; (try simp only [nfb] at hg); simp -dsimp -implicitDefEqProofs only [go_sem, hb, hg, eq_self, ↓reduceIte]; clear hb; (try simp only [nfe] at hg))))); (any_goals ((refine hK _ _ _ _ (fun hx => ?_)); clear hx hK; simp -dsimp -implicitDefEqProofs only [go_sem, eq_self, ↓reduceIte]; (try simp (disch := omega) only [wrap_i64, wrap_u64, wrap_u32, wrap_u8]))); (all_goals (try omega))
  · exact rightConfig_ref s
  (repeat' (first | (refine C_seq rfl ?_) | (refine C_block rfl ?_) | (refine C_skip rfl ?_; (try simp -dsimp -implicitDefEqProofs only [go_sem, eq_self, ↓reduceIte])) | (refine C_exit rfl ?_; (try simp -dsimp -implicitDefEqProofs only [go_sem, eq_self, ↓reduceIte])) | (refine C_cond rfl _ rfl (fun ht => ?_) (fun ht => ?_) <;> (try (simp only [nf] at ht)) <;> (try (exfalso; omega))) | ((first | (refine S_reg0 rfl [0,1,2,3,4,8,15,21] rfl rfl (fun K hK => ?_)) | (refine S_drw0 rfl [0,1,2,3,4,8,15,21] rfl (by kernel_rfl) rfl (fun K hK => ?_))); simp -dsimp -implicitDefEqProofs only [go_sem, eq_self, ↓reduceIte]; (repeat' (first | (refine And.intro ?_ ?_) | (refine gs_both (fun hb => ?_) (fun hb => ?_) <;> (have hg := hb; (try simp only [nfb] at hg); simp -dsimp -implicitDefEqProofs only [go_sem, hb, hg, eq_self, ↓reduceIte]; clear hb; (try simp only [nfe] at hg))))); any_goals ((first | (refine hK _ _ _ _ (fun hx => ?_)) | (refine hK _ _ _ _ (drawOk_names (fun i => i - k) (by simp only [List.map_cons, List.map_nil, shG, ↓reduceIte, Nat.add_sub_cancel_left, Nat.sub_self]; rfl) (by decide +kernel) (by simp -dsimp -implicitDefEqProofs only [go_sem, eq_self, ↓reduceIte])) (fun hx => ?_)) | (refine hK _ _ _ _ (drawOk_of (by kernel_rfl) (by simp -dsimp -implicitDefEqProofs only [go_sem, eq_self, ↓reduceIte])) (fun hx => ?_))); clear hx hK; simp -dsimp -implicitDefEqProofs only [go_sem, eq_self, ↓reduceIte]; (try simp (disch := omega) only [wrap_i64, wrap_u64, wrap_u32, wrap_u8]))) | omega))
  · refine M_ret rfl (Mv.frz_acc (id := k + 1) (s := 3) (l := [Flt.row ⟨1, 0, 0⟩]) 2 (by simp -dsimp -implicitDefEqProofs only [go_sem, List.map_append, List.map_cons, List.map_nil, Flt.row, eq_self, ↓reduceIte]) (by simp -dsimp -implicitDefEqProofs only [go_sem, List.map_append, List.map_cons, List.map_nil, Flt.row, eq_self, ↓reduceIte])) ⟨_, rfl, ?_⟩
    rw [eR, checkR, if_pos ht]
    exact VLe.refl _
  have hcfg := ht
  refine S_reg rfl [0,1,2,3,4,8,15,21] [.ret (.rd 3 (shapesL s).length (fun j => ((shapesL s).map Flt.row).getD j []))] rfl (fun K hK => ?_); simp -dsimp -implicitDefEqProofs only [go_sem, eq_self, ↓reduceIte]; (repeat' (first | (refine And.intro ?_ ?_) | (refine gs_both (fun hb => ?_) (fun hb => ?_) <;> (have hg := hb; (try simp only [nfb] at hg); simp -dsimp -implicitDefEqProofs only [go_sem, hb, hg, eq_self, ↓reduceIte]; clear hb; (try simp only [nfe] at hg))))); (any_goals ((refine hK _ _ _ _ (fun hx => ?_)); clear hx hK; simp -dsimp -implicitDefEqProofs only [go_sem, eq_self, ↓reduceIte]; (try simp (disch := omega) only [wrap_i64, wrap_u64, wrap_u32, wrap_u8]))); (all_goals (try omega))
  · have h := shapes_ref (Γ := Γ) s hns
    rw [rows, List.length_map] at h
    exact h
  (repeat' (first | (refine C_seq rfl ?_) | (refine C_block rfl ?_) | (refine C_skip rfl ?_; (try simp -dsimp -implicitDefEqProofs only [go_sem, eq_self, ↓reduceIte])) | (refine C_exit rfl ?_; (try simp -dsimp -implicitDefEqProofs only [go_sem, eq_self, ↓reduceIte])) | (refine C_cond rfl _ rfl (fun ht => ?_) (fun ht => ?_) <;> (try (simp only [nf] at ht)) <;> (try (exfalso; omega))) | ((first | (refine S_reg0 rfl [0,1,2,3,4,8,15,21] rfl rfl (fun K hK => ?_)) | (refine S_drw0 rfl [0,1,2,3,4,8,15,21] rfl (by kernel_rfl) rfl (fun K hK => ?_))); simp -dsimp -implicitDefEqProofs only [go_sem, eq_self, ↓reduceIte]; (repeat' (first | (refine And.intro ?_ ?_) | (refine gs_both (fun hb => ?_) (fun hb => ?_) <;> (have hg := hb; (try simp only [nfb] at hg); simp -dsimp -implicitDefEqProofs only [go_sem, hb, hg, eq_self, ↓reduceIte]; clear hb; (try simp only [nfe] at hg))))); any_goals ((first | (refine hK _ _ _ _ (fun hx => ?_)) | (refine hK _ _ _ _ (drawOk_names (fun i => i - k) (by simp only [List.map_cons, List.map_nil, shG, ↓reduceIte, Nat.add_sub_cancel_left, Nat.sub_self]; rfl) (by decide +kernel) (by simp -dsimp -implicitDefEqProofs only [go_sem, eq_self, ↓reduceIte])) (fun hx => ?_)) | (refine hK _ _ _ _ (drawOk_of (by kernel_rfl) (by simp -dsimp -implicitDefEqProofs only [go_sem, eq_self, ↓reduceIte])) (fun hx => ?_))); clear hx hK; simp -dsimp -implicitDefEqProofs only [go_sem, eq_self, ↓reduceIte]; (try simp (disch := omega) only [wrap_i64, wrap_u64, wrap_u32, wrap_u8]))) | omega))
  · refine C_ret rfl ⟨_, rfl, ?_⟩
    rw [eR, checkR, if_neg (by rw [hcfg]; simp), if_pos (by omega), rows, List.length_map]
    exact VLe.refl _
  have hsh : (shapesL s).length = 0 := by omega
  obtain ⟨hp, hpar⟩ := hok hcfg hsh
  refine S_reg rfl [0,1,2,3,4,8,15,21] [.ret (.rd 3 (partsL s).length (fun j => ((partsL s).map Flt.row).getD j []))] rfl (fun K hK => ?_); simp -dsimp -implicitDefEqProofs only [go_sem, eq_self, ↓reduceIte]; (repeat' (first | (refine And.intro ?_ ?_) | (refine gs_both (fun hb => ?_) (fun hb => ?_) <;> (have hg := hb; (try simp only [nfb] at hg); simp -dsimp -implicitDefEqProofs only [go_sem, hb, hg, eq_self, ↓reduceIte]; clear hb; (try simp only [nfe] at hg))))); (any_goals ((refine hK _ _ _ _ (fun hx => ?_)); clear hx hK; simp -dsimp -implicitDefEqProofs only [go_sem, eq_self, ↓reduceIte]; (try simp (disch := omega) only [wrap_i64, wrap_u64, wrap_u32, wrap_u8]))); (all_goals (try omega))
  · have h := parts_ref (Γ := Γ) s hs hw hp
    rw [rows, List.length_map] at h
    exact h
  (repeat' (first | (refine C_seq rfl ?_) | (refine C_block rfl ?_) | (refine C_skip rfl ?_; (try simp -dsimp -implicitDefEqProofs only [go_sem, eq_self, ↓reduceIte])) | (refine C_exit rfl ?_; (try simp -dsimp -implicitDefEqProofs only [go_sem, eq_self, ↓reduceIte])) | (refine C_cond rfl _ rfl (fun ht => ?_) (fun ht => ?_) <;> (try (simp only [nf] at ht)) <;> (try (exfalso; omega))) | ((first | (refine S_reg0 rfl [0,1,2,3,4,8,15,21] rfl rfl (fun K hK => ?_)) | (refine S_drw0 rfl [0,1,2,3,4,8,15,21] rfl (by kernel_rfl) rfl (fun K hK => ?_))); simp -dsimp -implicitDefEqProofs only [go_sem, eq_self, ↓reduceIte]; (repeat' (first | (refine And.intro ?_ ?_) | (refine gs_both (fun hb => ?_) (fun hb => ?_) <;> (have hg := hb; (try simp only [nfb] at hg); simp -dsimp -implicitDefEqProofs only [go_sem, hb, hg, eq_self, ↓reduceIte]; clear hb; (try simp only [nfe] at hg))))); any_goals ((first | (refine hK _ _ _ _ (fun hx => ?_)) | (refine hK _ _ _ _ (drawOk_names (fun i => i - k) (by simp only [List.map_cons, List.map_nil, shG, ↓reduceIte, Nat.add_sub_cancel_left, Nat.sub_self]; rfl) (by decide +kernel) (by simp -dsimp -implicitDefEqProofs only [go_sem, eq_self, ↓reduceIte])) (fun hx => ?_)) | (refine hK _ _ _ _ (drawOk_of (by kernel_rfl) (by simp -dsimp -implicitDefEqProofs only [go_sem, eq_self, ↓reduceIte])) (fun hx => ?_))); clear hx hK; simp -dsimp -implicitDefEqProofs only [go_sem, eq_self, ↓reduceIte]; (try simp (disch := omega) only [wrap_i64, wrap_u64, wrap_u32, wrap_u8]))) | omega))
  · refine C_ret rfl ⟨_, rfl, ?_⟩
    rw [eR, checkR, if_neg (by rw [hcfg]; simp), if_neg (by omega), if_pos (by omega), rows, List.length_map]
    exact VLe.refl _
  refine S_reg rfl [0,1,2,3,4,8,15,21] [.ret (rows 3 ((floorsL s).map Flt.row))] rfl (fun K hK => ?_); simp -dsimp -implicitDefEqProofs only [go_sem, eq_self, ↓reduceIte]; (repeat' (first | (refine And.intro ?_ ?_) | (refine gs_both (fun hb => ?_) (fun hb => ?_) <;> (have hg := hb; (try simp only [nfb] at hg); simp -dsimp -implicitDefEqProofs only [go_sem, hb, hg, eq_self, ↓reduceIte]; clear hb; (try simp only [nfe] at hg))))); (any_goals ((refine hK _ _ _ _ (fun hx => ?_)); clear hx hK; simp -dsimp -implicitDefEqProofs only [go_sem, eq_self, ↓reduceIte]; (try simp (disch := omega) only [wrap_i64, wrap_u64, wrap_u32, wrap_u8]))); (all_goals (try omega))
  · exact floors_ref s hs hp hpar
  refine C_ret rfl ⟨_, rfl, ?_⟩
  rw [eR, checkR, if_neg (by rw [hcfg]; simp), if_neg (by omega), if_neg (by omega)]
  exact VLe.refl _
end Go.Proofs.T
end

section
set_option linter.unusedVariables false
set_option linter.unusedSimpArgs false
namespace Go.Proofs.T
open Go Go.AM Go.Proofs
set_option linter.unusedSimpArgs false
set_option linter.unusedVariables false
variable {Γ : List (Nat × List AVal)}
theorem flats_nil {f : Nat → List Flt} : ∀ {n : Nat}, (flats f n).length = 0 → ∀ i, i < n → f i = []
  | 0, _, i, h => by omega
  | n + 1, h, i, hi => by
    simp only [flats, List.length_append] at h
    by_cases he : i = n
    · subst he; exact List.eq_nil_of_length_eq_zero (by omega)
    · exact flats_nil (n := n) (by omega) i (by omega)
theorem shapes_nil {s : St} (h : (shapesL s).length = 0) : (s.nk : Int) = s.cpus ∧ (s.nu : Int) = s.cpus ∧ s.ns = s.ng ∧ ∀ g, g < s.ns → (s.nsp g : Int) = s.cpus := by
  unfold shapesL at h
  simp only [List.length_append] at h
  have h1 : (s.nk : Int) = s.cpus := by
    by_cases hc : (s.nk : Int) = s.cpus
    · exact hc
    · rw [if_pos hc] at h; simp at h
  have h2 : (s.nu : Int) = s.cpus := by
    by_cases hc : (s.nu : Int) = s.cpus
    · exact hc
    · rw [if_pos hc] at h; simp at h
  have h3 : s.ns = s.ng := by
    by_cases hc : s.ns = s.ng
    · exact hc
    · rw [if_pos hc] at h; simp at h
  refine ⟨h1, h2, h3, fun g hg => ?_⟩
  rw [if_neg (show ¬ s.ns ≠ s.ng from fun hh => hh h3)] at h
  have := flats_nil (f := shapeAt s) (by omega) g hg
  unfold shapeAt at this
  split at this
  · assumption
  · cases this
theorem rdep_par {par : Nat → Int} {g : Nat} (hg : 1 ≤ g) (h : rdep par 5 g 0 ≤ 4) : 0 ≤ par g ∧ par g < g := by
  rw [rdep, if_neg (by omega)] at h
  by_cases hc : par g < 0 ∨ (g : Int) ≤ par g
  · rw [if_pos hc] at h; omega
  · omega
theorem refCfg_spec {s : St} (h : refCfg s = true) : (1 ≤ s.cpus ∧ s.cpus ≤ 64 ∧ s.credit ≤ 1099511627776 ∧ 1 ≤ s.ng ∧ s.ng ≤ 256 ∧ s.par 0 = 0 ∧ s.wt 0 = 1) ∧ ∀ g, 1 ≤ g → g < s.ng → okR s g = true := by
  simp only [refCfg, Bool.and_eq_true, decide_eq_true_eq, Option.isNone_iff_eq_none] at h
  exact ⟨h.1, fb_none_iff.1 h.2⟩
theorem ref_ok {s : St} (h12 : s.ns ≤ 12) (h : refCfg s = true) (hsh : (shapesL s).length = 0) : PartOk s ∧ ∀ g, 1 ≤ g → g < s.ns → s.par g < g := by
  obtain ⟨⟨h1, h2, h3, h4, h5, h6, h7⟩, hall⟩ := refCfg_spec h
  obtain ⟨k1, k2, k3, k4⟩ := shapes_nil hsh
  refine ⟨⟨k4, k3, by omega, by omega, h2, k2, h12⟩, fun g hg hn => ?_⟩
  have := hall g hg (by omega)
  simp only [okR, Bool.and_eq_true, decide_eq_true_eq] at this
  exact (rdep_par hg this.2).2
end Go.Proofs.T
end

section
set_option linter.unusedVariables false
set_option linter.unusedSimpArgs false
namespace Go.Proofs.T
open Go Go.AM Go.Proofs
set_option linter.unusedSimpArgs false
set_option linter.unusedVariables false
theorem pdep_fuel {par : Nat → Int} : ∀ (F g : Nat), g ≤ F → (∀ j, 1 ≤ j → j ≤ g → 0 ≤ par j ∧ par j < j) → pdep par F g = pdep par g g := by
  intro F
  induction F using Nat.strongRecOn with
  | _ F ih =>
    intro g hg hv
    cases F with
    | zero => have : g = 0 := by omega
              subst this; rfl
    | succ F =>
      cases g with
      | zero => simp [pdep]
      | succ g =>
        obtain ⟨h1, h2⟩ := hv (g + 1) (by omega) (by omega)
        have hv' : ∀ j, 1 ≤ j → j ≤ (par (g + 1)).toNat → 0 ≤ par j ∧ par j < j := fun j h3 h4 => hv j h3 (by omega)
        rw [pdep, pdep, if_neg (by omega), if_neg (by omega), ih F (by omega) _ (by omega) hv', ih g (by omega) _ (by omega) hv']
theorem rdep_pdep {par : Nat → Int} : ∀ (f g n : Nat), (∀ j, 1 ≤ j → j ≤ g → 0 ≤ par j ∧ par j < j) → rdep par f g n = n + min f (pdep par g g)
  | 0, g, n, _ => by simp [rdep]
  | f + 1, 0, n, _ => by simp [rdep, pdep]
  | f + 1, g + 1, n, hv => by
    obtain ⟨h1, h2⟩ := hv (g + 1) (by omega) (by omega)
    have hv' : ∀ j, 1 ≤ j → j ≤ (par (g + 1)).toNat → 0 ≤ par j ∧ par j < j := fun j h3 h4 => hv j h3 (by omega)
    rw [rdep, if_neg (by omega), if_neg (by omega), rdep_pdep f _ _ hv', pdep, if_neg (by omega), pdep_fuel g _ (by omega) hv']
    omega
theorem chk_zero (s : St) : ((chk s).2 == 0) = true ↔ (s.ng ≤ 256 ∧ 1 ≤ s.ng ∧ s.par 0 = 0 ∧ s.wt 0 = 1) ∧ ∀ g, 1 ≤ g → g < s.ng → okG s g = true := by
  unfold chk
  by_cases h1 : 256 < s.ng
  · rw [if_pos h1]; simp; omega
  · rw [if_neg h1]
    by_cases h2 : s.ng = 0 ∨ ¬ (s.par 0 = 0 ∧ s.wt 0 = 1)
    · rw [if_pos h2]
      simp only [Int.reduceBEq, Bool.false_eq_true, false_iff]
      rintro ⟨⟨h3, h4, h5⟩, _⟩
      rcases h2 with h2 | h2
      · omega
      · exact h2 h5
    · rw [if_neg h2]
      have h3 : ¬ s.ng = 0 := fun h => h2 (.inl h)
      have h4 : s.par 0 = 0 ∧ s.wt 0 = 1 := Classical.byContradiction fun h => h2 (.inr h)
      cases hf : fb (okG s) s.ng with
      | none =>
        simp only [beq_self_eq_true, true_iff]
        exact ⟨⟨by omega, by omega, h4⟩, fb_none_iff.1 hf⟩
      | some g =>
        have hne : (chkE s g == 0) = false := by unfold chkE; split <;> (try split) <;> rfl
        simp only [hne, Bool.false_eq_true, false_iff]
        rintro ⟨_, hall⟩
        rw [fb_none_iff.2 hall] at hf
        cases hf
theorem ok_iff (s : St) (n : Nat) : (∀ g, 1 ≤ g → g < n → okG s g = true) ↔ ∀ g, 1 ≤ g → g < n → okR s g = true := by
  constructor
  · intro h g h1 h2
    have hv : ∀ j, 1 ≤ j → j ≤ g → 0 ≤ s.par j ∧ s.par j < j := fun j h3 h4 => by
      have := h j h3 (by omega)
      simp only [okG, okP, Bool.and_eq_true, decide_eq_true_eq] at this
      exact this.1
    have := h g h1 h2
    simp only [okG, Bool.and_eq_true, decide_eq_true_eq] at this
    simp only [okR, Bool.and_eq_true, decide_eq_true_eq]
    refine ⟨this.2.1, ?_⟩
    rw [rdep_pdep 5 g 0 hv]; omega
  · intro h g h1 h2
    have hv : ∀ j, 1 ≤ j → j ≤ g → 0 ≤ s.par j ∧ s.par j < j := fun j h3 h4 => by
      have := h j h3 (by omega)
      simp only [okR, Bool.and_eq_true, decide_eq_true_eq] at this
      exact rdep_par h3 this.2
    have := h g h1 h2
    simp only [okR, Bool.and_eq_true, decide_eq_true_eq] at this
    simp only [okG, okP, Bool.and_eq_true, decide_eq_true_eq]
    have h5 := this.2
    rw [rdep_pdep 5 g 0 hv] at h5
    exact ⟨hv g h1 (Nat.le_refl _), this.1, by omega⟩
theorem cfg_eq (s : St) : modCfg s = refCfg s := by
  rw [Bool.eq_iff_iff]
  simp only [modCfg, refCfg, Bool.and_eq_true, decide_eq_true_eq, Option.isNone_iff_eq_none, fb_none_iff, chk_zero, ok_iff]
  constructor
  · rintro ⟨⟨h1, h2, h3⟩, ⟨h4, h5, h6, h7⟩, h8⟩
    exact ⟨⟨h1, h2, h3, h5, h4, h6, h7⟩, h8⟩
  · rintro ⟨⟨h1, h2, h3, h5, h4, h6, h7⟩, h8⟩
    exact ⟨⟨h1, h2, h3⟩, ⟨h4, h5, h6, h7⟩, h8⟩
end Go.Proofs.T
end
