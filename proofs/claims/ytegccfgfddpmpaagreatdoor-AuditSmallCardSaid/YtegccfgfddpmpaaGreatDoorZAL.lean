import Derived.Test.YtegccfgfddpmpaaGreatDoorZAK
import Derived.Lib.LaidTab
import Derived.Shelf.Strconv.Itoa3
import Derived.Shelf.Strconv.AtoiAll
import Derived.Shelf.Strings.Split
import Derived.Lib.ItoaNum
import Derived.Lib.ItoaMem
import Derived.Lib.AtoiAll
import Derived.Lib.Split

section
set_option linter.unusedVariables false
set_option linter.unusedSimpArgs false
namespace Go.Proofs.T
open Go Go.AM Go.Proofs
set_option linter.unusedSimpArgs false
set_option linter.unusedVariables false
set_option maxRecDepth 4000
variable {Γ : List (Nat × List AVal)}
theorem VLe.tups {us vs : List AVal} (h : VLes us vs) : VLe (.tup us) (.tup vs) := fun w G ρ A cv hv => by
  obtain ⟨h1, h2⟩ := h.spec
  cases hv with
  | tup h3 h4 =>
    refine .tup (by omega) fun j v hj => ?_
    have hlt := (List.getElem?_eq_some_iff.1 hj).1
    have hu : us[j]? = some us[j] := List.getElem?_eq_getElem (by omega)
    exact h2 j _ v hu hj _ _ _ _ _ (h4 j _ hu)
def alB (a b : St) (i : Nat) : Bool := decide (a.cpus = b.cpus ∧ a.credit = b.credit ∧ a.ng = b.ng ∧ ∀ g, g < i → a.par g = b.par g)
def backAt (a b : St) (c : Nat) : List Flt := iff1 (decide (b.clk c < a.clk c)) ⟨15, (c : Int), 0⟩
def fellAt (a b : St) (g c : Nat) : List Flt := iff1 (decide ((b.sp g c).floor < (a.sp g c).floor)) ⟨16, (g : Int), (c : Int)⟩
def fellR (a b : St) (g : Nat) : List Flt := flats (fellAt a b g) (a.nsp g)
def movesL (a b : St) : List Flt := flats (backAt a b) a.nk ++ flats (fellR a b) a.ns
def badP (a b : St) : Prop := 0 < (checkR a).length ∨ 0 < (checkR b).length
instance (a b : St) : Decidable (badP a b) := by unfold badP; infer_instance
def stepF2 (a b : St) : List Flt := if badP a b then [] else if alB a b a.ng = false then [⟨17, 0, 0⟩] else movesL a b
def stepE2 (a b : St) : Int := if badP a b then 320 else 0
theorem checkR_nil {s : St} (h : (checkR s).length = 0) : refCfg s = true ∧ (shapesL s).length = 0 := by
  unfold checkR at h
  by_cases h1 : refCfg s = false
  · rw [if_pos h1] at h; simp at h
  · rw [if_neg h1] at h
    refine ⟨by simpa using h1, ?_⟩
    split at h <;> omega
structure Alike (a b : St) : Prop where
  nk : b.nk = a.nk
  ns : b.ns = a.ns
  nsp : ∀ g, g < a.ns → b.nsp g = a.nsp g
theorem alike_of {a b : St} (ha : (checkR a).length = 0) (hb : (checkR b).length = 0) (hal : alB a b a.ng = true) : Alike a b := by
  obtain ⟨_, ha⟩ := checkR_nil ha
  obtain ⟨_, hb⟩ := checkR_nil hb
  obtain ⟨h1, h2, h3, h4⟩ := shapes_nil ha
  obtain ⟨k1, k2, k3, k4⟩ := shapes_nil hb
  simp only [alB, decide_eq_true_eq] at hal
  obtain ⟨e1, _, e3, _⟩ := hal
  exact ⟨by omega, by omega, fun g hg => by have := h4 g hg; have := k4 g (by omega); omega⟩
theorem movesL_len {a b : St} (hq : PreOk a) : (movesL a b).length ≤ 2000 := by
  have h1 := flats_len (f := backAt a b) (m := 1) (fun i => iff1_len1 _ _) a.nk
  have h2 := flats_len' (f := fellR a b) (m := 12) a.ns (fun g hg => by have := flats_len (f := fellAt a b g) (m := 1) (fun i => iff1_len1 _ _) (a.nsp g); have := hq.p12 g hg; unfold fellR; omega)
  have := hq.sm.nk
  have := hq.n12
  unfold movesL; rw [List.length_append]; omega
set_option maxHeartbeats 4000000 in
theorem step_ref (a b : St) (hq : PreOk a) (hq' : PreOk b) (hk : Kinds a) (hk' : Kinds b) : Pure Tryz.prog Γ 28 [.agg a.cells, .agg b.cells] (.tup [rows 3 ((stepF2 a b).map Flt.row), .lit (.int .i64 (stepE2 a b))]) := by
  obtain ⟨⟨hng, hnk, hnu, hnt, hns, hnsp⟩, h12, hp12⟩ := id hq
  obtain ⟨⟨hng', hnk', hnu', hnt', hns', hnsp'⟩, h12', hp12'⟩ := id hq'
  refine Pure_at Tryz.func28 rfl 145 rfl (Nat.le_of_ble_eq_true rfl) rfl fun k => ?_
  obtain ⟨R, eR⟩ : ∃ R, R = (stepF2 a b).map Flt.row := ⟨_, rfl⟩
  obtain ⟨E, eE⟩ : ∃ E, E = stepE2 a b := ⟨_, rfl⟩
  rw [← eR, ← eE]
  (repeat' (first | (refine C_seq rfl ?_) | (refine C_block rfl ?_) | (refine C_skip rfl ?_; (try simp -dsimp -implicitDefEqProofs only [go_sem, eq_self, ↓reduceIte])) | (refine C_exit rfl ?_; (try simp -dsimp -implicitDefEqProofs only [go_sem, eq_self, ↓reduceIte])) | (refine C_cond rfl _ rfl (fun ht => ?_) (fun ht => ?_) <;> (try (simp only [nf] at ht)) <;> (try (exfalso; omega))) | ((first | (refine S_reg0 rfl [0,1,2,3,4,5,6,7,8,9,10,11,21,57,76,83,96,106,116,137] rfl rfl (fun K hK => ?_)) | (refine S_drw0 rfl [0,1,2,3,4,5,6,7,8,9,10,11,21,57,76,83,96,106,116,137] rfl (by kernel_rfl) rfl (fun K hK => ?_))); simp -dsimp -implicitDefEqProofs only [go_sem, eq_self, ↓reduceIte]; (repeat' (first | (refine And.intro ?_ ?_) | (refine gs_both (fun hb => ?_) (fun hb => ?_) <;> (have hg := hb; (try simp only [nfb] at hg); simp -dsimp -implicitDefEqProofs only [go_sem, hb, hg, eq_self, ↓reduceIte]; clear hb; (try simp only [nfe] at hg))))); any_goals ((first | (refine hK _ _ _ _ (fun hx => ?_)) | (refine hK _ _ _ _ (drawA (fun i => i - k)) (fun hx => ?_)) | (refine hK _ _ _ _ drawB (fun hx => ?_))); clear hx hK; simp -dsimp -implicitDefEqProofs only [go_sem, eq_self, ↓reduceIte]; (try simp (disch := omega) only [wrap_i64, wrap_u64, wrap_u32, wrap_u8]))) | omega))
  refine S_reg rfl [0,1,2,3,4,5,6,7,8,9,10,11,21,57,76,83,96,106,116,137] [.ret (.rd 3 (checkR a).length (fun j => ((checkR a).map Flt.row).getD j [])), .ret (.rd 3 (checkR b).length (fun j => ((checkR b).map Flt.row).getD j []))] rfl (fun K hK => ?_); simp -dsimp -implicitDefEqProofs only [go_sem, eq_self, ↓reduceIte]; (repeat' (first | (refine And.intro ?_ ?_) | (refine gs_both (fun hb => ?_) (fun hb => ?_) <;> (have hg := hb; (try simp only [nfb] at hg); simp -dsimp -implicitDefEqProofs only [go_sem, hb, hg, eq_self, ↓reduceIte]; clear hb; (try simp only [nfe] at hg))))); (any_goals ((refine hK _ _ _ _ (fun hx => ?_)); clear hx hK; simp -dsimp -implicitDefEqProofs only [go_sem, eq_self, ↓reduceIte]; (try simp (disch := omega) only [wrap_i64, wrap_u64, wrap_u32, wrap_u8]))); (all_goals (try omega))
  · have h := check_ref' (Γ := Γ) a hq hk
    rw [rows, List.length_map] at h
    exact h
  · have h := check_ref' (Γ := Γ) b hq' hk'
    rw [rows, List.length_map] at h
    exact h
  · have ha : (checkR a).length = 0 := by omega
    refine C_cond rfl _ rfl (fun ht => ?_) (fun hf => ?_)
    · have hbad : badP a b := .inr (by simp only [decide_eq_true_eq] at ht; omega)
      (repeat' (first | (refine C_seq rfl ?_) | (refine C_block rfl ?_) | (refine C_skip rfl ?_; (try simp -dsimp -implicitDefEqProofs only [go_sem, eq_self, ↓reduceIte])) | (refine C_exit rfl ?_; (try simp -dsimp -implicitDefEqProofs only [go_sem, eq_self, ↓reduceIte])) | (refine C_cond rfl _ rfl (fun ht => ?_) (fun ht => ?_) <;> (try (simp only [nf] at ht)) <;> (try (exfalso; omega))) | ((first | (refine S_reg0 rfl [0,1,2,3,4,5,6,7,8,9,10,11,21,57,76,83,96,106,116,137] rfl rfl (fun K hK => ?_)) | (refine S_drw0 rfl [0,1,2,3,4,5,6,7,8,9,10,11,21,57,76,83,96,106,116,137] rfl (by kernel_rfl) rfl (fun K hK => ?_))); simp -dsimp -implicitDefEqProofs only [go_sem, eq_self, ↓reduceIte]; (repeat' (first | (refine And.intro ?_ ?_) | (refine gs_both (fun hb => ?_) (fun hb => ?_) <;> (have hg := hb; (try simp only [nfb] at hg); simp -dsimp -implicitDefEqProofs only [go_sem, hb, hg, eq_self, ↓reduceIte]; clear hb; (try simp only [nfe] at hg))))); any_goals ((first | (refine hK _ _ _ _ (fun hx => ?_)) | (refine hK _ _ _ _ (drawA (fun i => i - k)) (fun hx => ?_)) | (refine hK _ _ _ _ drawB (fun hx => ?_))); clear hx hK; simp -dsimp -implicitDefEqProofs only [go_sem, eq_self, ↓reduceIte]; (try simp (disch := omega) only [wrap_i64, wrap_u64, wrap_u32, wrap_u8]))) | omega))
      refine C_ret rfl ⟨_, rfl, ?_⟩
      rw [eR, eE, stepF2, stepE2, if_pos hbad, if_pos hbad]
      exact VLe.tups (.cons (VLe.nil _ _) (.cons (VLe.refl _) .nil))
    · have hb : (checkR b).length = 0 := by simp only [decide_eq_false_iff_not] at hf; omega
      have hnb : ¬ badP a b := by unfold badP; omega
      have hE : E = 0 := by rw [eE, stepE2, if_neg hnb]
      have hRr : R = (if alB a b a.ng = false then [⟨17, 0, 0⟩] else movesL a b).map Flt.row := by rw [eR, stepF2, if_neg hnb]
      clear eR eE
      subst hE
      refine C_skip rfl ?_; simp -dsimp -implicitDefEqProofs only [go_sem, eq_self, ↓reduceIte]
      refine M_midO (X := Bool) rfl [0,1,2,3,4,5,6,7,8,9,10,11,21,57,76,83,96,106,116,137] (k + 2) (fun x => [(6, .lit (.bool x))]) (fun x => [(k + 1, ⟨7, true, [b.cells]⟩), (k, ⟨7, true, [a.cells]⟩)]) (fun x => x = alB a b 0) ?_ ?_
      · (repeat' (first | (refine C_seq rfl ?_) | (refine C_block rfl ?_) | (refine C_skip rfl ?_; (try simp -dsimp -implicitDefEqProofs only [go_sem, eq_self, ↓reduceIte])) | (refine C_exit rfl ?_; (try simp -dsimp -implicitDefEqProofs only [go_sem, eq_self, ↓reduceIte])) | (refine C_cond rfl _ rfl (fun ht => ?_) (fun ht => ?_) <;> (try (simp only [nf] at ht)) <;> (try (exfalso; omega))) | ((first | (refine S_reg0 rfl [0,1,2,3,4,5,6,7,8,9,10,11,21,57,76,83,96,106,116,137] rfl rfl (fun K hK => ?_)) | (refine S_drw0 rfl [0,1,2,3,4,5,6,7,8,9,10,11,21,57,76,83,96,106,116,137] rfl (by kernel_rfl) rfl (fun K hK => ?_))); simp -dsimp -implicitDefEqProofs only [go_sem, eq_self, ↓reduceIte]; (repeat' (first | (refine And.intro ?_ ?_) | (refine gs_both (fun hb => ?_) (fun hb => ?_) <;> (have hg := hb; (try simp only [nfb] at hg); simp -dsimp -implicitDefEqProofs only [go_sem, hb, hg, eq_self, ↓reduceIte]; clear hb; (try simp only [nfe] at hg))))); any_goals ((first | (refine hK _ _ _ _ (fun hx => ?_)) | (refine hK _ _ _ _ (drawA (fun i => i - k)) (fun hx => ?_)) | (refine hK _ _ _ _ drawB (fun hx => ?_))); clear hx hK; simp -dsimp -implicitDefEqProofs only [go_sem, eq_self, ↓reduceIte]; (try simp (disch := omega) only [wrap_i64, wrap_u64, wrap_u32, wrap_u8]))) | omega))
        · refine ⟨((a.ng : Int) == (b.ng : Int)), ?_, ?_⟩
          · rw [Bool.eq_iff_iff, beq_iff_eq, alB, decide_eq_true_eq]
            exact ⟨fun h => ⟨by assumption, by assumption, by omega, fun g hg => absurd hg (Nat.not_lt_zero _)⟩, fun h => by omega⟩
          · exact wkF
        · refine ⟨false, ?_, ?_⟩
          · rw [alB, decide_eq_false]
            rintro ⟨h1, h2, _⟩; contradiction
          · exact wkF
        · refine ⟨false, ?_, ?_⟩
          · rw [alB, decide_eq_false]
            rintro ⟨h1, h2, _⟩; contradiction
          · exact wkF
      · rintro x rfl
        simp -dsimp -implicitDefEqProofs only [go_sem, eq_self, ↓reduceIte]
        (repeat' (first | (refine C_seq rfl ?_) | (refine C_block rfl ?_) | (refine C_skip rfl ?_; (try simp -dsimp -implicitDefEqProofs only [go_sem, eq_self, ↓reduceIte])) | (refine C_exit rfl ?_; (try simp -dsimp -implicitDefEqProofs only [go_sem, eq_self, ↓reduceIte])) | (refine C_cond rfl _ rfl (fun ht => ?_) (fun ht => ?_) <;> (try (simp only [nf] at ht)) <;> (try (exfalso; omega))) | ((first | (refine S_reg0 rfl [0,1,2,3,4,5,6,7,8,9,10,11,21,57,76,83,96,106,116,137] rfl rfl (fun K hK => ?_)) | (refine S_drw0 rfl [0,1,2,3,4,5,6,7,8,9,10,11,21,57,76,83,96,106,116,137] rfl (by kernel_rfl) rfl (fun K hK => ?_))); simp -dsimp -implicitDefEqProofs only [go_sem, eq_self, ↓reduceIte]; (repeat' (first | (refine And.intro ?_ ?_) | (refine gs_both (fun hb => ?_) (fun hb => ?_) <;> (have hg := hb; (try simp only [nfb] at hg); simp -dsimp -implicitDefEqProofs only [go_sem, hb, hg, eq_self, ↓reduceIte]; clear hb; (try simp only [nfe] at hg))))); any_goals ((first | (refine hK _ _ _ _ (fun hx => ?_)) | (refine hK _ _ _ _ (drawA (fun i => i - k)) (fun hx => ?_)) | (refine hK _ _ _ _ drawB (fun hx => ?_))); clear hx hK; simp -dsimp -implicitDefEqProofs only [go_sem, eq_self, ↓reduceIte]; (try simp (disch := omega) only [wrap_i64, wrap_u64, wrap_u32, wrap_u8]))) | omega))
        refine M_forO (X := Nat) rfl [0,1,2,3,4,5,6,7,8,9,10,11,21,57,76,83,96,106,116,137] (k + 2) (fun i => [(7, .lit (.int .i64 (i : Int))), (6, .lit (.bool (alB a b i)))]) (fun i => [(k + 1, ⟨7, true, [b.cells]⟩), (k, ⟨7, true, [a.cells]⟩)]) (fun i => i ≤ a.ng) (fun i => a.ng - i) 0 ?_ (Nat.zero_le _) ?_
        · simp -dsimp -implicitDefEqProofs only [go_sem, eq_self, ↓reduceIte]
          exact wkF
        intro i hi
        simp -dsimp -implicitDefEqProofs only [go_sem, eq_self, ↓reduceIte]
        by_cases hal : alB a b i = true
        · have hal' := hal
          rw [alB, decide_eq_true_eq] at hal'
          obtain ⟨e1, e2, e3, e4⟩ := hal'
          (repeat' (first | (refine C_seq rfl ?_) | (refine C_block rfl ?_) | (refine C_skip rfl ?_; (try simp -dsimp -implicitDefEqProofs only [go_sem, hal, eq_self, ↓reduceIte])) | (refine C_exit rfl ?_; (try simp -dsimp -implicitDefEqProofs only [go_sem, hal, eq_self, ↓reduceIte])) | (refine C_cond rfl _ rfl (fun ht => ?_) (fun ht => ?_) <;> (try (simp only [nf] at ht)) <;> (try (exfalso; omega))) | ((first | (refine S_reg0 rfl [0,1,2,3,4,5,6,7,8,9,10,11,21,57,76,83,96,106,116,137] rfl rfl (fun K hK => ?_)) | (refine S_drw0 rfl [0,1,2,3,4,5,6,7,8,9,10,11,21,57,76,83,96,106,116,137] rfl (by kernel_rfl) rfl (fun K hK => ?_))); simp -dsimp -implicitDefEqProofs only [go_sem, hal, eq_self, ↓reduceIte]; (repeat' (first | (refine And.intro ?_ ?_) | (refine gs_both (fun hb => ?_) (fun hb => ?_) <;> (have hg := hb; (try simp only [nfb] at hg); simp -dsimp -implicitDefEqProofs only [go_sem, hal, hb, hg, eq_self, ↓reduceIte]; clear hb; (try simp only [nfe] at hg))))); any_goals ((first | (refine hK _ _ _ _ (fun hx => ?_)) | (refine hK _ _ _ _ (drawOk_names (fun i => i - k) (by simp only [List.map_cons, List.map_nil, shG, hal, ↓reduceIte, Nat.add_sub_cancel_left, Nat.sub_self]; rfl) (by decide +kernel) (by simp -dsimp -implicitDefEqProofs only [go_sem, hal, eq_self, ↓reduceIte])) (fun hx => ?_)) | (refine hK _ _ _ _ (drawOk_of (by kernel_rfl) (by simp -dsimp -implicitDefEqProofs only [go_sem, hal, eq_self, ↓reduceIte])) (fun hx => ?_))); clear hx hK; simp -dsimp -implicitDefEqProofs only [go_sem, hal, eq_self, ↓reduceIte]; (try simp (disch := omega) only [wrap_i64, wrap_u64, wrap_u32, wrap_u8]))) | omega))
          · refine ⟨i + 1, by omega, by omega, ?_⟩
            have hx : alB a b (i + 1) = (a.par i == b.par i) := by
              rw [Bool.eq_iff_iff, beq_iff_eq, alB, decide_eq_true_eq]
              exact ⟨fun h => h.2.2.2 i (by omega), fun h => ⟨e1, e2, e3, fun g hg => by
                by_cases he : g = i
                · subst he; exact h
                · exact e4 g (by omega)⟩⟩
            rw [hx]
            simp -dsimp -implicitDefEqProofs only [go_sem, hal, eq_self, ↓reduceIte]
            exact Mv.wk (wk_low (by omega) (by simp -dsimp -implicitDefEqProofs only [go_sem, hal, List.map_append, List.map_cons, List.map_nil, Flt.row, eq_self, ↓reduceIte]) (by simp -dsimp -implicitDefEqProofs only [go_sem, hal, List.map_append, List.map_cons, List.map_nil, Flt.row, eq_self, ↓reduceIte]) (by simp -dsimp -implicitDefEqProofs only [go_sem, hal, List.map_append, List.map_cons, List.map_nil, Flt.row, eq_self, ↓reduceIte]) (by simp -dsimp -implicitDefEqProofs only [go_sem, hal, List.map_append, List.map_cons, List.map_nil, Flt.row, eq_self, ↓reduceIte]))
          · have hin : i = a.ng := by omega
            subst hin
            have hall : alB a b a.ng = true := hal
            rw [if_neg (by rw [hall]; simp)] at hRr
            obtain ⟨gnk, gns, gnsp⟩ := alike_of ha hb hall
            refine M_forO (X := Nat) rfl [0,1,2,3,4,5,6,7,8,9,10,11,21,57,76,83,96,106,116,137] (k + 3) (fun c => [(9, .lit (.int .i64 (c : Int))), (8, accV (k + 2) ((flats (backAt a b) c).map Flt.row))]) (fun c => accH (k + 2) 3 ((flats (backAt a b) c).map Flt.row) [(k + 1, ⟨7, true, [b.cells]⟩), (k, ⟨7, true, [a.cells]⟩)]) (fun c => c ≤ a.nk) (fun c => a.nk - c) 0 ?_ (Nat.zero_le _) ?_
            · rw [flats_zero, List.map_nil]
              simp -dsimp -implicitDefEqProofs only [go_sem, eq_self, ↓reduceIte]
              exact wkF
            intro c hc
            have hfl := flats_len (f := backAt a b) (m := 1) (fun c => iff1_len1 _ _) c
            obtain ⟨l1, e1, h1⟩ : ∃ x, x = flats (backAt a b) c ∧ x.length ≤ c := ⟨_, rfl, by omega⟩
            rw [← e1]
            have hsucc : flats (backAt a b) (c + 1) = l1 ++ backAt a b c := by rw [e1]; rfl
            simp -dsimp -implicitDefEqProofs only [go_sem, eq_self, ↓reduceIte]
            (repeat' (first | (refine C_seq rfl ?_) | (refine C_block rfl ?_) | (refine C_skip rfl ?_; (try simp -dsimp -implicitDefEqProofs only [go_sem, eq_self, ↓reduceIte])) | (refine C_exit rfl ?_; (try simp -dsimp -implicitDefEqProofs only [go_sem, eq_self, ↓reduceIte])) | (refine C_cond rfl _ rfl (fun ht => ?_) (fun ht => ?_) <;> (try (simp only [nf] at ht)) <;> (try (exfalso; omega))) | ((first | (refine S_reg0 rfl [0,1,2,3,4,5,6,7,8,9,10,11,21,57,76,83,96,106,116,137] rfl rfl (fun K hK => ?_)) | (refine S_drw0 rfl [0,1,2,3,4,5,6,7,8,9,10,11,21,57,76,83,96,106,116,137] rfl (by kernel_rfl) rfl (fun K hK => ?_))); simp -dsimp -implicitDefEqProofs only [go_sem, eq_self, ↓reduceIte]; (repeat' (first | (refine And.intro ?_ ?_) | (refine gs_both (fun hb => ?_) (fun hb => ?_) <;> (have hg := hb; (try simp only [nfb] at hg); simp -dsimp -implicitDefEqProofs only [go_sem, hb, hg, eq_self, ↓reduceIte]; clear hb; (try simp only [nfe] at hg))))); any_goals ((first | (refine hK _ _ _ _ (fun hx => ?_)) | (refine hK _ _ _ _ (drawA (fun i => i - k)) (fun hx => ?_)) | (refine hK _ _ _ _ drawB (fun hx => ?_))); clear hx hK; simp -dsimp -implicitDefEqProofs only [go_sem, eq_self, ↓reduceIte]; (try simp (disch := omega) only [wrap_i64, wrap_u64, wrap_u32, wrap_u8]))) | omega))
            · refine ⟨c + 1, by omega, by omega, ?_⟩
              rw [hsucc, show backAt a b c = [⟨15, (c : Int), 0⟩] by rw [backAt, decide_eq_true (by omega)]; rfl]
              simp -dsimp -implicitDefEqProofs only [go_sem, eq_self, ↓reduceIte]
              exact Mv.app (k + 4) (k + 2) ⟨by omega, by omega⟩ ⟨by omega, by omega⟩ (wk_low (by omega) (by simp -dsimp -implicitDefEqProofs only [go_sem, List.map_append, List.map_cons, List.map_nil, Flt.row, eq_self, ↓reduceIte]) (by simp -dsimp -implicitDefEqProofs only [go_sem, List.map_append, List.map_cons, List.map_nil, Flt.row, eq_self, ↓reduceIte]) (by simp -dsimp -implicitDefEqProofs only [go_sem, List.map_append, List.map_cons, List.map_nil, Flt.row, eq_self, ↓reduceIte]) (by simp -dsimp -implicitDefEqProofs only [go_sem, List.map_append, List.map_cons, List.map_nil, Flt.row, eq_self, ↓reduceIte]))
            · refine ⟨c + 1, by omega, by omega, ?_⟩
              rw [hsucc, show backAt a b c = [] by rw [backAt, decide_eq_false (by omega)]; rfl, List.append_nil]
              simp -dsimp -implicitDefEqProofs only [go_sem, eq_self, ↓reduceIte]
              exact wkF
            have hcn : c = a.nk := by omega
            subst hcn
            clear hsucc hfl
            refine M_forO (X := Nat) rfl [0,1,2,3,4,5,6,7,8,9,10,11,21,57,76,83,96,106,116,137] (k + 3) (fun g => [(10, .lit (.int .i64 (g : Int))), (8, accV (k + 2) ((l1 ++ flats (fellR a b) g).map Flt.row))]) (fun g => accH (k + 2) 3 ((l1 ++ flats (fellR a b) g).map Flt.row) [(k + 1, ⟨7, true, [b.cells]⟩), (k, ⟨7, true, [a.cells]⟩)]) (fun g => g ≤ a.ns) (fun g => a.ns - g) 0 ?_ (Nat.zero_le _) ?_
            · rw [flats_zero, List.append_nil]
              simp -dsimp -implicitDefEqProofs only [go_sem, eq_self, ↓reduceIte]
              exact wkF
            intro g hg2
            have hfl := flats_len' (f := fellR a b) (m := 12) g (fun g' hg' => by have := flats_len (f := fellAt a b g') (m := 1) (fun i => iff1_len1 _ _) (a.nsp g'); have := hp12 g' (by omega); unfold fellR; omega)
            obtain ⟨l2, e2', h2⟩ : ∃ x, x = l1 ++ flats (fellR a b) g ∧ x.length ≤ l1.length + g * 12 := ⟨_, rfl, by simp; omega⟩
            rw [← e2']
            have hsucc2 : l1 ++ flats (fellR a b) (g + 1) = l2 ++ flats (fellAt a b g) (a.nsp g) := by rw [e2', flats_succ, List.append_assoc]; rfl
            simp -dsimp -implicitDefEqProofs only [go_sem, eq_self, ↓reduceIte]
            (repeat' (first | (refine C_seq rfl ?_) | (refine C_block rfl ?_) | (refine C_skip rfl ?_; (try simp -dsimp -implicitDefEqProofs only [go_sem, eq_self, ↓reduceIte])) | (refine C_exit rfl ?_; (try simp -dsimp -implicitDefEqProofs only [go_sem, eq_self, ↓reduceIte])) | (refine C_cond rfl _ rfl (fun ht => ?_) (fun ht => ?_) <;> (try (simp only [nf] at ht)) <;> (try (exfalso; omega))) | ((first | (refine S_reg0 rfl [0,1,2,3,4,5,6,7,8,9,10,11,21,57,76,83,96,106,116,137] rfl rfl (fun K hK => ?_)) | (refine S_drw0 rfl [0,1,2,3,4,5,6,7,8,9,10,11,21,57,76,83,96,106,116,137] rfl (by kernel_rfl) rfl (fun K hK => ?_))); simp -dsimp -implicitDefEqProofs only [go_sem, eq_self, ↓reduceIte]; (repeat' (first | (refine And.intro ?_ ?_) | (refine gs_both (fun hb => ?_) (fun hb => ?_) <;> (have hg := hb; (try simp only [nfb] at hg); simp -dsimp -implicitDefEqProofs only [go_sem, hb, hg, eq_self, ↓reduceIte]; clear hb; (try simp only [nfe] at hg))))); any_goals ((first | (refine hK _ _ _ _ (fun hx => ?_)) | (refine hK _ _ _ _ (drawA (fun i => i - k)) (fun hx => ?_)) | (refine hK _ _ _ _ drawB (fun hx => ?_))); clear hx hK; simp -dsimp -implicitDefEqProofs only [go_sem, eq_self, ↓reduceIte]; (try simp (disch := omega) only [wrap_i64, wrap_u64, wrap_u32, wrap_u8]))) | omega))
            · have hpg : a.nsp g ≤ 12 := hp12 g (by omega)
              have hpg' : b.nsp g = a.nsp g := gnsp g (by omega)
              refine M_forO (X := Nat) rfl [0,1,2,3,4,5,6,7,8,9,10,11,21,57,76,83,96,106,116,137] (k + 3) (fun c => [(11, .lit (.int .i64 (c : Int))), (8, accV (k + 2) ((l2 ++ flats (fellAt a b g) c).map Flt.row))]) (fun c => accH (k + 2) 3 ((l2 ++ flats (fellAt a b g) c).map Flt.row) [(k + 1, ⟨7, true, [b.cells]⟩), (k, ⟨7, true, [a.cells]⟩)]) (fun c => c ≤ a.nsp g) (fun c => a.nsp g - c) 0 ?_ (Nat.zero_le _) ?_
              · rw [flats_zero, List.append_nil]
                simp -dsimp -implicitDefEqProofs only [go_sem, eq_self, ↓reduceIte]
                exact wkF
              intro c hc
              have hfi := flats_len (f := fellAt a b g) (m := 1) (fun i => iff1_len1 _ _) c
              obtain ⟨l3, e3', h3⟩ : ∃ x, x = l2 ++ flats (fellAt a b g) c ∧ x.length ≤ l2.length + c := ⟨_, rfl, by simp; omega⟩
              rw [← e3']
              have hsucc3 : l2 ++ flats (fellAt a b g) (c + 1) = l3 ++ fellAt a b g c := by rw [e3', flats_succ, List.append_assoc]
              simp -dsimp -implicitDefEqProofs only [go_sem, eq_self, ↓reduceIte]
              (repeat' (first | (refine C_seq rfl ?_) | (refine C_block rfl ?_) | (refine C_skip rfl ?_; (try simp -dsimp -implicitDefEqProofs only [go_sem, eq_self, ↓reduceIte])) | (refine C_exit rfl ?_; (try simp -dsimp -implicitDefEqProofs only [go_sem, eq_self, ↓reduceIte])) | (refine C_cond rfl _ rfl (fun ht => ?_) (fun ht => ?_) <;> (try (simp only [nf] at ht)) <;> (try (exfalso; omega))) | ((first | (refine S_reg0 rfl [0,1,2,3,4,5,6,7,8,9,10,11,21,57,76,83,96,106,116,137] rfl rfl (fun K hK => ?_)) | (refine S_drw0 rfl [0,1,2,3,4,5,6,7,8,9,10,11,21,57,76,83,96,106,116,137] rfl (by kernel_rfl) rfl (fun K hK => ?_))); simp -dsimp -implicitDefEqProofs only [go_sem, eq_self, ↓reduceIte]; (repeat' (first | (refine And.intro ?_ ?_) | (refine gs_both (fun hb => ?_) (fun hb => ?_) <;> (have hg := hb; (try simp only [nfb] at hg); simp -dsimp -implicitDefEqProofs only [go_sem, hb, hg, eq_self, ↓reduceIte]; clear hb; (try simp only [nfe] at hg))))); any_goals ((first | (refine hK _ _ _ _ (fun hx => ?_)) | (refine hK _ _ _ _ (drawA (fun i => i - k)) (fun hx => ?_)) | (refine hK _ _ _ _ drawB (fun hx => ?_))); clear hx hK; simp -dsimp -implicitDefEqProofs only [go_sem, eq_self, ↓reduceIte]; (try simp (disch := omega) only [wrap_i64, wrap_u64, wrap_u32, wrap_u8]))) | omega))
              · refine ⟨c + 1, by omega, by omega, ?_⟩
                rw [hsucc3, show fellAt a b g c = [⟨16, (g : Int), (c : Int)⟩] by rw [fellAt, decide_eq_true (by omega)]; rfl]
                simp -dsimp -implicitDefEqProofs only [go_sem, eq_self, ↓reduceIte]
                exact Mv.app (k + 4) (k + 2) ⟨by omega, by omega⟩ ⟨by omega, by omega⟩ (wk_low (by omega) (by simp -dsimp -implicitDefEqProofs only [go_sem, List.map_append, List.map_cons, List.map_nil, Flt.row, eq_self, ↓reduceIte]) (by simp -dsimp -implicitDefEqProofs only [go_sem, List.map_append, List.map_cons, List.map_nil, Flt.row, eq_self, ↓reduceIte]) (by simp -dsimp -implicitDefEqProofs only [go_sem, List.map_append, List.map_cons, List.map_nil, Flt.row, eq_self, ↓reduceIte]) (by simp -dsimp -implicitDefEqProofs only [go_sem, List.map_append, List.map_cons, List.map_nil, Flt.row, eq_self, ↓reduceIte]))
              · refine ⟨c + 1, by omega, by omega, ?_⟩
                rw [hsucc3, show fellAt a b g c = [] by rw [fellAt, decide_eq_false (by omega)]; rfl, List.append_nil]
                simp -dsimp -implicitDefEqProofs only [go_sem, eq_self, ↓reduceIte]
                exact wkF
              · have hcn : c = a.nsp g := by omega
                refine ⟨g + 1, by omega, by omega, ?_⟩
                rw [hsucc2, ← hcn, ← e3']
                simp -dsimp -implicitDefEqProofs only [go_sem, eq_self, ↓reduceIte]
                exact wkF
            · have hgn : g = a.ns := by omega
              subst hgn
              have hl2 : movesL a b = l2 := by rw [e2', e1]; rfl
              rw [hl2] at hRr
              refine W_mv (Mv.wk (fr1 := [(4, accV (k + 2) (l2.map Flt.row)), (5, .lit (.int .i64 0))]) (k1 := k + 3) (H1 := accH (k + 2) 3 (l2.map Flt.row) [(k + 1, ⟨7, true, [b.cells]⟩), (k, ⟨7, true, [a.cells]⟩)]) (wk_low (by omega) (by simp -dsimp -implicitDefEqProofs only [go_sem, List.map_append, List.map_cons, List.map_nil, Flt.row, eq_self, ↓reduceIte]) (by simp -dsimp -implicitDefEqProofs only [go_sem, List.map_append, List.map_cons, List.map_nil, Flt.row, eq_self, ↓reduceIte]) (by simp -dsimp -implicitDefEqProofs only [go_sem, List.map_append, List.map_cons, List.map_nil, Flt.row, eq_self, ↓reduceIte]) (by simp -dsimp -implicitDefEqProofs only [go_sem, List.map_append, List.map_cons, List.map_nil, Flt.row, eq_self, ↓reduceIte]))) ?_
              refine W_mv (Mv.frz_at (id := k + 2) (s := 3) (l := l2.map Flt.row) 4 (rows 3 (l2.map Flt.row)) [(k + 1, ⟨7, true, [b.cells]⟩), (k, ⟨7, true, [a.cells]⟩)] (by simp -dsimp -implicitDefEqProofs only [go_sem, List.map_append, List.map_cons, List.map_nil, Flt.row, eq_self, ↓reduceIte]) (by simp -dsimp -implicitDefEqProofs only [go_sem, List.map_append, List.map_cons, List.map_nil, Flt.row, eq_self, ↓reduceIte]) (VLe.refl _) (by simp -dsimp -implicitDefEqProofs only [go_sem, List.map_append, List.map_cons, List.map_nil, Flt.row, eq_self, ↓reduceIte]) (by simp -dsimp -implicitDefEqProofs only [go_sem, List.map_append, List.map_cons, List.map_nil, Flt.row, eq_self, ↓reduceIte])) ?_
              simp -dsimp -implicitDefEqProofs only [go_sem, eq_self, ↓reduceIte]
              refine C_ret rfl ⟨_, rfl, ?_⟩
              rw [hRr]
              exact VLe.refl _
        · rw [Bool.not_eq_true] at hal
          have hall : alB a b a.ng = false := by
            cases hx : alB a b a.ng with
            | false => rfl
            | true =>
              simp only [alB, decide_eq_true_eq, decide_eq_false_iff_not] at hal hx
              exact absurd ⟨hx.1, hx.2.1, hx.2.2.1, fun g hg => hx.2.2.2 g (by omega)⟩ hal
          rw [if_pos hall] at hRr
          (repeat' (first | (refine C_seq rfl ?_) | (refine C_block rfl ?_) | (refine C_skip rfl ?_; (try simp -dsimp -implicitDefEqProofs only [go_sem, hal, eq_self, ↓reduceIte])) | (refine C_exit rfl ?_; (try simp -dsimp -implicitDefEqProofs only [go_sem, hal, eq_self, ↓reduceIte])) | (refine C_cond rfl _ rfl (fun ht => ?_) (fun ht => ?_) <;> (try (simp only [nf] at ht)) <;> (try (exfalso; omega))) | ((first | (refine S_reg0 rfl [0,1,2,3,4,5,6,7,8,9,10,11,21,57,76,83,96,106,116,137] rfl rfl (fun K hK => ?_)) | (refine S_drw0 rfl [0,1,2,3,4,5,6,7,8,9,10,11,21,57,76,83,96,106,116,137] rfl (by kernel_rfl) rfl (fun K hK => ?_))); simp -dsimp -implicitDefEqProofs only [go_sem, hal, eq_self, ↓reduceIte]; (repeat' (first | (refine And.intro ?_ ?_) | (refine gs_both (fun hb => ?_) (fun hb => ?_) <;> (have hg := hb; (try simp only [nfb] at hg); simp -dsimp -implicitDefEqProofs only [go_sem, hal, hb, hg, eq_self, ↓reduceIte]; clear hb; (try simp only [nfe] at hg))))); any_goals ((first | (refine hK _ _ _ _ (fun hx => ?_)) | (refine hK _ _ _ _ (drawOk_names (fun i => i - k) (by simp only [List.map_cons, List.map_nil, shG, hal, ↓reduceIte, Nat.add_sub_cancel_left, Nat.sub_self]; rfl) (by decide +kernel) (by simp -dsimp -implicitDefEqProofs only [go_sem, hal, eq_self, ↓reduceIte])) (fun hx => ?_)) | (refine hK _ _ _ _ (drawOk_of (by kernel_rfl) (by simp -dsimp -implicitDefEqProofs only [go_sem, hal, eq_self, ↓reduceIte])) (fun hx => ?_))); clear hx hK; simp -dsimp -implicitDefEqProofs only [go_sem, hal, eq_self, ↓reduceIte]; (try simp (disch := omega) only [wrap_i64, wrap_u64, wrap_u32, wrap_u8]))) | omega))
          refine W_mv (Mv.frz_at (id := k + 2) (s := 3) (l := [Flt.row ⟨17, 0, 0⟩]) 4 (rows 3 [Flt.row ⟨17, 0, 0⟩]) [(k + 1, ⟨7, true, [b.cells]⟩), (k, ⟨7, true, [a.cells]⟩)] (by simp -dsimp -implicitDefEqProofs only [go_sem, List.map_append, List.map_cons, List.map_nil, Flt.row, eq_self, ↓reduceIte]) (by simp -dsimp -implicitDefEqProofs only [go_sem, List.map_append, List.map_cons, List.map_nil, Flt.row, eq_self, ↓reduceIte]) (VLe.refl _) (by simp -dsimp -implicitDefEqProofs only [go_sem, List.map_append, List.map_cons, List.map_nil, Flt.row, eq_self, ↓reduceIte]) (by simp -dsimp -implicitDefEqProofs only [go_sem, List.map_append, List.map_cons, List.map_nil, Flt.row, eq_self, ↓reduceIte])) ?_
          simp -dsimp -implicitDefEqProofs only [go_sem, eq_self, ↓reduceIte]
          refine C_ret rfl ⟨_, rfl, ?_⟩
          rw [hRr]
          exact VLe.refl _
  · have hbad : badP a b := .inl (by omega)
    (repeat' (first | (refine C_seq rfl ?_) | (refine C_block rfl ?_) | (refine C_skip rfl ?_; (try simp -dsimp -implicitDefEqProofs only [go_sem, eq_self, ↓reduceIte])) | (refine C_exit rfl ?_; (try simp -dsimp -implicitDefEqProofs only [go_sem, eq_self, ↓reduceIte])) | (refine C_cond rfl _ rfl (fun ht => ?_) (fun ht => ?_) <;> (try (simp only [nf] at ht)) <;> (try (exfalso; omega))) | ((first | (refine S_reg0 rfl [0,1,2,3,4,5,6,7,8,9,10,11,21,57,76,83,96,106,116,137] rfl rfl (fun K hK => ?_)) | (refine S_drw0 rfl [0,1,2,3,4,5,6,7,8,9,10,11,21,57,76,83,96,106,116,137] rfl (by kernel_rfl) rfl (fun K hK => ?_))); simp -dsimp -implicitDefEqProofs only [go_sem, eq_self, ↓reduceIte]; (repeat' (first | (refine And.intro ?_ ?_) | (refine gs_both (fun hb => ?_) (fun hb => ?_) <;> (have hg := hb; (try simp only [nfb] at hg); simp -dsimp -implicitDefEqProofs only [go_sem, hb, hg, eq_self, ↓reduceIte]; clear hb; (try simp only [nfe] at hg))))); any_goals ((first | (refine hK _ _ _ _ (fun hx => ?_)) | (refine hK _ _ _ _ (drawA (fun i => i - k)) (fun hx => ?_)) | (refine hK _ _ _ _ drawB (fun hx => ?_))); clear hx hK; simp -dsimp -implicitDefEqProofs only [go_sem, eq_self, ↓reduceIte]; (try simp (disch := omega) only [wrap_i64, wrap_u64, wrap_u32, wrap_u8]))) | omega))
    refine C_ret rfl ⟨_, rfl, ?_⟩
    rw [eR, eE, stepF2, stepE2, if_pos hbad, if_pos hbad]
    exact VLe.tups (.cons (VLe.nil _ _) (.cons (VLe.refl _) .nil))
end Go.Proofs.T
end

section
set_option linter.unusedVariables false
set_option linter.unusedSimpArgs false
namespace Go.Proofs.T
open Go Go.AM Go.Proofs
set_option linter.unusedSimpArgs false
set_option linter.unusedVariables false
set_option maxRecDepth 4000
variable {Γ : List (Nat × List AVal)}
def zSt : St := ⟨0, 0, 0, fun _ => 0, fun _ => 0, 0, fun _ => 0, 0, fun _ => 0, 0, fun _ => ⟨0, 0, 0, 0, 0, false, 0, 0⟩, 0, fun _ => 0, fun _ _ => ⟨0, 0, 0⟩⟩
theorem moves_sorted (a b : St) : (movesL a b).Pairwise leF := by
  unfold movesL
  refine ap_sorted (col_sorted fun i => rfl) (flats_sorted (fun g _ => row_sorted fun i => rfl) fun i j hij _ x hx y hy => ?_) fun x hx y hy => ?_
  · obtain ⟨c, _, hx⟩ := mem_flats.1 hx
    obtain ⟨_, rfl⟩ := mem_iff1.1 hx
    obtain ⟨c', _, hy⟩ := mem_flats.1 hy
    obtain ⟨_, rfl⟩ := mem_iff1.1 hy
    exact leF_a rfl (by simp only; omega)
  · obtain ⟨c, _, hx⟩ := mem_flats.1 hx
    obtain ⟨_, rfl⟩ := mem_iff1.1 hx
    obtain ⟨g, _, hy⟩ := mem_flats.1 hy
    obtain ⟨c', _, hy⟩ := mem_flats.1 hy
    obtain ⟨_, rfl⟩ := mem_iff1.1 hy
    exact leF_r (by simp)
theorem moves_ok (a b : St) (hs : a.Small) : ∀ f ∈ movesL a b, f.ok := fun x hx => by
  unfold movesL at hx
  rcases List.mem_append.1 hx with hx | hx
  · obtain ⟨c, hc, hx⟩ := mem_flats.1 hx
    obtain ⟨_, rfl⟩ := mem_iff1.1 hx
    have := hs.nk
    unfold Flt.ok; simp only; omega
  · obtain ⟨g, hg, hx⟩ := mem_flats.1 hx
    obtain ⟨c, hc, hx⟩ := mem_flats.1 hx
    obtain ⟨_, rfl⟩ := mem_iff1.1 hx
    have := hs.ns
    have := hs.nsp g hg
    unfold Flt.ok; simp only; omega
set_option maxHeartbeats 4000000 in
theorem step (a b : St) (hq : PreOk a) (hq' : PreOk b) (hk : Kinds a) (hk' : Kinds b) : Pure Tryz.prog Γ 21 [.agg a.cells, .agg b.cells] (.tup [rows 3 ((stepF2 a b).map Flt.row), .lit (.int .i64 (stepE2 a b))]) := by
  obtain ⟨⟨hng, hnk, hnu, hnt, hns, hnsp⟩, h12, hp12⟩ := id hq
  obtain ⟨⟨hng', hnk', hnu', hnt', hns', hnsp'⟩, h12', hp12'⟩ := id hq'
  have hla := checkR_len a hq
  have hlb := checkR_len b hq'
  refine Pure_at Tryz.func21 rfl 108 rfl (Nat.le_of_ble_eq_true rfl) rfl fun k => ?_
  obtain ⟨R, eR⟩ : ∃ R, R = (stepF2 a b).map Flt.row := ⟨_, rfl⟩
  obtain ⟨E, eE⟩ : ∃ E, E = stepE2 a b := ⟨_, rfl⟩
  rw [← eR, ← eE]
  (repeat' (first | (refine C_seq rfl ?_) | (refine C_block rfl ?_) | (refine C_skip rfl ?_; (try simp -dsimp -implicitDefEqProofs only [go_sem, eq_self, ↓reduceIte])) | (refine C_exit rfl ?_; (try simp -dsimp -implicitDefEqProofs only [go_sem, eq_self, ↓reduceIte])) | (refine C_cond rfl _ rfl (fun ht => ?_) (fun ht => ?_) <;> (try (simp only [nf] at ht)) <;> (try (exfalso; omega))) | ((first | (refine S_reg0 rfl [0,1,2,3,4,5,6,7,8,9,10,11,19,47,54,55,56,74,75,76,77,81,82,83,84] rfl rfl (fun K hK => ?_)) | (refine S_drw0 rfl [0,1,2,3,4,5,6,7,8,9,10,11,19,47,54,55,56,74,75,76,77,81,82,83,84] rfl (by kernel_rfl) rfl (fun K hK => ?_))); simp -dsimp -implicitDefEqProofs only [go_sem, eq_self, ↓reduceIte]; (repeat' (first | (refine And.intro ?_ ?_) | (refine gs_both (fun hb => ?_) (fun hb => ?_) <;> (have hg := hb; (try simp only [nfb] at hg); simp -dsimp -implicitDefEqProofs only [go_sem, hb, hg, eq_self, ↓reduceIte]; clear hb; (try simp only [nfe] at hg))))); any_goals ((first | (refine hK _ _ _ _ (fun hx => ?_)) | (refine hK _ _ _ _ (drawA (fun i => i - k)) (fun hx => ?_)) | (refine hK _ _ _ _ drawB (fun hx => ?_))); clear hx hK; simp -dsimp -implicitDefEqProofs only [go_sem, eq_self, ↓reduceIte]; (try simp (disch := omega) only [wrap_i64, wrap_u64, wrap_u32, wrap_u8]))) | omega))
  refine S_drw rfl [0,1,2,3,4,5,6,7,8,9,10,11,19,47,54,55,56,74,75,76,77,81,82,83,84] [.ret (.rd 3 (checkR a).length (fun j => ((checkR a).map Flt.row).getD j [])), .ret (.rd 3 (checkR b).length (fun j => ((checkR b).map Flt.row).getD j []))] (by kernel_rfl) rfl (fun K hK => ?_); simp -dsimp -implicitDefEqProofs only [go_sem, eq_self, ↓reduceIte]; (repeat' (first | (refine And.intro ?_ ?_) | (refine gs_both (fun hb => ?_) (fun hb => ?_) <;> (have hg := hb; (try simp only [nfb] at hg); simp -dsimp -implicitDefEqProofs only [go_sem, hb, hg, eq_self, ↓reduceIte]; clear hb; (try simp only [nfe] at hg))))); (any_goals ((first | (refine hK _ _ _ _ (drawA (fun i => i - k)) (fun hx => ?_)) | (refine hK _ _ _ _ drawB (fun hx => ?_))); clear hx hK; simp -dsimp -implicitDefEqProofs only [go_sem, eq_self, ↓reduceIte]; (try simp (disch := omega) only [wrap_i64, wrap_u64, wrap_u32, wrap_u8]))); (all_goals (try omega))
  · have h := check_eq (Γ := Γ) a hq hk
    rw [rows, List.length_map] at h
    exact h
  · have h := check_eq (Γ := Γ) b hq' hk'
    rw [rows, List.length_map] at h
    exact h
  refine C_cond rfl _ rfl (fun ht => ?_) (fun hf => ?_)
  · have hbad : badP a b := by simp only [decide_eq_true_eq] at ht; unfold badP; omega
    (repeat' (first | (refine C_seq rfl ?_) | (refine C_block rfl ?_) | (refine C_skip rfl ?_; (try simp -dsimp -implicitDefEqProofs only [go_sem, eq_self, ↓reduceIte])) | (refine C_exit rfl ?_; (try simp -dsimp -implicitDefEqProofs only [go_sem, eq_self, ↓reduceIte])) | (refine C_cond rfl _ rfl (fun ht => ?_) (fun ht => ?_) <;> (try (simp only [nf] at ht)) <;> (try (exfalso; omega))) | ((first | (refine S_reg0 rfl [0,1,2,3,4,5,6,7,8,9,10,11,19,47,54,55,56,74,75,76,77,81,82,83,84] rfl rfl (fun K hK => ?_)) | (refine S_drw0 rfl [0,1,2,3,4,5,6,7,8,9,10,11,19,47,54,55,56,74,75,76,77,81,82,83,84] rfl (by kernel_rfl) rfl (fun K hK => ?_))); simp -dsimp -implicitDefEqProofs only [go_sem, eq_self, ↓reduceIte]; (repeat' (first | (refine And.intro ?_ ?_) | (refine gs_both (fun hb => ?_) (fun hb => ?_) <;> (have hg := hb; (try simp only [nfb] at hg); simp -dsimp -implicitDefEqProofs only [go_sem, hb, hg, eq_self, ↓reduceIte]; clear hb; (try simp only [nfe] at hg))))); any_goals ((first | (refine hK _ _ _ _ (fun hx => ?_)) | (refine hK _ _ _ _ (drawA (fun i => i - k)) (fun hx => ?_)) | (refine hK _ _ _ _ drawB (fun hx => ?_))); clear hx hK; simp -dsimp -implicitDefEqProofs only [go_sem, eq_self, ↓reduceIte]; (try simp (disch := omega) only [wrap_i64, wrap_u64, wrap_u32, wrap_u8]))) | omega))
    refine C_ret rfl ⟨_, rfl, ?_⟩
    rw [eR, eE, stepF2, stepE2, if_pos hbad, if_pos hbad]
    exact VLe.tups (.cons (VLe.nil _ _) (.cons (VLe.refl _) .nil))
  · have hnb : ¬ badP a b := by simp only [decide_eq_false_iff_not] at hf; unfold badP; omega
    have ha : (checkR a).length = 0 := by unfold badP at hnb; omega
    have hb : (checkR b).length = 0 := by unfold badP at hnb; omega
    have hE : E = 0 := by rw [eE, stepE2, if_neg hnb]
    have hRr : R = (if alB a b a.ng = false then [⟨17, 0, 0⟩] else movesL a b).map Flt.row := by rw [eR, stepF2, if_neg hnb]
    clear eR eE
    subst hE
    refine C_skip rfl ?_; simp -dsimp -implicitDefEqProofs only [go_sem, eq_self, ↓reduceIte]
    refine C_seq rfl ?_
    refine M_midO (X := Bool) rfl [0,1,2,3,4,5,6,7,8,9,10,11,19,47,54,55,56,74,75,76,77,81,82,83,84] (k + 2) (fun x => [(47, .lit (.bool x))]) (fun x => [(k + 1, ⟨7, true, [b.cells]⟩), (k, ⟨7, true, [a.cells]⟩)]) (fun x => x = !(alB a b a.ng)) ?_ ?_
    · refine S_drw rfl [0,1,2,3,4,5,6,7,8,9,10,11,19,47,54,55,56,74,75,76,77,81,82,83,84] [.ret (.rd 1 a.ng (pf a)), .ret (.rd 1 b.ng (pf b)), .ret (.lit (.bool (decide (a.ng = b.ng ∧ ∀ i, i < a.ng → a.par i = b.par i))))] (by kernel_rfl) rfl (fun K hK => ?_); simp -dsimp -implicitDefEqProofs only [go_sem, eq_self, ↓reduceIte]; (repeat' (first | (refine And.intro ?_ ?_) | (refine gs_both (fun hb => ?_) (fun hb => ?_) <;> (have hg := hb; (try simp only [nfb] at hg); simp -dsimp -implicitDefEqProofs only [go_sem, hb, hg, eq_self, ↓reduceIte]; clear hb; (try simp only [nfe] at hg))))); (any_goals ((first | (refine hK _ _ _ _ (drawA (fun i => i - k)) (fun hx => ?_)) | (refine hK _ _ _ _ drawB (fun hx => ?_))); clear hx hK; simp -dsimp -implicitDefEqProofs only [go_sem, eq_self, ↓reduceIte]; (try simp (disch := omega) only [wrap_i64, wrap_u64, wrap_u32, wrap_u8]))); (all_goals (try omega))
      · exact parents a a.ng hng
      · exact parents b b.ng hng'
      · exact slicesEqual a.ng b.ng a.par b.par hng hng'
      · refine ⟨!(decide (a.ng = b.ng ∧ ∀ i, i < a.ng → a.par i = b.par i)), ?_, ?_⟩
        · congr 1
          rw [Bool.eq_iff_iff, alB, decide_eq_true_eq, decide_eq_true_eq]
          exact ⟨fun h => ⟨by assumption, by assumption, h.1, h.2⟩, fun h => h.2.2⟩
        · exact wkF
      · refine ⟨true, ?_, ?_⟩
        · rw [alB, decide_eq_false]
          · rfl
          · rintro ⟨h1, h2, _⟩; contradiction
        · exact wkF
      · refine ⟨true, ?_, ?_⟩
        · rw [alB, decide_eq_false]
          · rfl
          · rintro ⟨h1, h2, _⟩; contradiction
        · exact wkF
    · rintro x rfl
      simp -dsimp -implicitDefEqProofs only [go_sem, eq_self, ↓reduceIte]
      refine C_cond rfl _ rfl (fun ht => ?_) (fun hf => ?_)
      · have hall : alB a b a.ng = false := by simpa using ht
        rw [if_pos hall] at hRr
        (repeat' (first | (refine C_seq rfl ?_) | (refine C_block rfl ?_) | (refine C_skip rfl ?_; (try simp -dsimp -implicitDefEqProofs only [go_sem, eq_self, ↓reduceIte])) | (refine C_exit rfl ?_; (try simp -dsimp -implicitDefEqProofs only [go_sem, eq_self, ↓reduceIte])) | (refine C_cond rfl _ rfl (fun ht => ?_) (fun ht => ?_) <;> (try (simp only [nf] at ht)) <;> (try (exfalso; omega))) | ((first | (refine S_reg0 rfl [0,1,2,3,4,5,6,7,8,9,10,11,19,47,54,55,56,74,75,76,77,81,82,83,84] rfl rfl (fun K hK => ?_)) | (refine S_drw0 rfl [0,1,2,3,4,5,6,7,8,9,10,11,19,47,54,55,56,74,75,76,77,81,82,83,84] rfl (by kernel_rfl) rfl (fun K hK => ?_))); simp -dsimp -implicitDefEqProofs only [go_sem, eq_self, ↓reduceIte]; (repeat' (first | (refine And.intro ?_ ?_) | (refine gs_both (fun hb => ?_) (fun hb => ?_) <;> (have hg := hb; (try simp only [nfb] at hg); simp -dsimp -implicitDefEqProofs only [go_sem, hb, hg, eq_self, ↓reduceIte]; clear hb; (try simp only [nfe] at hg))))); any_goals ((first | (refine hK _ _ _ _ (fun hx => ?_)) | (refine hK _ _ _ _ (drawA (fun i => i - k)) (fun hx => ?_)) | (refine hK _ _ _ _ drawB (fun hx => ?_))); clear hx hK; simp -dsimp -implicitDefEqProofs only [go_sem, eq_self, ↓reduceIte]; (try simp (disch := omega) only [wrap_i64, wrap_u64, wrap_u32, wrap_u8]))) | omega))
        refine W_mv (Mv.frz_at (id := k + 2) (s := 3) (l := [Flt.row ⟨17, 0, 0⟩]) 4 (rows 3 [Flt.row ⟨17, 0, 0⟩]) [(k + 1, ⟨7, true, [b.cells]⟩), (k, ⟨7, true, [a.cells]⟩)] (by simp -dsimp -implicitDefEqProofs only [go_sem, List.map_append, List.map_cons, List.map_nil, Flt.row, eq_self, ↓reduceIte]) (by simp -dsimp -implicitDefEqProofs only [go_sem, List.map_append, List.map_cons, List.map_nil, Flt.row, eq_self, ↓reduceIte]) (VLe.refl _) (by simp -dsimp -implicitDefEqProofs only [go_sem, List.map_append, List.map_cons, List.map_nil, Flt.row, eq_self, ↓reduceIte]) (by simp -dsimp -implicitDefEqProofs only [go_sem, List.map_append, List.map_cons, List.map_nil, Flt.row, eq_self, ↓reduceIte])) ?_
        simp -dsimp -implicitDefEqProofs only [go_sem, eq_self, ↓reduceIte]
        refine C_ret rfl ⟨_, rfl, ?_⟩
        rw [hRr]
        exact VLe.refl _
      · have hall : alB a b a.ng = true := by simpa using hf
        rw [if_neg (by rw [hall]; simp)] at hRr
        obtain ⟨gnk, gns, gnsp⟩ := alike_of ha hb hall
        (repeat' (first | (refine C_seq rfl ?_) | (refine C_block rfl ?_) | (refine C_skip rfl ?_; (try simp -dsimp -implicitDefEqProofs only [go_sem, eq_self, ↓reduceIte])) | (refine C_exit rfl ?_; (try simp -dsimp -implicitDefEqProofs only [go_sem, eq_self, ↓reduceIte])) | (refine C_cond rfl _ rfl (fun ht => ?_) (fun ht => ?_) <;> (try (simp only [nf] at ht)) <;> (try (exfalso; omega))) | ((first | (refine S_reg0 rfl [0,1,2,3,4,5,6,7,8,9,10,11,19,47,54,55,56,74,75,76,77,81,82,83,84] rfl rfl (fun K hK => ?_)) | (refine S_drw0 rfl [0,1,2,3,4,5,6,7,8,9,10,11,19,47,54,55,56,74,75,76,77,81,82,83,84] rfl (by kernel_rfl) rfl (fun K hK => ?_))); simp -dsimp -implicitDefEqProofs only [go_sem, eq_self, ↓reduceIte]; (repeat' (first | (refine And.intro ?_ ?_) | (refine gs_both (fun hb => ?_) (fun hb => ?_) <;> (have hg := hb; (try simp only [nfb] at hg); simp -dsimp -implicitDefEqProofs only [go_sem, hb, hg, eq_self, ↓reduceIte]; clear hb; (try simp only [nfe] at hg))))); any_goals ((first | (refine hK _ _ _ _ (fun hx => ?_)) | (refine hK _ _ _ _ (drawA (fun i => i - k)) (fun hx => ?_)) | (refine hK _ _ _ _ drawB (fun hx => ?_))); clear hx hK; simp -dsimp -implicitDefEqProofs only [go_sem, eq_self, ↓reduceIte]; (try simp (disch := omega) only [wrap_i64, wrap_u64, wrap_u32, wrap_u8]))) | omega))
        refine W_mv (Mv.row (k + 2) (l := []) (lkRow (k + 3) zSt []) (by simp -dsimp -implicitDefEqProofs only [go_sem, List.map_append, List.map_cons, List.map_nil, Flt.row, eq_self, ↓reduceIte]; rfl) (.cons (VLe.refl _) (.cons (VLe.refl _) (.cons (VLe.nil _ _) (.cons (VLe.nil _ _) (.cons (VLe.nil _ _) (.cons (VLe.nil _ _) (.cons (VLe.nil _ _) (.cons (VLe.refl _) .nil)))))))) rfl) ?_
        simp -dsimp -implicitDefEqProofs only [go_sem, eq_self, ↓reduceIte]
        refine W_mv (Mv.impure (k + 2) (by simp -dsimp -implicitDefEqProofs only [go_sem, eq_self, ↓reduceIte]; rfl)) ?_
        simp -dsimp -implicitDefEqProofs only [go_sem, eq_self, ↓reduceIte]
        refine M_forO (X := Nat) rfl [0,1,2,3,4,5,6,7,8,9,10,11,19,47,54,55,56,74,75,76,77,81,82,83,84] (k + 4) (fun i => [(55, .lit (.int .i64 (i : Int)))]) (fun i => (k + 2, ⟨8, false, [lkRow (k + 3) zSt (flats (backAt a b) i)]⟩) :: accH (k + 3) 3 ((flats (backAt a b) i).map Flt.row) [(k + 1, ⟨7, true, [b.cells]⟩), (k, ⟨7, true, [a.cells]⟩)]) (fun i => i ≤ a.nk) (fun i => a.nk - i) 0 ?_ (Nat.zero_le _) ?_
        · rw [flats_zero]
          simp -dsimp -implicitDefEqProofs only [go_sem, eq_self, ↓reduceIte]
          exact wkF
        intro c hc
        have hfl := flats_len (f := backAt a b) (m := 1) (fun c => iff1_len1 _ _) c
        obtain ⟨l1, e1, h1⟩ : ∃ x, x = flats (backAt a b) c ∧ x.length ≤ c := ⟨_, rfl, by omega⟩
        rw [← e1]
        simp -dsimp -implicitDefEqProofs only [go_sem, eq_self, ↓reduceIte]
        (repeat' (first | (refine C_seq rfl ?_) | (refine C_block rfl ?_) | (refine C_skip rfl ?_; (try simp -dsimp -implicitDefEqProofs only [go_sem, eq_self, ↓reduceIte])) | (refine C_exit rfl ?_; (try simp -dsimp -implicitDefEqProofs only [go_sem, eq_self, ↓reduceIte])) | (refine C_cond rfl _ rfl (fun ht => ?_) (fun ht => ?_) <;> (try (simp only [nf] at ht)) <;> (try (exfalso; omega))) | ((first | (refine S_reg0 rfl [0,1,2,3,4,5,6,7,8,9,10,11,19,47,54,55,56,74,75,76,77,81,82,83,84] rfl rfl (fun K hK => ?_)) | (refine S_drw0 rfl [0,1,2,3,4,5,6,7,8,9,10,11,19,47,54,55,56,74,75,76,77,81,82,83,84] rfl (by kernel_rfl) rfl (fun K hK => ?_))); simp -dsimp -implicitDefEqProofs only [go_sem, eq_self, ↓reduceIte]; (repeat' (first | (refine And.intro ?_ ?_) | (refine gs_both (fun hb => ?_) (fun hb => ?_) <;> (have hg := hb; (try simp only [nfb] at hg); simp -dsimp -implicitDefEqProofs only [go_sem, hb, hg, eq_self, ↓reduceIte]; clear hb; (try simp only [nfe] at hg))))); any_goals ((first | (refine hK _ _ _ _ (fun hx => ?_)) | (refine hK _ _ _ _ (drawA (fun i => i - k)) (fun hx => ?_)) | (refine hK _ _ _ _ drawB (fun hx => ?_))); clear hx hK; simp -dsimp -implicitDefEqProofs only [go_sem, eq_self, ↓reduceIte]; (try simp (disch := omega) only [wrap_i64, wrap_u64, wrap_u32, wrap_u8]))) | omega))
        · obtain ⟨l2, e_l2, h_l2⟩ : ∃ x, x = l1 ++ iff1 (decide (b.clk c < a.clk c)) ⟨15, (c : Int), 0⟩ ∧ x.length ≤ (l1).length + 1 := ⟨_, rfl, iff1_len _ _ _⟩
          refine M_cutO [0,1,2,3,4,5,6,7,8,9,10,11,19,47,54,55,56,74,75,76,77,81,82,83,84] (k + 5) [] ((k + 2, ⟨8, false, [lkRow (k + 4) zSt (l2)]⟩) :: accH (k + 4) 3 ((l2).map Flt.row) [(k + 1, ⟨7, true, [b.cells]⟩), (k, ⟨7, true, [a.cells]⟩)]) ?_ ?_
          · refine S_drw rfl [0,1,2,3,4,5,6,7,8,9,10,11,19,47,54,55,56,74,75,76,77,81,82,83,84] [.gen (.tup []) (k + 5) (LK (k + 2) (k + 3) zSt (l1)) (LK (k + 2) (k + 4) zSt (l2))] (by kernel_rfl) rfl (fun K hK => ?_); simp -dsimp -implicitDefEqProofs only [go_sem, eq_self, ↓reduceIte]; (repeat' (first | (refine And.intro ?_ ?_) | (refine gs_both (fun hb => ?_) (fun hb => ?_) <;> (have hg := hb; (try simp only [nfb] at hg); simp -dsimp -implicitDefEqProofs only [go_sem, hb, hg, eq_self, ↓reduceIte]; clear hb; (try simp only [nfe] at hg))))); (any_goals ((first | (refine hK _ _ _ _ (drawA (fun i => i - k)) (fun hx => ?_)) | (refine hK _ _ _ _ drawB (fun hx => ?_))); clear hx hK; simp -dsimp -implicitDefEqProofs only [go_sem, eq_self, ↓reduceIte]; (try simp (disch := omega) only [wrap_i64, wrap_u64, wrap_u32, wrap_u8]))); (all_goals (try omega))
            all_goals (first | (exact found' (k + 4) (k + 2) (k + 3) zSt (l1) (l2) _ (decide (b.clk c < a.clk c)) _ _ _ (by first | rfl | (rw [Bool.eq_iff_iff]; simp only [beq_iff_eq, bne_iff_ne, ne_eq, decide_eq_true_eq, decide_eq_false_iff_not, Bool.and_eq_true, Bool.or_eq_true, Bool.not_eq_true', beq_eq_false_iff_ne, Bool.false_eq_true, Bool.true_eq_false, true_iff, false_iff, iff_true, iff_false]; omega) | (simp [hg]; done) | (simp [hg, hq]; done) | (simp_all; done) | (simp_all; omega)) e_l2 (by omega) (by omega) (by omega) (by omega)) | (exact wkF))
          simp -dsimp -implicitDefEqProofs only [go_sem, eq_self, ↓reduceIte]
          (repeat' (first | (refine C_seq rfl ?_) | (refine C_block rfl ?_) | (refine C_skip rfl ?_; (try simp -dsimp -implicitDefEqProofs only [go_sem, eq_self, ↓reduceIte])) | (refine C_exit rfl ?_; (try simp -dsimp -implicitDefEqProofs only [go_sem, eq_self, ↓reduceIte])) | (refine C_cond rfl _ rfl (fun ht => ?_) (fun ht => ?_) <;> (try (simp only [nf] at ht)) <;> (try (exfalso; omega))) | ((first | (refine S_reg0 rfl [0,1,2,3,4,5,6,7,8,9,10,11,19,47,54,55,56,74,75,76,77,81,82,83,84] rfl rfl (fun K hK => ?_)) | (refine S_drw0 rfl [0,1,2,3,4,5,6,7,8,9,10,11,19,47,54,55,56,74,75,76,77,81,82,83,84] rfl (by kernel_rfl) rfl (fun K hK => ?_))); simp -dsimp -implicitDefEqProofs only [go_sem, eq_self, ↓reduceIte]; (repeat' (first | (refine And.intro ?_ ?_) | (refine gs_both (fun hb => ?_) (fun hb => ?_) <;> (have hg := hb; (try simp only [nfb] at hg); simp -dsimp -implicitDefEqProofs only [go_sem, hb, hg, eq_self, ↓reduceIte]; clear hb; (try simp only [nfe] at hg))))); any_goals ((first | (refine hK _ _ _ _ (fun hx => ?_)) | (refine hK _ _ _ _ (drawA (fun i => i - k)) (fun hx => ?_)) | (refine hK _ _ _ _ drawB (fun hx => ?_))); clear hx hK; simp -dsimp -implicitDefEqProofs only [go_sem, eq_self, ↓reduceIte]; (try simp (disch := omega) only [wrap_i64, wrap_u64, wrap_u32, wrap_u8]))) | omega))
          refine ⟨c + 1, by omega, by omega, ?_⟩
          rw [show flats (backAt a b) (c + 1) = l2 by rw [flats_succ, ← e1, e_l2]; rfl]
          simp -dsimp -implicitDefEqProofs only [go_sem, eq_self, ↓reduceIte]
          exact Mv.app (k + 4) (k + 3) ⟨by omega, by omega⟩ ⟨by omega, by omega⟩ (wk_low (by omega) (by simp -dsimp -implicitDefEqProofs only [go_sem, List.map_append, List.map_cons, List.map_nil, Flt.row, eq_self, ↓reduceIte]) (by simp -dsimp -implicitDefEqProofs only [go_sem, List.map_append, List.map_cons, List.map_nil, Flt.row, eq_self, ↓reduceIte]) (by simp -dsimp -implicitDefEqProofs only [go_sem, List.map_append, List.map_cons, List.map_nil, Flt.row, eq_self, ↓reduceIte]) (by simp -dsimp -implicitDefEqProofs only [go_sem, List.map_append, List.map_cons, List.map_nil, Flt.row, eq_self, ↓reduceIte]))
        have hcn : c = a.nk := by omega
        subst hcn
        clear hfl
        refine M_forO (X := Nat) rfl [0,1,2,3,4,5,6,7,8,9,10,11,19,47,54,55,56,74,75,76,77,81,82,83,84] (k + 4) (fun i => [(76, .lit (.int .i64 (i : Int)))]) (fun i => (k + 2, ⟨8, false, [lkRow (k + 3) zSt (l1 ++ flats (fellR a b) i)]⟩) :: accH (k + 3) 3 ((l1 ++ flats (fellR a b) i).map Flt.row) [(k + 1, ⟨7, true, [b.cells]⟩), (k, ⟨7, true, [a.cells]⟩)]) (fun i => i ≤ a.ns) (fun i => a.ns - i) 0 ?_ (Nat.zero_le _) ?_
        · rw [flats_zero, List.append_nil]
          simp -dsimp -implicitDefEqProofs only [go_sem, eq_self, ↓reduceIte]
          exact wkF
        intro g hg2
        have hfl := flats_len' (f := fellR a b) (m := 12) g (fun g' hg' => by have := flats_len (f := fellAt a b g') (m := 1) (fun i => iff1_len1 _ _) (a.nsp g'); have := hp12 g' (by omega); unfold fellR; omega)
        obtain ⟨l2, e2, h2⟩ : ∃ x, x = l1 ++ flats (fellR a b) g ∧ x.length ≤ l1.length + g * 12 := ⟨_, rfl, by simp; omega⟩
        rw [← e2]
        simp -dsimp -implicitDefEqProofs only [go_sem, eq_self, ↓reduceIte]
        (repeat' (first | (refine C_seq rfl ?_) | (refine C_block rfl ?_) | (refine C_skip rfl ?_; (try simp -dsimp -implicitDefEqProofs only [go_sem, eq_self, ↓reduceIte])) | (refine C_exit rfl ?_; (try simp -dsimp -implicitDefEqProofs only [go_sem, eq_self, ↓reduceIte])) | (refine C_cond rfl _ rfl (fun ht => ?_) (fun ht => ?_) <;> (try (simp only [nf] at ht)) <;> (try (exfalso; omega))) | ((first | (refine S_reg0 rfl [0,1,2,3,4,5,6,7,8,9,10,11,19,47,54,55,56,74,75,76,77,81,82,83,84] rfl rfl (fun K hK => ?_)) | (refine S_drw0 rfl [0,1,2,3,4,5,6,7,8,9,10,11,19,47,54,55,56,74,75,76,77,81,82,83,84] rfl (by kernel_rfl) rfl (fun K hK => ?_))); simp -dsimp -implicitDefEqProofs only [go_sem, eq_self, ↓reduceIte]; (repeat' (first | (refine And.intro ?_ ?_) | (refine gs_both (fun hb => ?_) (fun hb => ?_) <;> (have hg := hb; (try simp only [nfb] at hg); simp -dsimp -implicitDefEqProofs only [go_sem, hb, hg, eq_self, ↓reduceIte]; clear hb; (try simp only [nfe] at hg))))); any_goals ((first | (refine hK _ _ _ _ (fun hx => ?_)) | (refine hK _ _ _ _ (drawA (fun i => i - k)) (fun hx => ?_)) | (refine hK _ _ _ _ drawB (fun hx => ?_))); clear hx hK; simp -dsimp -implicitDefEqProofs only [go_sem, eq_self, ↓reduceIte]; (try simp (disch := omega) only [wrap_i64, wrap_u64, wrap_u32, wrap_u8]))) | omega))
        · have hpg : a.nsp g ≤ 12 := hp12 g (by omega)
          have hpg' : b.nsp g = a.nsp g := gnsp g (by omega)
          refine M_forO (X := Nat) rfl [0,1,2,3,4,5,6,7,8,9,10,11,19,47,54,55,56,74,75,76,77,81,82,83,84] (k + 4) (fun i => [(83, .lit (.int .i64 (i : Int)))]) (fun i => (k + 2, ⟨8, false, [lkRow (k + 3) zSt (l2 ++ flats (fellAt a b g) i)]⟩) :: accH (k + 3) 3 ((l2 ++ flats (fellAt a b g) i).map Flt.row) [(k + 1, ⟨7, true, [b.cells]⟩), (k, ⟨7, true, [a.cells]⟩)]) (fun i => i ≤ a.nsp g) (fun i => a.nsp g - i) 0 ?_ (Nat.zero_le _) ?_
          · rw [flats_zero, List.append_nil]
            simp -dsimp -implicitDefEqProofs only [go_sem, eq_self, ↓reduceIte]
            exact wkF
          intro c hc
          have hfi := flats_len (f := fellAt a b g) (m := 1) (fun i => iff1_len1 _ _) c
          obtain ⟨l3, e3, h3⟩ : ∃ x, x = l2 ++ flats (fellAt a b g) c ∧ x.length ≤ l2.length + c := ⟨_, rfl, by simp; omega⟩
          rw [← e3]
          simp -dsimp -implicitDefEqProofs only [go_sem, eq_self, ↓reduceIte]
          (repeat' (first | (refine C_seq rfl ?_) | (refine C_block rfl ?_) | (refine C_skip rfl ?_; (try simp -dsimp -implicitDefEqProofs only [go_sem, eq_self, ↓reduceIte])) | (refine C_exit rfl ?_; (try simp -dsimp -implicitDefEqProofs only [go_sem, eq_self, ↓reduceIte])) | (refine C_cond rfl _ rfl (fun ht => ?_) (fun ht => ?_) <;> (try (simp only [nf] at ht)) <;> (try (exfalso; omega))) | ((first | (refine S_reg0 rfl [0,1,2,3,4,5,6,7,8,9,10,11,19,47,54,55,56,74,75,76,77,81,82,83,84] rfl rfl (fun K hK => ?_)) | (refine S_drw0 rfl [0,1,2,3,4,5,6,7,8,9,10,11,19,47,54,55,56,74,75,76,77,81,82,83,84] rfl (by kernel_rfl) rfl (fun K hK => ?_))); simp -dsimp -implicitDefEqProofs only [go_sem, eq_self, ↓reduceIte]; (repeat' (first | (refine And.intro ?_ ?_) | (refine gs_both (fun hb => ?_) (fun hb => ?_) <;> (have hg := hb; (try simp only [nfb] at hg); simp -dsimp -implicitDefEqProofs only [go_sem, hb, hg, eq_self, ↓reduceIte]; clear hb; (try simp only [nfe] at hg))))); any_goals ((first | (refine hK _ _ _ _ (fun hx => ?_)) | (refine hK _ _ _ _ (drawA (fun i => i - k)) (fun hx => ?_)) | (refine hK _ _ _ _ drawB (fun hx => ?_))); clear hx hK; simp -dsimp -implicitDefEqProofs only [go_sem, eq_self, ↓reduceIte]; (try simp (disch := omega) only [wrap_i64, wrap_u64, wrap_u32, wrap_u8]))) | omega))
          · obtain ⟨l4, e_l4, h_l4⟩ : ∃ x, x = l3 ++ iff1 (decide ((b.sp g c).floor < (a.sp g c).floor)) ⟨16, (g : Int), (c : Int)⟩ ∧ x.length ≤ (l3).length + 1 := ⟨_, rfl, iff1_len _ _ _⟩
            refine M_cutO [0,1,2,3,4,5,6,7,8,9,10,11,19,47,54,55,56,74,75,76,77,81,82,83,84] (k + 6) [] ((k + 2, ⟨8, false, [lkRow (k + 5) zSt (l4)]⟩) :: accH (k + 5) 3 ((l4).map Flt.row) [(k + 4, ⟨3, true, [sf a g c]⟩), (k + 1, ⟨7, true, [b.cells]⟩), (k, ⟨7, true, [a.cells]⟩)]) ?_ ?_
            · refine S_drw rfl [0,1,2,3,4,5,6,7,8,9,10,11,19,47,54,55,56,74,75,76,77,81,82,83,84] [.gen (.tup []) (k + 6) (LK (k + 2) (k + 3) zSt (l3)) (LK (k + 2) (k + 5) zSt (l4))] (by kernel_rfl) rfl (fun K hK => ?_); simp -dsimp -implicitDefEqProofs only [go_sem, eq_self, ↓reduceIte]; (repeat' (first | (refine And.intro ?_ ?_) | (refine gs_both (fun hb => ?_) (fun hb => ?_) <;> (have hg := hb; (try simp only [nfb] at hg); simp -dsimp -implicitDefEqProofs only [go_sem, hb, hg, eq_self, ↓reduceIte]; clear hb; (try simp only [nfe] at hg))))); (any_goals ((first | (refine hK _ _ _ _ (drawA (fun i => i - k)) (fun hx => ?_)) | (refine hK _ _ _ _ drawB (fun hx => ?_))); clear hx hK; simp -dsimp -implicitDefEqProofs only [go_sem, eq_self, ↓reduceIte]; (try simp (disch := omega) only [wrap_i64, wrap_u64, wrap_u32, wrap_u8]))); (all_goals (try omega))
              all_goals (first | (exact found' (k + 5) (k + 2) (k + 3) zSt (l3) (l4) _ (decide ((b.sp g c).floor < (a.sp g c).floor)) _ _ _ (by first | rfl | (rw [Bool.eq_iff_iff]; simp only [beq_iff_eq, bne_iff_ne, ne_eq, decide_eq_true_eq, decide_eq_false_iff_not, Bool.and_eq_true, Bool.or_eq_true, Bool.not_eq_true', beq_eq_false_iff_ne, Bool.false_eq_true, Bool.true_eq_false, true_iff, false_iff, iff_true, iff_false]; omega) | (simp [hg]; done) | (simp [hg, hq]; done) | (simp_all; done) | (simp_all; omega)) e_l4 (by omega) (by omega) (by omega) (by omega)) | (exact wkF))
            simp -dsimp -implicitDefEqProofs only [go_sem, eq_self, ↓reduceIte]
            (repeat' (first | (refine C_seq rfl ?_) | (refine C_block rfl ?_) | (refine C_skip rfl ?_; (try simp -dsimp -implicitDefEqProofs only [go_sem, eq_self, ↓reduceIte])) | (refine C_exit rfl ?_; (try simp -dsimp -implicitDefEqProofs only [go_sem, eq_self, ↓reduceIte])) | (refine C_cond rfl _ rfl (fun ht => ?_) (fun ht => ?_) <;> (try (simp only [nf] at ht)) <;> (try (exfalso; omega))) | ((first | (refine S_reg0 rfl [0,1,2,3,4,5,6,7,8,9,10,11,19,47,54,55,56,74,75,76,77,81,82,83,84] rfl rfl (fun K hK => ?_)) | (refine S_drw0 rfl [0,1,2,3,4,5,6,7,8,9,10,11,19,47,54,55,56,74,75,76,77,81,82,83,84] rfl (by kernel_rfl) rfl (fun K hK => ?_))); simp -dsimp -implicitDefEqProofs only [go_sem, eq_self, ↓reduceIte]; (repeat' (first | (refine And.intro ?_ ?_) | (refine gs_both (fun hb => ?_) (fun hb => ?_) <;> (have hg := hb; (try simp only [nfb] at hg); simp -dsimp -implicitDefEqProofs only [go_sem, hb, hg, eq_self, ↓reduceIte]; clear hb; (try simp only [nfe] at hg))))); any_goals ((first | (refine hK _ _ _ _ (fun hx => ?_)) | (refine hK _ _ _ _ (drawA (fun i => i - k)) (fun hx => ?_)) | (refine hK _ _ _ _ drawB (fun hx => ?_))); clear hx hK; simp -dsimp -implicitDefEqProofs only [go_sem, eq_self, ↓reduceIte]; (try simp (disch := omega) only [wrap_i64, wrap_u64, wrap_u32, wrap_u8]))) | omega))
            refine ⟨c + 1, by omega, by omega, ?_⟩
            rw [show l2 ++ flats (fellAt a b g) (c + 1) = l4 by rw [flats_succ, ← List.append_assoc, ← e3, e_l4]; rfl]
            simp -dsimp -implicitDefEqProofs only [go_sem, eq_self, ↓reduceIte]
            exact Mv.app (k + 5) (k + 3) ⟨by omega, by omega⟩ ⟨by omega, by omega⟩ (wk_low (by omega) (by simp -dsimp -implicitDefEqProofs only [go_sem, List.map_append, List.map_cons, List.map_nil, Flt.row, eq_self, ↓reduceIte]) (by simp -dsimp -implicitDefEqProofs only [go_sem, List.map_append, List.map_cons, List.map_nil, Flt.row, eq_self, ↓reduceIte]) (by simp -dsimp -implicitDefEqProofs only [go_sem, List.map_append, List.map_cons, List.map_nil, Flt.row, eq_self, ↓reduceIte]) (by simp -dsimp -implicitDefEqProofs only [go_sem, List.map_append, List.map_cons, List.map_nil, Flt.row, eq_self, ↓reduceIte]))
          · have hcn : c = a.nsp g := by omega
            refine ⟨g + 1, by omega, by omega, ?_⟩
            rw [show l1 ++ flats (fellR a b) (g + 1) = l3 by rw [flats_succ, ← List.append_assoc, ← e2, e3, hcn]; rfl]
            simp -dsimp -implicitDefEqProofs only [go_sem, eq_self, ↓reduceIte]
            exact wkF
        · have hgn : g = a.ns := by omega
          subst hgn
          have hl2 : movesL a b = l2 := by rw [e2, e1]; rfl
          have hok := moves_ok a b hq.sm
          have hso := (moves_sorted a b).imp fun {x y} hxy => (cfF_ge y x).2 hxy
          rw [hl2] at hRr hok hso
          refine S_reg rfl [0,1,2,3,4,5,6,7,8,9,10,11,19,47,54,55,56,74,75,76,77,81,82,83,84] [.gen (accV (k + 3) (l2.map Flt.row)) (k + 4) (LK (k + 2) (k + 3) zSt l2) (LK (k + 2) (k + 3) zSt l2)] rfl (fun K hK => ?_); simp -dsimp -implicitDefEqProofs only [go_sem, eq_self, ↓reduceIte]; (repeat' (first | (refine And.intro ?_ ?_) | (refine gs_both (fun hb => ?_) (fun hb => ?_) <;> (have hg := hb; (try simp only [nfb] at hg); simp -dsimp -implicitDefEqProofs only [go_sem, hb, hg, eq_self, ↓reduceIte]; clear hb; (try simp only [nfe] at hg))))); (any_goals ((refine hK _ _ _ _ (fun hx => ?_)); clear hx hK; simp -dsimp -implicitDefEqProofs only [go_sem, eq_self, ↓reduceIte]; (try simp (disch := omega) only [wrap_i64, wrap_u64, wrap_u32, wrap_u8]))); (all_goals (try omega))
          · exact sorted (k + 4) (k + 2) (k + 3) zSt l2 l2 (by omega) (by omega) (by omega) hok (List.Perm.refl _) hso (by omega)
          refine W_mv (Mv.wk (fr1 := [(4, accV (k + 3) (l2.map Flt.row)), (5, .lit (.int .i64 0))]) (k1 := k + 4) (H1 := accH (k + 3) 3 (l2.map Flt.row) []) (wk_low (by omega) (by simp -dsimp -implicitDefEqProofs only [go_sem, List.map_append, List.map_cons, List.map_nil, Flt.row, eq_self, ↓reduceIte]) (by simp -dsimp -implicitDefEqProofs only [go_sem, List.map_append, List.map_cons, List.map_nil, Flt.row, eq_self, ↓reduceIte]) (by simp -dsimp -implicitDefEqProofs only [go_sem, List.map_append, List.map_cons, List.map_nil, Flt.row, eq_self, ↓reduceIte]) (by simp -dsimp -implicitDefEqProofs only [go_sem, List.map_append, List.map_cons, List.map_nil, Flt.row, eq_self, ↓reduceIte]))) ?_
          refine W_mv (Mv.frz_at (id := k + 3) (s := 3) (l := l2.map Flt.row) 4 (rows 3 (l2.map Flt.row)) [] (by simp -dsimp -implicitDefEqProofs only [go_sem, List.map_append, List.map_cons, List.map_nil, Flt.row, eq_self, ↓reduceIte]) (by simp -dsimp -implicitDefEqProofs only [go_sem, List.map_append, List.map_cons, List.map_nil, Flt.row, eq_self, ↓reduceIte]) (VLe.refl _) (by simp -dsimp -implicitDefEqProofs only [go_sem, List.map_append, List.map_cons, List.map_nil, Flt.row, eq_self, ↓reduceIte]) (by simp -dsimp -implicitDefEqProofs only [go_sem, List.map_append, List.map_cons, List.map_nil, Flt.row, eq_self, ↓reduceIte])) ?_
          simp -dsimp -implicitDefEqProofs only [go_sem, eq_self, ↓reduceIte]
          refine C_ret rfl ⟨_, rfl, ?_⟩
          rw [hRr]
          exact VLe.refl _
end Go.Proofs.T
end

section
set_option linter.unusedVariables false
set_option linter.unusedSimpArgs false
namespace Go.Proofs.T
open Go Go.AM Go.Proofs
set_option linter.unusedSimpArgs false
set_option linter.unusedVariables false
set_option maxRecDepth 4000
variable {Γ : List (Nat × List AVal)}
theorem stepF2_len (a b : St) (hq : PreOk a) : (stepF2 a b).length ≤ 100000 := by
  have := movesL_len (b := b) hq
  unfold stepF2
  split
  · simp
  · split
    · simp
    · omega
theorem steps (a b : St) (hk : Kinds a) (hk' : Kinds b) : Pure Tryz.prog Γ 10 [.agg a.cells, .agg b.cells] (.lit (.bool true)) := by
  refine Pure_at Tryz.func10 rfl 53 rfl (Nat.le_of_ble_eq_true rfl) rfl fun k => ?_
  obtain ⟨l, el⟩ : ∃ l, l = stepF2 a b := ⟨_, rfl⟩
  obtain ⟨E, eE⟩ : ∃ E, E = stepE2 a b := ⟨_, rfl⟩
  (repeat' (first | (refine C_seq rfl ?_) | (refine C_block rfl ?_) | (refine C_skip rfl ?_; (try simp -dsimp -implicitDefEqProofs only [go_sem, eq_self, ↓reduceIte])) | (refine C_exit rfl ?_; (try simp -dsimp -implicitDefEqProofs only [go_sem, eq_self, ↓reduceIte])) | (refine C_cond rfl _ rfl (fun ht => ?_) (fun ht => ?_) <;> (try (simp only [nf] at ht)) <;> (try (exfalso; omega))) | ((first | (refine S_reg0 rfl [0,1,2,3,4,5,6,7,8,9,10,18] rfl rfl (fun K hK => ?_)) | (refine S_drw0 rfl [0,1,2,3,4,5,6,7,8,9,10,18] rfl (by kernel_rfl) rfl (fun K hK => ?_))); simp -dsimp -implicitDefEqProofs only [go_sem, eq_self, ↓reduceIte]; (repeat' (first | (refine And.intro ?_ ?_) | (refine gs_both (fun hb => ?_) (fun hb => ?_) <;> (have hg := hb; (try simp only [nfb] at hg); simp -dsimp -implicitDefEqProofs only [go_sem, hb, hg, eq_self, ↓reduceIte]; clear hb; (try simp only [nfe] at hg))))); any_goals ((first | (refine hK _ _ _ _ (fun hx => ?_)) | (refine hK _ _ _ _ (drawA (fun i => i - k)) (fun hx => ?_)) | (refine hK _ _ _ _ drawB (fun hx => ?_))); clear hx hK; simp -dsimp -implicitDefEqProofs only [go_sem, eq_self, ↓reduceIte]; (try simp (disch := omega) only [wrap_i64, wrap_u64, wrap_u32, wrap_u8]))) | omega))
  refine S_reg rfl [0,1,2,3,4,5,6,7,8,9,10,18] [.ret (.lit (.bool (decide (SmallP a)))), .ret (.lit (.bool (decide (SmallP b))))] rfl (fun K hK => ?_); simp -dsimp -implicitDefEqProofs only [go_sem, eq_self, ↓reduceIte]; (repeat' (first | (refine And.intro ?_ ?_) | (refine gs_both (fun hb => ?_) (fun hb => ?_) <;> (have hg := hb; (try simp only [nfb] at hg); simp -dsimp -implicitDefEqProofs only [go_sem, hb, hg, eq_self, ↓reduceIte]; clear hb; (try simp only [nfe] at hg))))); (any_goals ((refine hK _ _ _ _ (fun hx => ?_)); clear hx hK; simp -dsimp -implicitDefEqProofs only [go_sem, eq_self, ↓reduceIte]; (try simp (disch := omega) only [wrap_i64, wrap_u64, wrap_u32, wrap_u8]))); (all_goals (try omega))
  · exact small a
  · exact small b
  all_goals ((repeat' (first | (refine C_seq rfl ?_) | (refine C_block rfl ?_) | (refine C_skip rfl ?_; (try simp -dsimp -implicitDefEqProofs only [go_sem, eq_self, ↓reduceIte])) | (refine C_exit rfl ?_; (try simp -dsimp -implicitDefEqProofs only [go_sem, eq_self, ↓reduceIte])) | (refine C_cond rfl _ rfl (fun ht => ?_) (fun ht => ?_) <;> (try (simp only [nf] at ht)) <;> (try (exfalso; omega))) | ((first | (refine S_reg0 rfl [0,1,2,3,4,5,6,7,8,9,10,18] rfl rfl (fun K hK => ?_)) | (refine S_drw0 rfl [0,1,2,3,4,5,6,7,8,9,10,18] rfl (by kernel_rfl) rfl (fun K hK => ?_))); simp -dsimp -implicitDefEqProofs only [go_sem, eq_self, ↓reduceIte]; (repeat' (first | (refine And.intro ?_ ?_) | (refine gs_both (fun hb => ?_) (fun hb => ?_) <;> (have hg := hb; (try simp only [nfb] at hg); simp -dsimp -implicitDefEqProofs only [go_sem, hb, hg, eq_self, ↓reduceIte]; clear hb; (try simp only [nfe] at hg))))); any_goals ((first | (refine hK _ _ _ _ (fun hx => ?_)) | (refine hK _ _ _ _ (drawA (fun i => i - k)) (fun hx => ?_)) | (refine hK _ _ _ _ drawB (fun hx => ?_))); clear hx hK; simp -dsimp -implicitDefEqProofs only [go_sem, eq_self, ↓reduceIte]; (try simp (disch := omega) only [wrap_i64, wrap_u64, wrap_u32, wrap_u8]))) | omega)))
  · exact C_ret rfl ⟨_, rfl, VLe.refl _⟩
  · have hSa : SmallP a := by assumption
    have hSb : SmallP b := by assumption
    have hq := small_pre hSa
    have hq' := small_pre hSb
    refine S_drw rfl [0,1,2,3,4,5,6,7,8,9,10,18] [.ret (.agg a.cells), .ret (.agg b.cells)] (by kernel_rfl) rfl (fun K hK => ?_); simp -dsimp -implicitDefEqProofs only [go_sem, eq_self, ↓reduceIte]; (repeat' (first | (refine And.intro ?_ ?_) | (refine gs_both (fun hb => ?_) (fun hb => ?_) <;> (have hg := hb; (try simp only [nfb] at hg); simp -dsimp -implicitDefEqProofs only [go_sem, hb, hg, eq_self, ↓reduceIte]; clear hb; (try simp only [nfe] at hg))))); (any_goals ((first | (refine hK _ _ _ _ (drawA (fun i => i - k)) (fun hx => ?_)) | (refine hK _ _ _ _ drawB (fun hx => ?_))); clear hx hK; simp -dsimp -implicitDefEqProofs only [go_sem, eq_self, ↓reduceIte]; (try simp (disch := omega) only [wrap_i64, wrap_u64, wrap_u32, wrap_u8]))); (all_goals (try omega))
    · exact copyState a hq.sm
    · exact copyState b hq'.sm
    (repeat' (first | (refine C_seq rfl ?_) | (refine C_block rfl ?_) | (refine C_skip rfl ?_; (try simp -dsimp -implicitDefEqProofs only [go_sem, eq_self, ↓reduceIte])) | (refine C_exit rfl ?_; (try simp -dsimp -implicitDefEqProofs only [go_sem, eq_self, ↓reduceIte])) | (refine C_cond rfl _ rfl (fun ht => ?_) (fun ht => ?_) <;> (try (simp only [nf] at ht)) <;> (try (exfalso; omega))) | ((first | (refine S_reg0 rfl [0,1,2,3,4,5,6,7,8,9,10,18] rfl rfl (fun K hK => ?_)) | (refine S_drw0 rfl [0,1,2,3,4,5,6,7,8,9,10,18] rfl (by kernel_rfl) rfl (fun K hK => ?_))); simp -dsimp -implicitDefEqProofs only [go_sem, eq_self, ↓reduceIte]; (repeat' (first | (refine And.intro ?_ ?_) | (refine gs_both (fun hb => ?_) (fun hb => ?_) <;> (have hg := hb; (try simp only [nfb] at hg); simp -dsimp -implicitDefEqProofs only [go_sem, hb, hg, eq_self, ↓reduceIte]; clear hb; (try simp only [nfe] at hg))))); any_goals ((first | (refine hK _ _ _ _ (fun hx => ?_)) | (refine hK _ _ _ _ (drawA (fun i => i - k)) (fun hx => ?_)) | (refine hK _ _ _ _ drawB (fun hx => ?_))); clear hx hK; simp -dsimp -implicitDefEqProofs only [go_sem, eq_self, ↓reduceIte]; (try simp (disch := omega) only [wrap_i64, wrap_u64, wrap_u32, wrap_u8]))) | omega))
    refine S_reg rfl [0,1,2,3,4,5,6,7,8,9,10,18] [.ret (.tup [rows 3 (l.map Flt.row), .lit (.int .i64 E)])] rfl (fun K hK => ?_); simp -dsimp -implicitDefEqProofs only [go_sem, eq_self, ↓reduceIte]; (repeat' (first | (refine And.intro ?_ ?_) | (refine gs_both (fun hb => ?_) (fun hb => ?_) <;> (have hg := hb; (try simp only [nfb] at hg); simp -dsimp -implicitDefEqProofs only [go_sem, hb, hg, eq_self, ↓reduceIte]; clear hb; (try simp only [nfe] at hg))))); (any_goals ((refine hK _ _ _ _ (fun hx => ?_)); clear hx hK; simp -dsimp -implicitDefEqProofs only [go_sem, eq_self, ↓reduceIte]; (try simp (disch := omega) only [wrap_i64, wrap_u64, wrap_u32, wrap_u8]))); (all_goals (try omega))
    · rw [el, eE]; exact step a b hq hq' hk hk'
    (repeat' (first | (refine C_seq rfl ?_) | (refine C_block rfl ?_) | (refine C_skip rfl ?_; (try simp -dsimp -implicitDefEqProofs only [go_sem, eq_self, ↓reduceIte])) | (refine C_exit rfl ?_; (try simp -dsimp -implicitDefEqProofs only [go_sem, eq_self, ↓reduceIte])) | (refine C_cond rfl _ rfl (fun ht => ?_) (fun ht => ?_) <;> (try (simp only [nf] at ht)) <;> (try (exfalso; omega))) | ((first | (refine S_reg0 rfl [0,1,2,3,4,5,6,7,8,9,10,18] rfl rfl (fun K hK => ?_)) | (refine S_drw0 rfl [0,1,2,3,4,5,6,7,8,9,10,18] rfl (by kernel_rfl) rfl (fun K hK => ?_))); simp -dsimp -implicitDefEqProofs only [go_sem, eq_self, ↓reduceIte]; (repeat' (first | (refine And.intro ?_ ?_) | (refine gs_both (fun hb => ?_) (fun hb => ?_) <;> (have hg := hb; (try simp only [nfb] at hg); simp -dsimp -implicitDefEqProofs only [go_sem, hb, hg, eq_self, ↓reduceIte]; clear hb; (try simp only [nfe] at hg))))); any_goals ((first | (refine hK _ _ _ _ (fun hx => ?_)) | (refine hK _ _ _ _ (drawA (fun i => i - k)) (fun hx => ?_)) | (refine hK _ _ _ _ drawB (fun hx => ?_))); clear hx hK; simp -dsimp -implicitDefEqProofs only [go_sem, eq_self, ↓reduceIte]; (try simp (disch := omega) only [wrap_i64, wrap_u64, wrap_u32, wrap_u8]))) | omega))
    refine S_reg rfl [0,1,2,3,4,5,6,7,8,9,10,18] [.ret (.tup [rows 3 (l.map Flt.row), .lit (.int .i64 E)])] rfl (fun K hK => ?_); simp -dsimp -implicitDefEqProofs only [go_sem, eq_self, ↓reduceIte]; (repeat' (first | (refine And.intro ?_ ?_) | (refine gs_both (fun hb => ?_) (fun hb => ?_) <;> (have hg := hb; (try simp only [nfb] at hg); simp -dsimp -implicitDefEqProofs only [go_sem, hb, hg, eq_self, ↓reduceIte]; clear hb; (try simp only [nfe] at hg))))); (any_goals ((refine hK _ _ _ _ (fun hx => ?_)); clear hx hK; simp -dsimp -implicitDefEqProofs only [go_sem, eq_self, ↓reduceIte]; (try simp (disch := omega) only [wrap_i64, wrap_u64, wrap_u32, wrap_u8]))); (all_goals (try omega))
    · rw [el, eE]; exact step_ref a b hq hq' hk hk'
    (repeat' (first | (refine C_seq rfl ?_) | (refine C_block rfl ?_) | (refine C_skip rfl ?_; (try simp -dsimp -implicitDefEqProofs only [go_sem, eq_self, ↓reduceIte])) | (refine C_exit rfl ?_; (try simp -dsimp -implicitDefEqProofs only [go_sem, eq_self, ↓reduceIte])) | (refine C_cond rfl _ rfl (fun ht => ?_) (fun ht => ?_) <;> (try (simp only [nf] at ht)) <;> (try (exfalso; omega))) | ((first | (refine S_reg0 rfl [0,1,2,3,4,5,6,7,8,9,10,18] rfl rfl (fun K hK => ?_)) | (refine S_drw0 rfl [0,1,2,3,4,5,6,7,8,9,10,18] rfl (by kernel_rfl) rfl (fun K hK => ?_))); simp -dsimp -implicitDefEqProofs only [go_sem, eq_self, ↓reduceIte]; (repeat' (first | (refine And.intro ?_ ?_) | (refine gs_both (fun hb => ?_) (fun hb => ?_) <;> (have hg := hb; (try simp only [nfb] at hg); simp -dsimp -implicitDefEqProofs only [go_sem, hb, hg, eq_self, ↓reduceIte]; clear hb; (try simp only [nfe] at hg))))); any_goals ((first | (refine hK _ _ _ _ (fun hx => ?_)) | (refine hK _ _ _ _ (drawA (fun i => i - k)) (fun hx => ?_)) | (refine hK _ _ _ _ drawB (fun hx => ?_))); clear hx hK; simp -dsimp -implicitDefEqProofs only [go_sem, eq_self, ↓reduceIte]; (try simp (disch := omega) only [wrap_i64, wrap_u64, wrap_u32, wrap_u8]))) | omega))
    refine S_reg rfl [0,1,2,3,4,5,6,7,8,9,10,18] [.ret (.lit (.bool true)), .ret (.lit (.bool true)), .ret (.lit (.bool true))] rfl (fun K hK => ?_); simp -dsimp -implicitDefEqProofs only [go_sem, eq_self, ↓reduceIte]; (repeat' (first | (refine And.intro ?_ ?_) | (refine gs_both (fun hb => ?_) (fun hb => ?_) <;> (have hg := hb; (try simp only [nfb] at hg); simp -dsimp -implicitDefEqProofs only [go_sem, hb, hg, eq_self, ↓reduceIte]; clear hb; (try simp only [nfe] at hg))))); (any_goals ((refine hK _ _ _ _ (fun hx => ?_)); clear hx hK; simp -dsimp -implicitDefEqProofs only [go_sem, eq_self, ↓reduceIte]; (try simp (disch := omega) only [wrap_i64, wrap_u64, wrap_u32, wrap_u8]))); (all_goals (try omega))
    all_goals (first | (exact same_eq l (by rw [el]; exact stepF2_len a b hq)) | (exact sameState a hq.sm) | (exact sameState b hq'.sm) | skip)
    · rfl
    · exact C_ret rfl ⟨_, rfl, VLe.refl _⟩
  · exact C_ret rfl ⟨_, rfl, VLe.refl _⟩
end Go.Proofs.T
end

section
set_option linter.unusedVariables false
set_option linter.unusedSimpArgs false
namespace Go.AM
open Go Go.RowKit
def GlobIs (w : World) (G : Nat → Prop) (g : Nat) (cells : List AVal) : Prop :=
  V w G noNames noAllow (.rp cells) (.pointer (some ⟨g, 0, none⟩)) ∧ G g ∧ ∃ C ty x, w.heap[g]? = some (.cells C ty x) ∧ C.size = cells.length
theorem Pure_calls {P : Program} {Γ : List (Nat × List AVal)} {f : FuncId} {vs : List AVal} {r : AVal} (hn : vs.all (bd fun _ => false) = true)
    (h : ∀ w G args, (∀ g cells, look Γ g = some cells → GlobIs w G g cells) → Vs w G noNames noAllow vs args →
      Calls P f args w fun e w' => ∃ cv, e = .returned cv ∧ Below w.heap.size w w' ∧ V w' (fun b => G b ∨ (w.heap.size ≤ b ∧ b < w'.heap.size)) noNames noAllow r cv) : Pure P Γ f vs r := fun k => by
  intro A hA w G ρ cargs hr hvs
  have hρ : ρ = noNames := funext fun id => hr.dom id rfl
  subst hρ
  have hv' : Vs w G noNames noAllow vs cargs := ⟨hvs.1, fun j u hj =>
    (V_bd (hvs.2 j u hj) (all_get hn hj)).mono (fun _ h => h) (fun _ _ => rfl) (fun _ _ => rfl) (fun i hi => by simp at hi) (fun _ _ => .inr rfl)⟩
  refine (h w G cargs hr.glob hv').mono ?_
  rintro e w' ⟨cv, rfl, hb, hv1⟩
  have hst : Step (below k) w G noNames w' (fun b => G b ∨ (w.heap.size ≤ b ∧ b < w'.heap.size)) noNames :=
    ⟨hb.size, fun b hlt _ => hb.block b hlt, fun b hlt => by unfold World.shape?; rw [hb.block b hlt], fun _ h => .inl h, fun b h => h.elim .inl (fun h => .inr (.inr h.1)), fun _ h => .inl h, fun _ _ => .inr rfl, hb.os, hb.tape, hb.output⟩
  exact ⟨cv, _, noNames, k, r, [], rfl, ⟨rfl, rfl, rfl⟩, Nat.le_refl _,
    ⟨fun _ _ => rfl, fun id B A' hid => by simp [ofHeap, look] at hid, hr.inj, fun b hb' => hb'.elim (fun h => Nat.lt_of_lt_of_le (hr.ro b h) hb.size) (fun h => h.2), glob_step hr hst⟩,
    hv1.mono (fun _ h => h) (fun _ _ => rfl) (fun _ _ => rfl) (fun _ h => h.elim) (fun _ _ => .inr rfl), hst⟩
theorem GlobIs.cell {w : World} {G : Nat → Prop} {g : Nat} {cells : List AVal} (h : GlobIs w G g cells) {j : Nat} {v : Value} (hj : cells[j]? = some (.lit v)) : w.cell? ⟨g, j, none⟩ = some v := by
  obtain ⟨hv, _⟩ := h
  cases hv with
  | rp gg hG hc hV =>
    have h1 := hc j _ hj
    have h2 := hV j _ hj
    rw [Nat.zero_add] at h1
    rw [h1]; cases h2; rfl
theorem GlobIs.tab {P : Program} {w : World} {G : Nat → Prop} {g : Nat} {name : String} {k : IntKind} {zs : List Int} (hg : P.globalNamed name = some g) (h : GlobIs w G g (zs.map fun z => .lit (.int k z))) : Lib.TabIs P w name k zs := by
  have hc := fun j (v : Value) => h.cell (j := j) (v := v)
  obtain ⟨_, _, C, ty, x, h3, h4⟩ := h
  unfold Lib.TabIs World.var?
  rw [hg, Option.bind_some, h3]
  refine congrArg some (Array.ext (by simpa using h4) fun i h1 h2 => ?_)
  have hi : i < zs.length := by simpa using h2
  have := hc i (.int k zs[i]) (by simp [hi])
  unfold World.cell? at this
  simp only [h3, Option.isSome_none, Bool.false_eq_true, if_false] at this
  rw [Array.getElem?_eq_getElem h1] at this
  simpa using this
theorem V_lit {w : World} {G : Nat → Prop} {ρ : Names} {A : Allow} {u cv : Value} (h : V w G ρ A (.lit u) cv) : cv = u := by cases h; rfl
theorem Vs_one {w : World} {G : Nat → Prop} {ρ : Names} {A : Allow} {u : Value} {cs : Array Value} (h : Vs w G ρ A [.lit u] cs) : cs = #[u] := by
  obtain ⟨h1, h2⟩ := h
  have e := V_lit (h2 0 _ rfl)
  have hs : cs.size = 1 := by simpa using h1.symm
  refine Array.ext (by simp [hs]) fun i hi hj => ?_
  have : i = 0 := by omega
  subst this
  rw [Array.getD_eq_getD_getElem?, Array.getElem?_eq_getElem hi] at e
  simpa using e
theorem Vs_two {w : World} {G : Nat → Prop} {ρ : Names} {A : Allow} {u v : Value} {cs : Array Value} (h : Vs w G ρ A [.lit u, .lit v] cs) : cs = #[u, v] := by
  obtain ⟨h1, h2⟩ := h
  have e := V_lit (h2 0 _ rfl)
  have e' := V_lit (h2 1 _ rfl)
  have hs : cs.size = 2 := by simpa using h1.symm
  refine Array.ext (by simp [hs]) fun i hi hj => ?_
  rw [Array.getD_eq_getD_getElem?] at e e'
  have : i = 0 ∨ i = 1 := by omega
  rcases this with rfl | rfl
  · rw [Array.getElem?_eq_getElem hi] at e; simpa using e
  · rw [Array.getElem?_eq_getElem hi] at e'; simpa using e'
end Go.AM
end

section
set_option linter.unusedVariables false
set_option linter.unusedSimpArgs false
namespace Go.AM
open Go Go.RowKit Go.Proofs Go.Shelf
abbrev str (l : List UInt8) : ByteArray := ⟨l.toArray⟩
theorem str_data (b : ByteArray) : str b.data.toList = b := rfl
def strs (l : List (List UInt8)) : AVal := .rd 1 l.length (fun i => [.lit (.string (str (l.getD i [])))])
def atoiV (l : List UInt8) : Int := match Lib.atoiAll l with
  | .ok v => v
  | .range => Lib.atoiSat l
  | _ => 0
section
variable {P : Program} {ρ : Ren} {Γ : List (Nat × List AVal)}
theorem Pure_Itoa (L : LaysM.n171 P ρ) {g : Nat} (hg : P.globalNamed "internal/strconv.uint64pow10" = some g) (hΓ : look Γ g = some (Lib.pow10Tab.map fun z => .lit (.int .u64 z))) (n : Int)
    (h0 : -9223372036854775808 ≤ n) (h1 : n ≤ 9223372036854775807) : Pure P Γ (ρ.f 171) [.lit (.int .i64 n)] (.lit (.string (str (Lib.itoa n)))) :=
  Pure_calls rfl fun w G args hG hv => by
    rw [Vs_one hv]
    refine (Any.strconv_Itoa L n h0 h1 w ((hG g _ hΓ).tab hg)).mono ?_
    rintro e w' ⟨rfl, k, os, rfl⟩
    refine ⟨_, rfl, ⟨rfl, rfl, rfl, by first | (simp [Sort.grow]; done) | (simp [Sort.grow]; omega), fun i hi => ?_⟩, .lit⟩
    show ((w.drewN k).heap ++ os)[i]? = _
    rw [Array.getElem?_append_left (by show i < w.heap.size; omega)]
    rfl
theorem V_pair {w : World} {G : Nat → Prop} {ρ : Names} {A : Allow} {n : Int} {x : Value} : V w G ρ A (.tup [.lit (.int .i64 n), .junk]) (.tuple #[.int .i64 n, x]) := by
  refine .tup rfl fun j v hj => ?_
  match j with
  | 0 => cases hj; exact .lit
  | 1 => cases hj; exact .junk
  | j + 2 => simp at hj
theorem Pure_Atoi (L : LaysC.n172 P ρ) {te pe te' pe'} (hS : look Γ (ρ.g 15) = some [.lit (.iface te pe)]) (hR : look Γ (ρ.g 16) = some [.lit (.iface te' pe')]) (l : List UInt8) (hl : l.length ≤ 281474976710656) :
    Pure P Γ (ρ.f 172) [.lit (.string (str l))] (.tup [.lit (.int .i64 (atoiV l)), .junk]) :=
  Pure_calls rfl fun w G args hG hv => by
    rw [Vs_one hv]
    have hs : (str l).size ≤ 281474976710656 := by simpa [ByteArray.size] using hl
    have hd : (str l).data.toList = l := by simp
    cases h : Lib.atoiAll l
    · rename_i v
      refine (Any.strconv_Atoi_ok L (str l) (by omega) v (by rw [hd]; exact h) w).mono ?_
      rintro e w' ⟨rfl, hw⟩
      refine ⟨_, rfl, ?_, by rw [atoiV, h]; exact V_pair⟩
      rcases hw with rfl | ⟨t, rfl⟩
      · exact Below.refl _ _
      · exact Lib.bytesWorld_below _ _ _
    · refine (Any.strconv_Atoi_syntax L (str l) hs (by rw [hd]; exact h) (.iface te pe) w ((hG _ _ hS).cell rfl) (.inr ⟨_, _, rfl⟩)).mono ?_
      rintro e w' ⟨N, rfl, _, _, hb⟩
      exact ⟨_, rfl, hb, by rw [atoiV, h]; exact V_pair⟩
    · refine (Any.strconv_Atoi_range L (str l) hs (by rw [hd]; exact h) (.iface te' pe') w ((hG _ _ hR).cell rfl) (.inr ⟨_, _, rfl⟩)).mono ?_
      rintro e w' ⟨N, rfl, _, _, hb⟩
      exact ⟨_, rfl, hb, by rw [atoiV, h, hd]; exact V_pair⟩
theorem Pure_Split (L : Lays.n146 P ρ) (hi9 : (P.info? (ρ.t 9)).map (fun i => (i.zero, i.size, i.bytes)) = some (some (.string ByteArray.empty), 1, 16)) {m : Int} (hM : look Γ (ρ.g 1) = some [.lit (.int .i64 m)]) (l sep : List UInt8)
    (hl : l.length < 4294967281) (h1 : 1 ≤ sep.length) : Pure P Γ (ρ.f 146) [.lit (.string (str l)), .lit (.string (str sep))] (strs (Lib.split l sep)) :=
  Pure_calls rfl fun w G args hG hv => by
    rw [Vs_two hv]
    have hs : (str l).size < 4294967281 := by simpa [ByteArray.size] using hl
    have h1' : 1 ≤ (str sep).size := by simpa [ByteArray.size] using h1
    refine (Any.strings_Split L hi9 (str l) (str sep) m w hs ((hG _ _ hM).cell rfl) h1').mono ?_
    rintro e w' ⟨rfl, rfl⟩
    have hlen := Lib.splitB_all (str sep) h1' 0 _ (str l) rfl
    have hle := Lib.countB_le (str sep) h1' (str l).size (str l) (Nat.le_refl _)
    have hdat := Lib.splitB_data (str sep) 0 (Lib.countB (str l) (str sep)) (str l)
    have hsp : Lib.split l sep = (Lib.splitB (str sep) 0 (Lib.countB (str l) (str sep)) (str l)).map (·.data.toList) := by
      rw [hdat]; simp [Lib.split, Lib.countB]
    refine ⟨_, rfl, (Below.refl _ _).alloc (Nat.le_refl _) _, ?_⟩
    unfold strs
    rw [hsp]
    generalize hq : Lib.splitB (str sep) 0 (Lib.countB (str l) (str sep)) (str l) = q at *
    rw [← hlen, List.length_map]
    refine .rd (fun i _ => .string (q.getD i default)) (.inr ⟨Nat.le_refl _, by simp⟩) (Nat.le_refl _) (by unfold maxLen; omega) (fun i hi => rfl) (fun i j v hi hj => ?_) (fun i j v hi hj => ?_)
    · match j with
      | 0 =>
        have hi' : i < q.length := hi
        have e : 0 + i * 1 + 0 = i := by omega
        rw [e, World.cell?_alloc_at _ _ _ _ rfl, List.getElem?_toArray, List.getElem?_map, List.getElem?_eq_getElem hi']
        simp [List.getD, hi']
      | j + 1 => simp at hj
    · match j with
      | 0 =>
        simp only [List.getElem?_cons_zero, Option.some.injEq] at hj
        subst hj
        have e : str (List.getD (q.map (·.data.toList)) i []) = q.getD i default := by simp [List.getD, hi]
        rw [e]; exact .lit
      | j + 1 => simp at hj
end
end Go.AM
end

section
set_option linter.unusedVariables false
set_option linter.unusedSimpArgs false
namespace Go.Proofs.T
open Go Go.Lib
def dig (c : UInt8) : Bool := decide (48 ≤ c.toNat) && decide (c.toNat ≤ 57)
theorem dig_iff {c : UInt8} : dig c = true ↔ 48 ≤ c.toNat ∧ c.toNat ≤ 57 := by simp [dig]
def valF (a : Nat) (l : List UInt8) : Nat := l.foldl (fun a c => a * 10 + (c.toNat - 48)) a
theorem valF_nil (a : Nat) : valF a [] = a := rfl
theorem valF_cons (a : Nat) (c : UInt8) (r : List UInt8) : valF a (c :: r) = valF (a * 10 + (c.toNat - 48)) r := List.foldl_cons ..
theorem valF_append (l m : List UInt8) (a : Nat) : valF a (l ++ m) = valF (valF a l) m := List.foldl_append ..
theorem valF_ge : ∀ (l : List UInt8) (a : Nat), a ≤ valF a l
  | [], _ => Nat.le_refl _
  | c :: l, a => by rw [valF_cons]; exact Nat.le_trans (by omega) (valF_ge l (a * 10 + (c.toNat - 48)))
theorem ofNat_dig {d : Nat} (h : d < 10) : (UInt8.ofNat (48 + d)).toNat = 48 + d := by
  have : (48 + d) < 256 := by omega
  simp [UInt8.toNat_ofNat']; omega
theorem dec_small {n : Nat} (h : n < 10) : decDigits n = [UInt8.ofNat (48 + n)] := by rw [decDigits, dif_pos h]
theorem dec_big {n : Nat} (h : ¬ n < 10) : decDigits n = decDigits (n / 10) ++ [UInt8.ofNat (48 + n % 10)] := by rw [decDigits, dif_neg h]
theorem dec_val (n : Nat) : valF 0 (decDigits n) = n := by
  induction n using Nat.strongRecOn with
  | _ n ih =>
    by_cases h : n < 10
    · rw [dec_small h]
      rw [valF_cons, valF_nil]
      have := ofNat_dig h
      omega
    · rw [dec_big h, valF_append, ih (n / 10) (by omega)]
      rw [valF_cons, valF_nil]
      have := ofNat_dig (d := n % 10) (by omega)
      omega
theorem dec_dig (n : Nat) : ∀ c ∈ decDigits n, dig c = true := by
  induction n using Nat.strongRecOn with
  | _ n ih =>
    intro c hc
    by_cases h : n < 10
    · rw [dec_small h] at hc; simp only [List.mem_singleton] at hc; subst hc; rw [dig_iff, ofNat_dig h]; omega
    · rw [dec_big h] at hc
      rcases List.mem_append.1 hc with hc | hc
      · exact ih (n / 10) (by omega) c hc
      · simp only [List.mem_singleton] at hc; subst hc; rw [dig_iff, ofNat_dig (by omega)]; omega
theorem dec_ne (n : Nat) : decDigits n ≠ [] := by
  by_cases h : n < 10
  · rw [dec_small h]; simp
  · rw [dec_big h]; simp
structure Canon (l : List UInt8) : Prop where
  ne : l ≠ []
  all : ∀ c ∈ l, dig c = true
  head : l.head? = some 48 → l.length = 1
theorem dec_of {l : List UInt8} (h : Canon l) : decDigits (valF 0 l) = l := by
  suffices key : ∀ (n : Nat) (l : List UInt8), l.length = n → Canon l → decDigits (valF 0 l) = l from key _ l rfl h
  intro n
  induction n with
  | zero => intro l hl h; exact absurd (List.length_eq_zero_iff.1 hl) h.ne
  | succ n ih =>
    intro l hl h
    obtain ⟨m, c, rfl⟩ : ∃ m c, l = m ++ [c] := ⟨l.dropLast, l.getLast h.ne, (List.dropLast_concat_getLast h.ne).symm⟩
    have hc := dig_iff.1 (h.all c (by simp))
    rw [valF_append]
    by_cases hm : m = []
    · subst hm
      have e : valF (valF 0 []) [c] = c.toNat - 48 := by
        rw [valF_cons, valF_nil, valF_nil]
        omega
      rw [e, dec_small (by omega)]
      have : 48 + (c.toNat - 48) = c.toNat := by omega
      rw [this]; simp
    · obtain ⟨x, m', rfl⟩ := List.exists_cons_of_ne_nil hm
      have hx := dig_iff.1 (h.all x (by simp))
      have hne : x.toNat ≠ 48 := fun e => by
        have : x = 48 := UInt8.toNat_inj.1 (by rw [e]; rfl)
        have := h.head (by simp [this])
        simp at this
      have hcan : Canon (x :: m') := ⟨by simp, fun c hc => h.all c (by simp only [List.mem_append]; exact .inl hc), fun e => by
        simp only [List.head?_cons, Option.some.injEq] at e
        rw [e] at hne; exact absurd rfl hne⟩
      have hv : 1 ≤ valF 0 (x :: m') := by rw [valF_cons]; exact Nat.le_trans (by omega) (valF_ge m' (0 * 10 + (x.toNat - 48)))
      have h1 := ih (x :: m') (by simp only [List.length_append, List.length_cons, List.length_nil] at hl ⊢; omega) hcan
      generalize valF 0 (x :: m') = v at h1 hv ⊢
      have e : valF v [c] = v * 10 + (c.toNat - 48) := by rw [valF_cons, valF_nil]
      rw [e, dec_big (by omega)]
      have e1 : (v * 10 + (c.toNat - 48)) / 10 = v := by omega
      have e2 : 48 + (v * 10 + (c.toNat - 48)) % 10 = c.toNat := by omega
      rw [e1, e2, h1]; simp
theorem dec_canon (n : Nat) : Canon (decDigits n) := by
  refine ⟨dec_ne n, dec_dig n, ?_⟩
  induction n using Nat.strongRecOn with
  | _ n ih =>
    intro h
    by_cases h1 : n < 10
    · rw [dec_small h1]; rfl
    · rw [dec_big h1] at h
      have hne := dec_ne (n / 10)
      obtain ⟨x, m, e⟩ := List.exists_cons_of_ne_nil hne
      have h0 : (decDigits (n / 10)).head? = some 48 := by rw [e] at h ⊢; simpa using h
      have hl := ih (n / 10) (by omega) h0
      have h2 : decDigits (n / 10) = [48] := by
        rw [e] at hl h0 ⊢
        simp only [List.head?_cons, Option.some.injEq] at h0
        simp only [List.length_cons] at hl
        rw [h0, List.length_eq_zero_iff.1 (show m.length = 0 by omega)]
      have h3 := dec_val (n / 10)
      rw [h2] at h3
      have h4 : valF 0 [48] = 0 := rfl
      rw [h4] at h3
      omega
theorem dec_inj {a b : Nat} (h : decDigits a = decDigits b) : a = b := by rw [← dec_val a, h, dec_val]
theorem dec_no32 (n : Nat) : (32 : UInt8) ∉ decDigits n := fun h => by have := dig_iff.1 (dec_dig n 32 h); simp at this
theorem parse_cons (c : UInt8) (l : List UInt8) (a : Nat) (hc : 48 ≤ c.toNat ∧ c.toNat ≤ 57) (h : a * 10 + (c.toNat - 48) < 18446744073709551616) : parseUint10 a (c :: l) = parseUint10 (a * 10 + (c.toNat - 48)) l := by
  have h1 : ¬ 1844674407370955162 ≤ a := by omega
  have h2 : ¬ 18446744073709551616 ≤ a * 10 + (c.toNat - 48) := by omega
  rw [parseUint10, if_pos hc, if_neg h1, if_neg h2]
theorem parse_dig (l : List UInt8) : ∀ (a : Nat), (∀ c ∈ l, dig c = true) → valF a l < 18446744073709551616 → parseUint10 a l = .ok (valF a l) := by
  induction l with
  | nil => intro a _ _; rfl
  | cons c l ih =>
    intro a hd hv
    have hc := dig_iff.1 (hd c (List.mem_cons_self ..))
    have hge := valF_ge l (a * 10 + (c.toNat - 48))
    rw [valF_cons] at hv ⊢
    rw [parse_cons c l a hc (Nat.lt_of_le_of_lt hge hv)]
    exact ih _ (fun c hc => hd c (List.mem_cons_of_mem _ hc)) hv
theorem atoi_dec (n : Nat) (h : n ≤ 9223372036854775807) : atoiAll (decDigits n) = .ok (n : Int) := by
  obtain ⟨c, r, e⟩ := List.exists_cons_of_ne_nil (dec_ne n)
  have hc := dig_iff.1 (dec_dig n c (by rw [e]; simp))
  have hp : parseMag (decDigits n) = .ok n := by
    unfold parseMag
    rw [if_neg (dec_ne n), parse_dig _ _ (dec_dig n) (by rw [dec_val]; omega), dec_val]
  rw [e] at hp ⊢
  unfold atoiAll
  simp only []
  rw [if_neg (by omega), hp]
  simp only []
  rw [if_neg (by omega), if_neg (by omega), if_neg (by omega)]
theorem atoi_neg (n : Nat) (h1 : 1 ≤ n) (h : n ≤ 9223372036854775808) : atoiAll (45 :: decDigits n) = .ok (-(n : Int)) := by
  have hp : parseMag (decDigits n) = .ok n := by
    unfold parseMag
    rw [if_neg (dec_ne n), parse_dig _ _ (dec_dig n) (by rw [dec_val]; omega), dec_val]
  unfold atoiAll
  simp only []
  rw [if_pos (by decide), hp]
  simp only []
  rw [if_neg (fun h => h.1 (by decide)), if_neg (by omega), if_pos (by decide)]
theorem atoi_itoa (n : Int) (h0 : -9223372036854775808 ≤ n) (h1 : n ≤ 9223372036854775807) : atoiAll (itoa n) = .ok n := by
  unfold itoa
  split
  · rw [atoi_neg n.natAbs (by omega) (by omega)]; congr 1; omega
  · rw [atoi_dec n.toNat (by omega)]; congr 1; omega
theorem itoa_nat (n : Nat) : itoa (n : Int) = decDigits n := itoa_nonneg n
theorem itoa_no32 (n : Int) : (32 : UInt8) ∉ itoa n := by
  unfold itoa
  split
  · simp [dec_no32]
  · exact dec_no32 _
theorem itoa_inj {a b : Int} (h : itoa a = itoa b) : a = b := by
  unfold itoa at h
  have hd : ∀ n l, decDigits n ≠ 45 :: l := fun n l e => by have := dig_iff.1 (dec_dig n 45 (by rw [e]; simp)); simp at this
  split at h <;> split at h
  · have := dec_inj (List.cons.inj h).2; omega
  · exact absurd h.symm (hd _ _)
  · exact absurd h (hd _ _)
  · have := dec_inj h; omega
theorem index_hit : ∀ (a s : List UInt8), (32 : UInt8) ∉ a → index (a ++ 32 :: s) [32] = (a.length : Int)
  | [], s, _ => by simp [index]
  | c :: a, s, h => by
    have hc : c ≠ 32 := fun e => h (by simp [e])
    have ih := index_hit a s (fun e => h (by simp [e]))
    simp only [List.cons_append, index]
    rw [if_neg (by simp [Ne.symm hc]), ih, if_neg (by simp)]
    simp
theorem index_miss : ∀ (a : List UInt8), (32 : UInt8) ∉ a → index a [32] = -1
  | [], _ => by simp [index]
  | c :: a, h => by
    have hc : c ≠ 32 := fun e => h (by simp [e])
    have ih := index_miss a (fun e => h (by simp [e]))
    simp only [index]
    rw [if_neg (by simp [Ne.symm hc]), ih, if_pos (by simp)]
theorem split_one {a : List UInt8} (h : (32 : UInt8) ∉ a) : split a [32] = [a] := by
  unfold split; rw [count_miss (index_miss a h)]; rfl
theorem split_cons {a s : List UInt8} (h : (32 : UInt8) ∉ a) : split (a ++ 32 :: s) [32] = a :: split s [32] := by
  have hi := index_hit a s h
  have hd : (a ++ 32 :: s).drop (a.length + [(32 : UInt8)].length) = s := by
    rw [← List.drop_drop, List.drop_left]; rfl
  unfold split
  rw [count_hit (by simp) hi, hd, Nat.add_comm, splitK, hi, if_neg (by simp)]
  simp only [Int.toNat_natCast, Nat.add_zero, List.take_left]
  rw [hd]
theorem split_ne (s : List UInt8) : split s [32] ≠ [] := by
  unfold split
  cases count s [32] with
  | zero => simp [splitK]
  | succ k => unfold splitK; split <;> simp
end Go.Proofs.T
end

section
set_option linter.unusedVariables false
set_option linter.unusedSimpArgs false
namespace Go.AM
open Go Go.Lib
section
variable {P : Program} {k : Nat}
theorem s_size (l : List UInt8) : (ByteArray.mk l.toArray).size = l.length := by simp [ByteArray.size]
theorem s_toList (l : List UInt8) : (ByteArray.mk l.toArray).toList = l := ByteArray.toList_mk l
theorem s_app (a b : List UInt8) : ByteArray.mk a.toArray ++ ByteArray.mk b.toArray = ByteArray.mk (a ++ b).toArray := by
  apply ByteArray.ext; simp
theorem s_ext (a : List UInt8) (l h : Nat) : (ByteArray.mk a.toArray).extract l h = ByteArray.mk ((a.take h).drop l).toArray := by
  apply ByteArray.ext; simp [List.drop_take]
theorem e_sadd {t : Nat} {a b : List UInt8} : moveO k ((binV P .add t (.string (ByteArray.mk a.toArray)) (.string (ByteArray.mk b.toArray))).map .lit) =
    if a.length + b.length ≤ 9223372036854775807 then some (qOut k (.lit (.string (ByteArray.mk (a ++ b).toArray)))) else none := by
  simp only [binV, strBin, s_size, s_app]
  by_cases h : a.length + b.length ≤ 9223372036854775807
  · rw [if_neg (by omega), if_pos h]; rfl
  · rw [if_pos (by omega), if_neg h]; rfl
theorem e_seql {t : Nat} {a b : List UInt8} : binV P .eql t (.string (ByteArray.mk a.toArray)) (.string (ByteArray.mk b.toArray)) = some (.bool (decide (a = b))) := by
  simp only [binV, strBin, s_toList]
  by_cases h : a = b <;> simp [h]
theorem e_sneq {t : Nat} {a b : List UInt8} : binV P .neq t (.string (ByteArray.mk a.toArray)) (.string (ByteArray.mk b.toArray)) = some (.bool (!decide (a = b))) := by
  simp only [binV, strBin, s_toList]
  by_cases h : a = b <;> simp [h]
theorem e_mif {c : Prop} [Decidable c] {v : Value} : Option.getD.match_1 (fun _ => Option AVal) (if c then none else some v) (fun x => some (AVal.lit x)) (fun _ => none) = if ¬ c then some (AVal.lit v) else none := by
  by_cases h : c
  · rw [if_pos h, if_neg (fun e => e h)]
  · rw [if_neg h, if_pos h]
theorem e_mvi {c : Prop} [Decidable c] {v : AVal} : moveO k (if c then some v else none) = if c then some (qOut k v) else none := by
  by_cases h : c
  · rw [if_pos h, if_pos h]; rfl
  · rw [if_neg h, if_neg h]; rfl
end
attribute [go_sem] s_size s_toList s_app s_ext e_sadd e_seql e_sneq e_mif e_mvi List.size_toArray List.take_length List.drop_zero
theorem V_strs (l : List (List UInt8)) : VLe (rows 1 (l.map fun x => [.lit (.string (ByteArray.mk x.toArray))])) (strs l) := by
  unfold rows strs
  rw [List.length_map]
  exact VLe.rd fun i hi => by simp [List.getD, hi]
theorem utf8_dig {n : Int} (h0 : 48 ≤ n) (h1 : n ≤ 57) : Utf8.encode n = ByteArray.mk [UInt8.ofNat n.toNat].toArray := by
  unfold Utf8.encode
  have hv : Utf8.valid n = true := by
    unfold Utf8.valid; simp; omega
  simp only [hv, if_true]
  rw [if_pos (by omega)]
theorem dec_len : ∀ (k n : Nat), n < 10 ^ (k + 1) → (decDigits n).length ≤ k + 1
  | 0, n, h => by rw [Proofs.T.dec_small (by simpa using h)]; simp
  | k + 1, n, h => by
    by_cases h1 : n < 10
    · rw [Proofs.T.dec_small h1]; simp
    · rw [Proofs.T.dec_big h1]
      have := dec_len k (n / 10) (by rw [Nat.pow_succ] at h; omega)
      simp only [List.length_append, List.length_cons, List.length_nil]; omega
theorem itoa_len (n : Int) (h0 : -9223372036854775808 ≤ n) (h1 : n ≤ 9223372036854775807) : (itoa n).length ≤ 20 := by
  unfold itoa
  split
  · have := dec_len 18 n.natAbs (by omega); simp only [List.length_cons]; omega
  · have := dec_len 18 n.toNat (by omega); omega
end Go.AM
end
