import Derived.Test.YtegccfgfddpmpaaGreatDoorZAI
import Derived.Shelf.SlGeneric
import Derived.Shelf.SlLaysF0
import Derived.Ground.SlsfProg
import Derived.Test.YtegccfgfddpmpaaGreatDoorProg
import Derived.Shelf.SlSortCmp.WholeK
import Derived.WalkKit
import Derived.KernelRfl

section
set_option linter.unusedVariables false
set_option linter.unusedSimpArgs false
namespace Go.Proofs.T
open Go Go.AM Go.Proofs
set_option linter.unusedSimpArgs false
set_option linter.unusedVariables false
set_option maxRecDepth 4000
variable {Γ : List (Nat × List AVal)}
def brkAt (s : St) (r i : Nat) : List Flt := iff1 (brk s i (r + 4)) ⟨((r : Int) + 4), (i : Int), 0⟩
def brkR (s : St) (r : Nat) : List Flt := flats (brkAt s r) s.nt
def sptAt (s : St) (g c : Nat) : List Flt := iff1 (!(ent (s.sp g c).v (s.sp g c).r (s.wt g))) ⟨11, (g : Int), (c : Int)⟩
def sptR (s : St) (g : Nat) : List Flt := if g = 0 then [] else flats (sptAt s g) (s.nsp g)
def rootAt (s : St) (c : Nat) : List Flt := iff1 (decide (0 < (s.sp 0 c).v ∨ 0 < (s.sp 0 c).r)) ⟨12, (c : Int), 0⟩
def partsL (s : St) : List Flt := flats (clockAt s) s.nk ++ (flats (brkR s) 7 ++ (flats (sptR s) s.ns ++ (flats (rootAt s) s.cpus.toNat ++ flats (curAt s) s.cpus.toNat)))
structure PartOk (s : St) : Prop where
  sp : ∀ g, g < s.ns → (s.nsp g : Int) = s.cpus
  ng : s.ns = s.ng
  ns1 : 1 ≤ s.ns
  c0 : 0 ≤ s.cpus
  c1 : s.cpus ≤ 64
  nu : (s.nu : Int) = s.cpus
  n12 : s.ns ≤ 12
set_option maxHeartbeats 4000000 in
theorem parts_ref (s : St) (hs : s.Small) (hw : Wf s) (hp : PartOk s) : Pure Tryz.prog Γ 48 [.agg s.cells] (rows 3 ((partsL s).map Flt.row)) := by
  obtain ⟨hng, hnk, hnu, hnt, hns, hnsp⟩ := id hs
  obtain ⟨ksp, kng, kns1, kc0, kc1, knu, k12⟩ := id hp
  refine Pure_at Tryz.func48 rfl 170 rfl (Nat.le_of_ble_eq_true rfl) rfl fun k => ?_
  obtain ⟨R, eR⟩ : ∃ R, R = (partsL s).map Flt.row := ⟨_, rfl⟩
  rw [← eR]
  (repeat' (first | (refine C_seq rfl ?_) | (refine C_block rfl ?_) | (refine C_skip rfl ?_; (try simp -dsimp -implicitDefEqProofs only [go_sem, eq_self, ↓reduceIte])) | (refine C_exit rfl ?_; (try simp -dsimp -implicitDefEqProofs only [go_sem, eq_self, ↓reduceIte])) | (refine C_cond rfl _ rfl (fun ht => ?_) (fun ht => ?_) <;> (try (simp only [nf] at ht)) <;> (try (exfalso; omega))) | ((first | (refine S_reg0 rfl [0,1,2,3,4,5,6,7,8,9,10,15,31,38,45,51,62,72,101,112,134,144,163] rfl rfl (fun K hK => ?_)) | (refine S_drw0 rfl [0,1,2,3,4,5,6,7,8,9,10,15,31,38,45,51,62,72,101,112,134,144,163] rfl (by kernel_rfl) rfl (fun K hK => ?_))); simp -dsimp -implicitDefEqProofs only [go_sem, eq_self, ↓reduceIte]; (repeat' (first | (refine And.intro ?_ ?_) | (refine gs_both (fun hb => ?_) (fun hb => ?_) <;> (have hg := hb; (try simp only [nfb] at hg); simp -dsimp -implicitDefEqProofs only [go_sem, hb, hg, eq_self, ↓reduceIte]; clear hb; (try simp only [nfe] at hg))))); any_goals ((first | (refine hK _ _ _ _ (fun hx => ?_)) | (refine hK _ _ _ _ (drawA (fun i => i - k)) (fun hx => ?_)) | (refine hK _ _ _ _ drawB (fun hx => ?_))); clear hx hK; simp -dsimp -implicitDefEqProofs only [go_sem, eq_self, ↓reduceIte]; (try simp (disch := omega) only [wrap_i64, wrap_u64, wrap_u32, wrap_u8]))) | omega))
  refine M_forO (X := Nat) rfl [0,1,2,3,4,5,6,7,8,9,10,15,31,38,45,51,62,72,101,112,134,144,163] (k + 2) (fun c => [(4, .lit (.int .i64 (c : Int))), (3, accV (k + 1) ((flats (clockAt s) c).map Flt.row))]) (fun c => accH (k + 1) 3 ((flats (clockAt s) c).map Flt.row) [(k, ⟨7, true, [s.cells]⟩)]) (fun c => c ≤ s.nk) (fun c => s.nk - c) 0 ?_ (Nat.zero_le _) ?_
  · rw [flats_zero, List.map_nil]
    simp -dsimp -implicitDefEqProofs only [go_sem, eq_self, ↓reduceIte]
    exact wkF
  intro c hc
  have hfl := flats_len (f := clockAt s) (m := 1) (fun c => iff1_len1 _ _) c
  obtain ⟨l1, e1, h1⟩ : ∃ x, x = flats (clockAt s) c ∧ x.length ≤ c := ⟨_, rfl, by omega⟩
  rw [← e1]
  have hsucc : flats (clockAt s) (c + 1) = l1 ++ clockAt s c := by rw [e1]; rfl
  simp -dsimp -implicitDefEqProofs only [go_sem, eq_self, ↓reduceIte]
  (repeat' (first | (refine C_seq rfl ?_) | (refine C_block rfl ?_) | (refine C_skip rfl ?_; (try simp -dsimp -implicitDefEqProofs only [go_sem, eq_self, ↓reduceIte])) | (refine C_exit rfl ?_; (try simp -dsimp -implicitDefEqProofs only [go_sem, eq_self, ↓reduceIte])) | (refine C_cond rfl _ rfl (fun ht => ?_) (fun ht => ?_) <;> (try (simp only [nf] at ht)) <;> (try (exfalso; omega))) | ((first | (refine S_reg0 rfl [0,1,2,3,4,5,6,7,8,9,10,15,31,38,45,51,62,72,101,112,134,144,163] rfl rfl (fun K hK => ?_)) | (refine S_drw0 rfl [0,1,2,3,4,5,6,7,8,9,10,15,31,38,45,51,62,72,101,112,134,144,163] rfl (by kernel_rfl) rfl (fun K hK => ?_))); simp -dsimp -implicitDefEqProofs only [go_sem, eq_self, ↓reduceIte]; (repeat' (first | (refine And.intro ?_ ?_) | (refine gs_both (fun hb => ?_) (fun hb => ?_) <;> (have hg := hb; (try simp only [nfb] at hg); simp -dsimp -implicitDefEqProofs only [go_sem, hb, hg, eq_self, ↓reduceIte]; clear hb; (try simp only [nfe] at hg))))); any_goals ((first | (refine hK _ _ _ _ (fun hx => ?_)) | (refine hK _ _ _ _ (drawA (fun i => i - k)) (fun hx => ?_)) | (refine hK _ _ _ _ drawB (fun hx => ?_))); clear hx hK; simp -dsimp -implicitDefEqProofs only [go_sem, eq_self, ↓reduceIte]; (try simp (disch := omega) only [wrap_i64, wrap_u64, wrap_u32, wrap_u8]))) | omega))
  · refine ⟨c + 1, by omega, by omega, ?_⟩
    rw [hsucc, show clockAt s c = [⟨3, (c : Int), 0⟩] by rw [clockAt, decide_eq_true (by omega)]; rfl]
    simp -dsimp -implicitDefEqProofs only [go_sem, eq_self, ↓reduceIte]
    exact Mv.app (k + 3) (k + 1) ⟨by omega, by omega⟩ ⟨by omega, by omega⟩ (wk_low (by omega) (by simp -dsimp -implicitDefEqProofs only [go_sem, List.map_append, List.map_cons, List.map_nil, Flt.row, eq_self, ↓reduceIte]) (by simp -dsimp -implicitDefEqProofs only [go_sem, List.map_append, List.map_cons, List.map_nil, Flt.row, eq_self, ↓reduceIte]) (by simp -dsimp -implicitDefEqProofs only [go_sem, List.map_append, List.map_cons, List.map_nil, Flt.row, eq_self, ↓reduceIte]) (by simp -dsimp -implicitDefEqProofs only [go_sem, List.map_append, List.map_cons, List.map_nil, Flt.row, eq_self, ↓reduceIte]))
  · refine ⟨c + 1, by omega, by omega, ?_⟩
    rw [hsucc, show clockAt s c = [] by rw [clockAt, decide_eq_false (by omega)]; rfl, List.append_nil]
    simp -dsimp -implicitDefEqProofs only [go_sem, eq_self, ↓reduceIte]
    exact wkF
  · refine ⟨c + 1, by omega, by omega, ?_⟩
    rw [hsucc, show clockAt s c = [⟨3, (c : Int), 0⟩] by rw [clockAt, decide_eq_true (by omega)]; rfl]
    simp -dsimp -implicitDefEqProofs only [go_sem, eq_self, ↓reduceIte]
    exact Mv.app (k + 3) (k + 1) ⟨by omega, by omega⟩ ⟨by omega, by omega⟩ (wk_low (by omega) (by simp -dsimp -implicitDefEqProofs only [go_sem, List.map_append, List.map_cons, List.map_nil, Flt.row, eq_self, ↓reduceIte]) (by simp -dsimp -implicitDefEqProofs only [go_sem, List.map_append, List.map_cons, List.map_nil, Flt.row, eq_self, ↓reduceIte]) (by simp -dsimp -implicitDefEqProofs only [go_sem, List.map_append, List.map_cons, List.map_nil, Flt.row, eq_self, ↓reduceIte]) (by simp -dsimp -implicitDefEqProofs only [go_sem, List.map_append, List.map_cons, List.map_nil, Flt.row, eq_self, ↓reduceIte]))
  have hcn : c = s.nk := by omega
  subst hcn
  clear hsucc hfl
  refine M_forO (X := Nat) rfl [0,1,2,3,4,5,6,7,8,9,10,15,31,38,45,51,62,72,101,112,134,144,163] (k + 2) (fun r => [(5, .lit (.int .u8 ((r : Int) + 4))), (3, accV (k + 1) ((l1 ++ flats (brkR s) r).map Flt.row))]) (fun r => accH (k + 1) 3 ((l1 ++ flats (brkR s) r).map Flt.row) [(k, ⟨7, true, [s.cells]⟩)]) (fun r => r ≤ 7) (fun r => 7 - r) 0 ?_ (Nat.zero_le _) ?_
  · rw [flats_zero, List.append_nil, show (((0 : Nat) : Int) + 4) = 4 from rfl]
    simp -dsimp -implicitDefEqProofs only [go_sem, eq_self, ↓reduceIte]
    exact wkF
  intro r hr
  have hfl := flats_len (f := brkR s) (m := 1000) (fun r => by have := flats_len (f := brkAt s r) (m := 1) (fun i => iff1_len1 _ _) s.nt; unfold brkR; omega) r
  obtain ⟨l2, e2, h2⟩ : ∃ x, x = l1 ++ flats (brkR s) r ∧ x.length ≤ l1.length + r * 1000 := ⟨_, rfl, by simp; omega⟩
  rw [← e2]
  have hsucc2 : l1 ++ flats (brkR s) (r + 1) = l2 ++ flats (brkAt s r) s.nt := by rw [e2, flats_succ, List.append_assoc]; rfl
  simp -dsimp -implicitDefEqProofs only [go_sem, eq_self, ↓reduceIte]
  (repeat' (first | (refine C_seq rfl ?_) | (refine C_block rfl ?_) | (refine C_skip rfl ?_; (try simp -dsimp -implicitDefEqProofs only [go_sem, eq_self, ↓reduceIte])) | (refine C_exit rfl ?_; (try simp -dsimp -implicitDefEqProofs only [go_sem, eq_self, ↓reduceIte])) | (refine C_cond rfl _ rfl (fun ht => ?_) (fun ht => ?_) <;> (try (simp only [nf] at ht)) <;> (try (exfalso; omega))) | ((first | (refine S_reg0 rfl [0,1,2,3,4,5,6,7,8,9,10,15,31,38,45,51,62,72,101,112,134,144,163] rfl rfl (fun K hK => ?_)) | (refine S_drw0 rfl [0,1,2,3,4,5,6,7,8,9,10,15,31,38,45,51,62,72,101,112,134,144,163] rfl (by kernel_rfl) rfl (fun K hK => ?_))); simp -dsimp -implicitDefEqProofs only [go_sem, eq_self, ↓reduceIte]; (repeat' (first | (refine And.intro ?_ ?_) | (refine gs_both (fun hb => ?_) (fun hb => ?_) <;> (have hg := hb; (try simp only [nfb] at hg); simp -dsimp -implicitDefEqProofs only [go_sem, hb, hg, eq_self, ↓reduceIte]; clear hb; (try simp only [nfe] at hg))))); any_goals ((first | (refine hK _ _ _ _ (fun hx => ?_)) | (refine hK _ _ _ _ (drawA (fun i => i - k)) (fun hx => ?_)) | (refine hK _ _ _ _ drawB (fun hx => ?_))); clear hx hK; simp -dsimp -implicitDefEqProofs only [go_sem, eq_self, ↓reduceIte]; (try simp (disch := omega) only [wrap_i64, wrap_u64, wrap_u32, wrap_u8]))) | omega))
  · refine M_forO (X := Nat) rfl [0,1,2,3,4,5,6,7,8,9,10,15,31,38,45,51,62,72,101,112,134,144,163] (k + 2) (fun i => [(6, .lit (.int .i64 (i : Int))), (3, accV (k + 1) ((l2 ++ flats (brkAt s r) i).map Flt.row))]) (fun i => accH (k + 1) 3 ((l2 ++ flats (brkAt s r) i).map Flt.row) [(k, ⟨7, true, [s.cells]⟩)]) (fun i => i ≤ s.nt) (fun i => s.nt - i) 0 ?_ (Nat.zero_le _) ?_
    · rw [flats_zero, List.append_nil]
      simp -dsimp -implicitDefEqProofs only [go_sem, eq_self, ↓reduceIte]
      exact wkF
    intro i hi
    have hfi := flats_len (f := brkAt s r) (m := 1) (fun i => iff1_len1 _ _) i
    obtain ⟨l3, e3, h3⟩ : ∃ x, x = l2 ++ flats (brkAt s r) i ∧ x.length ≤ l2.length + i := ⟨_, rfl, by simp; omega⟩
    rw [← e3]
    have hsucc3 : l2 ++ flats (brkAt s r) (i + 1) = l3 ++ brkAt s r i := by rw [e3, flats_succ, List.append_assoc]
    simp -dsimp -implicitDefEqProofs only [go_sem, eq_self, ↓reduceIte]
    (repeat' (first | (refine C_seq rfl ?_) | (refine C_block rfl ?_) | (refine C_skip rfl ?_; (try simp -dsimp -implicitDefEqProofs only [go_sem, eq_self, ↓reduceIte])) | (refine C_exit rfl ?_; (try simp -dsimp -implicitDefEqProofs only [go_sem, eq_self, ↓reduceIte])) | (refine C_cond rfl _ rfl (fun ht => ?_) (fun ht => ?_) <;> (try (simp only [nf] at ht)) <;> (try (exfalso; omega))) | ((first | (refine S_reg0 rfl [0,1,2,3,4,5,6,7,8,9,10,15,31,38,45,51,62,72,101,112,134,144,163] rfl rfl (fun K hK => ?_)) | (refine S_drw0 rfl [0,1,2,3,4,5,6,7,8,9,10,15,31,38,45,51,62,72,101,112,134,144,163] rfl (by kernel_rfl) rfl (fun K hK => ?_))); simp -dsimp -implicitDefEqProofs only [go_sem, eq_self, ↓reduceIte]; (repeat' (first | (refine And.intro ?_ ?_) | (refine gs_both (fun hb => ?_) (fun hb => ?_) <;> (have hg := hb; (try simp only [nfb] at hg); simp -dsimp -implicitDefEqProofs only [go_sem, hb, hg, eq_self, ↓reduceIte]; clear hb; (try simp only [nfe] at hg))))); any_goals ((first | (refine hK _ _ _ _ (fun hx => ?_)) | (refine hK _ _ _ _ (drawA (fun i => i - k)) (fun hx => ?_)) | (refine hK _ _ _ _ drawB (fun hx => ?_))); clear hx hK; simp -dsimp -implicitDefEqProofs only [go_sem, eq_self, ↓reduceIte]; (try simp (disch := omega) only [wrap_i64, wrap_u64, wrap_u32, wrap_u8]))) | omega))
    · obtain ⟨b, eb⟩ : ∃ b, b = brk s i ((r : Int) + 4) := ⟨_, rfl⟩
      refine S_reg rfl [0,1,2,3,4,5,6,7,8,9,10,15,31,38,45,51,62,72,101,112,134,144,163] [.ret (.lit (.bool b))] rfl (fun K hK => ?_); simp -dsimp -implicitDefEqProofs only [go_sem, eq_self, ↓reduceIte]; (repeat' (first | (refine And.intro ?_ ?_) | (refine gs_both (fun hb => ?_) (fun hb => ?_) <;> (have hg := hb; (try simp only [nfb] at hg); simp -dsimp -implicitDefEqProofs only [go_sem, hb, hg, eq_self, ↓reduceIte]; clear hb; (try simp only [nfe] at hg))))); (any_goals ((refine hK _ _ _ _ (fun hx => ?_)); clear hx hK; simp -dsimp -implicitDefEqProofs only [go_sem, eq_self, ↓reduceIte]; (try simp (disch := omega) only [wrap_i64, wrap_u64, wrap_u32, wrap_u8]))); (all_goals (try omega))
      · rw [eb]; exact broken_ref s hs hw kc0 kc1 i (by omega) ((r : Int) + 4)
      (repeat' (first | (refine C_seq rfl ?_) | (refine C_block rfl ?_) | (refine C_skip rfl ?_; (try simp -dsimp -implicitDefEqProofs only [go_sem, eq_self, ↓reduceIte])) | (refine C_exit rfl ?_; (try simp -dsimp -implicitDefEqProofs only [go_sem, eq_self, ↓reduceIte])) | (refine C_cond rfl _ rfl (fun ht => ?_) (fun ht => ?_) <;> (try (simp only [nf] at ht)) <;> (try (exfalso; omega))) | ((first | (refine S_reg0 rfl [0,1,2,3,4,5,6,7,8,9,10,15,31,38,45,51,62,72,101,112,134,144,163] rfl rfl (fun K hK => ?_)) | (refine S_drw0 rfl [0,1,2,3,4,5,6,7,8,9,10,15,31,38,45,51,62,72,101,112,134,144,163] rfl (by kernel_rfl) rfl (fun K hK => ?_))); simp -dsimp -implicitDefEqProofs only [go_sem, eq_self, ↓reduceIte]; (repeat' (first | (refine And.intro ?_ ?_) | (refine gs_both (fun hb => ?_) (fun hb => ?_) <;> (have hg := hb; (try simp only [nfb] at hg); simp -dsimp -implicitDefEqProofs only [go_sem, hb, hg, eq_self, ↓reduceIte]; clear hb; (try simp only [nfe] at hg))))); any_goals ((first | (refine hK _ _ _ _ (fun hx => ?_)) | (refine hK _ _ _ _ (drawA (fun i => i - k)) (fun hx => ?_)) | (refine hK _ _ _ _ drawB (fun hx => ?_))); clear hx hK; simp -dsimp -implicitDefEqProofs only [go_sem, eq_self, ↓reduceIte]; (try simp (disch := omega) only [wrap_i64, wrap_u64, wrap_u32, wrap_u8]))) | omega))
      · refine ⟨i + 1, by omega, by omega, ?_⟩
        rw [hsucc3, show brkAt s r i = [⟨((r : Int) + 4), (i : Int), 0⟩] by rw [brkAt, ← eb, ht]; rfl]
        simp -dsimp -implicitDefEqProofs only [go_sem, eq_self, ↓reduceIte]
        exact Mv.app (k + 3) (k + 1) ⟨by omega, by omega⟩ ⟨by omega, by omega⟩ (wk_low (by omega) (by simp -dsimp -implicitDefEqProofs only [go_sem, List.map_append, List.map_cons, List.map_nil, Flt.row, eq_self, ↓reduceIte]) (by simp -dsimp -implicitDefEqProofs only [go_sem, List.map_append, List.map_cons, List.map_nil, Flt.row, eq_self, ↓reduceIte]) (by simp -dsimp -implicitDefEqProofs only [go_sem, List.map_append, List.map_cons, List.map_nil, Flt.row, eq_self, ↓reduceIte]) (by simp -dsimp -implicitDefEqProofs only [go_sem, List.map_append, List.map_cons, List.map_nil, Flt.row, eq_self, ↓reduceIte]))
      · refine ⟨i + 1, by omega, by omega, ?_⟩
        rw [hsucc3, show brkAt s r i = [] by rw [brkAt, ← eb, ht]; rfl, List.append_nil]
        simp -dsimp -implicitDefEqProofs only [go_sem, eq_self, ↓reduceIte]
        exact wkF
    · have hin : i = s.nt := by omega
      refine ⟨r + 1, by omega, by omega, ?_⟩
      rw [hsucc2, ← hin, ← e3, show (((r + 1 : Nat) : Int) + 4) = (r : Int) + 4 + 1 by omega]
      (try (simp -dsimp -implicitDefEqProofs only [go_sem, eq_self, ↓reduceIte]))
      exact wkF
  have hrn : r = 7 := by omega
  subst hrn
  clear hsucc2 hfl
  refine M_forO (X := Nat) rfl [0,1,2,3,4,5,6,7,8,9,10,15,31,38,45,51,62,72,101,112,134,144,163] (k + 2) (fun g => [(7, .lit (.int .i64 (g : Int))), (3, accV (k + 1) ((l2 ++ flats (sptR s) g).map Flt.row))]) (fun g => accH (k + 1) 3 ((l2 ++ flats (sptR s) g).map Flt.row) [(k, ⟨7, true, [s.cells]⟩)]) (fun g => 1 ≤ g ∧ g ≤ s.ns) (fun g => s.ns - g) 1 ?_ ⟨by omega, by omega⟩ ?_
  · rw [show flats (sptR s) 1 = [] from rfl, List.append_nil]
    simp -dsimp -implicitDefEqProofs only [go_sem, eq_self, ↓reduceIte]
    exact wkF
  rintro g ⟨hg1, hg2⟩
  have hfl := flats_len' (f := sptR s) (m := 1000) g (fun g hg => by
    unfold sptR; split
    · simp
    · have := flats_len (f := sptAt s g) (m := 1) (fun i => iff1_len1 _ _) (s.nsp g); have := hnsp g (by omega); omega)
  obtain ⟨l3, e3, h3⟩ : ∃ x, x = l2 ++ flats (sptR s) g ∧ x.length ≤ l2.length + g * 1000 := ⟨_, rfl, by simp; omega⟩
  rw [← e3]
  have hsucc4 : l2 ++ flats (sptR s) (g + 1) = l3 ++ flats (sptAt s g) (s.nsp g) := by rw [e3, flats_succ, List.append_assoc, sptR, if_neg (by omega)]
  simp -dsimp -implicitDefEqProofs only [go_sem, eq_self, ↓reduceIte]
  (repeat' (first | (refine C_seq rfl ?_) | (refine C_block rfl ?_) | (refine C_skip rfl ?_; (try simp -dsimp -implicitDefEqProofs only [go_sem, eq_self, ↓reduceIte])) | (refine C_exit rfl ?_; (try simp -dsimp -implicitDefEqProofs only [go_sem, eq_self, ↓reduceIte])) | (refine C_cond rfl _ rfl (fun ht => ?_) (fun ht => ?_) <;> (try (simp only [nf] at ht)) <;> (try (exfalso; omega))) | ((first | (refine S_reg0 rfl [0,1,2,3,4,5,6,7,8,9,10,15,31,38,45,51,62,72,101,112,134,144,163] rfl rfl (fun K hK => ?_)) | (refine S_drw0 rfl [0,1,2,3,4,5,6,7,8,9,10,15,31,38,45,51,62,72,101,112,134,144,163] rfl (by kernel_rfl) rfl (fun K hK => ?_))); simp -dsimp -implicitDefEqProofs only [go_sem, eq_self, ↓reduceIte]; (repeat' (first | (refine And.intro ?_ ?_) | (refine gs_both (fun hb => ?_) (fun hb => ?_) <;> (have hg := hb; (try simp only [nfb] at hg); simp -dsimp -implicitDefEqProofs only [go_sem, hb, hg, eq_self, ↓reduceIte]; clear hb; (try simp only [nfe] at hg))))); any_goals ((first | (refine hK _ _ _ _ (fun hx => ?_)) | (refine hK _ _ _ _ (drawA (fun i => i - k)) (fun hx => ?_)) | (refine hK _ _ _ _ drawB (fun hx => ?_))); clear hx hK; simp -dsimp -implicitDefEqProofs only [go_sem, eq_self, ↓reduceIte]; (try simp (disch := omega) only [wrap_i64, wrap_u64, wrap_u32, wrap_u8]))) | omega))
  · have hpg : s.nsp g ≤ 1000 := hnsp g (by omega)
    refine M_forO (X := Nat) rfl [0,1,2,3,4,5,6,7,8,9,10,15,31,38,45,51,62,72,101,112,134,144,163] (k + 2) (fun c => [(8, .lit (.int .i64 (c : Int))), (3, accV (k + 1) ((l3 ++ flats (sptAt s g) c).map Flt.row))]) (fun c => accH (k + 1) 3 ((l3 ++ flats (sptAt s g) c).map Flt.row) [(k, ⟨7, true, [s.cells]⟩)]) (fun c => c ≤ s.nsp g) (fun c => s.nsp g - c) 0 ?_ (Nat.zero_le _) ?_
    · rw [flats_zero, List.append_nil]
      simp -dsimp -implicitDefEqProofs only [go_sem, eq_self, ↓reduceIte]
      exact wkF
    intro c hc
    have hfi := flats_len (f := sptAt s g) (m := 1) (fun i => iff1_len1 _ _) c
    obtain ⟨l4, e4, h4⟩ : ∃ x, x = l3 ++ flats (sptAt s g) c ∧ x.length ≤ l3.length + c := ⟨_, rfl, by simp; omega⟩
    rw [← e4]
    have hsucc5 : l3 ++ flats (sptAt s g) (c + 1) = l4 ++ sptAt s g c := by rw [e4, flats_succ, List.append_assoc]
    simp -dsimp -implicitDefEqProofs only [go_sem, eq_self, ↓reduceIte]
    (repeat' (first | (refine C_seq rfl ?_) | (refine C_block rfl ?_) | (refine C_skip rfl ?_; (try simp -dsimp -implicitDefEqProofs only [go_sem, eq_self, ↓reduceIte])) | (refine C_exit rfl ?_; (try simp -dsimp -implicitDefEqProofs only [go_sem, eq_self, ↓reduceIte])) | (refine C_cond rfl _ rfl (fun ht => ?_) (fun ht => ?_) <;> (try (simp only [nf] at ht)) <;> (try (exfalso; omega))) | ((first | (refine S_reg0 rfl [0,1,2,3,4,5,6,7,8,9,10,15,31,38,45,51,62,72,101,112,134,144,163] rfl rfl (fun K hK => ?_)) | (refine S_drw0 rfl [0,1,2,3,4,5,6,7,8,9,10,15,31,38,45,51,62,72,101,112,134,144,163] rfl (by kernel_rfl) rfl (fun K hK => ?_))); simp -dsimp -implicitDefEqProofs only [go_sem, eq_self, ↓reduceIte]; (repeat' (first | (refine And.intro ?_ ?_) | (refine gs_both (fun hb => ?_) (fun hb => ?_) <;> (have hg := hb; (try simp only [nfb] at hg); simp -dsimp -implicitDefEqProofs only [go_sem, hb, hg, eq_self, ↓reduceIte]; clear hb; (try simp only [nfe] at hg))))); any_goals ((first | (refine hK _ _ _ _ (fun hx => ?_)) | (refine hK _ _ _ _ (drawA (fun i => i - k)) (fun hx => ?_)) | (refine hK _ _ _ _ drawB (fun hx => ?_))); clear hx hK; simp -dsimp -implicitDefEqProofs only [go_sem, eq_self, ↓reduceIte]; (try simp (disch := omega) only [wrap_i64, wrap_u64, wrap_u32, wrap_u8]))) | omega))
    · obtain ⟨b, eb⟩ : ∃ b, b = ent (s.sp g c).v (s.sp g c).r (s.wt g) := ⟨_, rfl⟩
      refine S_drw rfl [0,1,2,3,4,5,6,7,8,9,10,15,31,38,45,51,62,72,101,112,134,144,163] [.ret (.lit (.bool b))] (by kernel_rfl) rfl (fun K hK => ?_); simp -dsimp -implicitDefEqProofs only [go_sem, eq_self, ↓reduceIte]; (repeat' (first | (refine And.intro ?_ ?_) | (refine gs_both (fun hb => ?_) (fun hb => ?_) <;> (have hg := hb; (try simp only [nfb] at hg); simp -dsimp -implicitDefEqProofs only [go_sem, hb, hg, eq_self, ↓reduceIte]; clear hb; (try simp only [nfe] at hg))))); (any_goals ((first | (refine hK _ _ _ _ (drawA (fun i => i - k)) (fun hx => ?_)) | (refine hK _ _ _ _ drawB (fun hx => ?_))); clear hx hK; simp -dsimp -implicitDefEqProofs only [go_sem, eq_self, ↓reduceIte]; (try simp (disch := omega) only [wrap_i64, wrap_u64, wrap_u32, wrap_u8]))); (all_goals (try omega))
      · rw [eb]; exact entity_ref (s.sp g c).v (s.sp g c).r (s.wt g) (hw.sv g c) (hw.sr g c)
      (repeat' (first | (refine C_seq rfl ?_) | (refine C_block rfl ?_) | (refine C_skip rfl ?_; (try simp -dsimp -implicitDefEqProofs only [go_sem, eq_self, ↓reduceIte])) | (refine C_exit rfl ?_; (try simp -dsimp -implicitDefEqProofs only [go_sem, eq_self, ↓reduceIte])) | (refine C_cond rfl _ rfl (fun ht => ?_) (fun ht => ?_) <;> (try (simp only [nf] at ht)) <;> (try (exfalso; omega))) | ((first | (refine S_reg0 rfl [0,1,2,3,4,5,6,7,8,9,10,15,31,38,45,51,62,72,101,112,134,144,163] rfl rfl (fun K hK => ?_)) | (refine S_drw0 rfl [0,1,2,3,4,5,6,7,8,9,10,15,31,38,45,51,62,72,101,112,134,144,163] rfl (by kernel_rfl) rfl (fun K hK => ?_))); simp -dsimp -implicitDefEqProofs only [go_sem, eq_self, ↓reduceIte]; (repeat' (first | (refine And.intro ?_ ?_) | (refine gs_both (fun hb => ?_) (fun hb => ?_) <;> (have hg := hb; (try simp only [nfb] at hg); simp -dsimp -implicitDefEqProofs only [go_sem, hb, hg, eq_self, ↓reduceIte]; clear hb; (try simp only [nfe] at hg))))); any_goals ((first | (refine hK _ _ _ _ (fun hx => ?_)) | (refine hK _ _ _ _ (drawA (fun i => i - k)) (fun hx => ?_)) | (refine hK _ _ _ _ drawB (fun hx => ?_))); clear hx hK; simp -dsimp -implicitDefEqProofs only [go_sem, eq_self, ↓reduceIte]; (try simp (disch := omega) only [wrap_i64, wrap_u64, wrap_u32, wrap_u8]))) | omega))
      · refine ⟨c + 1, by omega, by omega, ?_⟩
        rw [hsucc5, show sptAt s g c = [⟨11, (g : Int), (c : Int)⟩] by rw [sptAt, ← eb, ht]; rfl]
        simp -dsimp -implicitDefEqProofs only [go_sem, eq_self, ↓reduceIte]
        exact Mv.app (k + 3) (k + 1) ⟨by omega, by omega⟩ ⟨by omega, by omega⟩ (wk_low (by omega) (by simp -dsimp -implicitDefEqProofs only [go_sem, List.map_append, List.map_cons, List.map_nil, Flt.row, eq_self, ↓reduceIte]) (by simp -dsimp -implicitDefEqProofs only [go_sem, List.map_append, List.map_cons, List.map_nil, Flt.row, eq_self, ↓reduceIte]) (by simp -dsimp -implicitDefEqProofs only [go_sem, List.map_append, List.map_cons, List.map_nil, Flt.row, eq_self, ↓reduceIte]) (by simp -dsimp -implicitDefEqProofs only [go_sem, List.map_append, List.map_cons, List.map_nil, Flt.row, eq_self, ↓reduceIte]))
      · refine ⟨c + 1, by omega, by omega, ?_⟩
        rw [hsucc5, show sptAt s g c = [] by rw [sptAt, ← eb, ht]; rfl, List.append_nil]
        simp -dsimp -implicitDefEqProofs only [go_sem, eq_self, ↓reduceIte]
        exact wkF
    · have hin : c = s.nsp g := by omega
      refine ⟨g + 1, ⟨by omega, by omega⟩, by omega, ?_⟩
      rw [hsucc4, ← hin, ← e4]
      simp -dsimp -implicitDefEqProofs only [go_sem, eq_self, ↓reduceIte]
      exact wkF
  have hgn : g = s.ns := by omega
  subst hgn
  clear hsucc4 hfl
  have hst : (s.cpus.toNat : Int) = s.cpus := by omega
  have hsp0 := ksp 0 (by omega)
  refine M_forO (X := Nat) rfl [0,1,2,3,4,5,6,7,8,9,10,15,31,38,45,51,62,72,101,112,134,144,163] (k + 2) (fun c => [(9, .lit (.int .i64 (c : Int))), (3, accV (k + 1) ((l3 ++ flats (rootAt s) c).map Flt.row))]) (fun c => accH (k + 1) 3 ((l3 ++ flats (rootAt s) c).map Flt.row) [(k, ⟨7, true, [s.cells]⟩)]) (fun c => c ≤ s.cpus.toNat) (fun c => s.cpus.toNat - c) 0 ?_ (Nat.zero_le _) ?_
  · rw [flats_zero, List.append_nil]
    simp -dsimp -implicitDefEqProofs only [go_sem, eq_self, ↓reduceIte]
    exact wkF
  intro c hc
  have hfl := flats_len (f := rootAt s) (m := 1) (fun c => iff1_len1 _ _) c
  obtain ⟨l4, e4, h4⟩ : ∃ x, x = l3 ++ flats (rootAt s) c ∧ x.length ≤ l3.length + c := ⟨_, rfl, by simp; omega⟩
  rw [← e4]
  have hsucc6 : l3 ++ flats (rootAt s) (c + 1) = l4 ++ rootAt s c := by rw [e4, flats_succ, List.append_assoc]
  simp -dsimp -implicitDefEqProofs only [go_sem, eq_self, ↓reduceIte]
  (repeat' (first | (refine C_seq rfl ?_) | (refine C_block rfl ?_) | (refine C_skip rfl ?_; (try simp -dsimp -implicitDefEqProofs only [go_sem, eq_self, ↓reduceIte])) | (refine C_exit rfl ?_; (try simp -dsimp -implicitDefEqProofs only [go_sem, eq_self, ↓reduceIte])) | (refine C_cond rfl _ rfl (fun ht => ?_) (fun ht => ?_) <;> (try (simp only [nf] at ht)) <;> (try (exfalso; omega))) | ((first | (refine S_reg0 rfl [0,1,2,3,4,5,6,7,8,9,10,15,31,38,45,51,62,72,101,112,134,144,163] rfl rfl (fun K hK => ?_)) | (refine S_drw0 rfl [0,1,2,3,4,5,6,7,8,9,10,15,31,38,45,51,62,72,101,112,134,144,163] rfl (by kernel_rfl) rfl (fun K hK => ?_))); simp -dsimp -implicitDefEqProofs only [go_sem, eq_self, ↓reduceIte]; (repeat' (first | (refine And.intro ?_ ?_) | (refine gs_both (fun hb => ?_) (fun hb => ?_) <;> (have hg := hb; (try simp only [nfb] at hg); simp -dsimp -implicitDefEqProofs only [go_sem, hb, hg, eq_self, ↓reduceIte]; clear hb; (try simp only [nfe] at hg))))); any_goals ((first | (refine hK _ _ _ _ (fun hx => ?_)) | (refine hK _ _ _ _ (drawA (fun i => i - k)) (fun hx => ?_)) | (refine hK _ _ _ _ drawB (fun hx => ?_))); clear hx hK; simp -dsimp -implicitDefEqProofs only [go_sem, eq_self, ↓reduceIte]; (try simp (disch := omega) only [wrap_i64, wrap_u64, wrap_u32, wrap_u8]))) | omega))
  · refine ⟨c + 1, by omega, by omega, ?_⟩
    rw [hsucc6, show rootAt s c = [⟨12, (c : Int), 0⟩] by rw [rootAt, decide_eq_true (by omega)]; rfl]
    simp -dsimp -implicitDefEqProofs only [go_sem, eq_self, ↓reduceIte]
    exact Mv.app (k + 3) (k + 1) ⟨by omega, by omega⟩ ⟨by omega, by omega⟩ (wk_low (by omega) (by simp -dsimp -implicitDefEqProofs only [go_sem, List.map_append, List.map_cons, List.map_nil, Flt.row, eq_self, ↓reduceIte]) (by simp -dsimp -implicitDefEqProofs only [go_sem, List.map_append, List.map_cons, List.map_nil, Flt.row, eq_self, ↓reduceIte]) (by simp -dsimp -implicitDefEqProofs only [go_sem, List.map_append, List.map_cons, List.map_nil, Flt.row, eq_self, ↓reduceIte]) (by simp -dsimp -implicitDefEqProofs only [go_sem, List.map_append, List.map_cons, List.map_nil, Flt.row, eq_self, ↓reduceIte]))
  · refine ⟨c + 1, by omega, by omega, ?_⟩
    rw [hsucc6, show rootAt s c = [] by rw [rootAt, decide_eq_false (by omega)]; rfl, List.append_nil]
    simp -dsimp -implicitDefEqProofs only [go_sem, eq_self, ↓reduceIte]
    exact wkF
  · refine ⟨c + 1, by omega, by omega, ?_⟩
    rw [hsucc6, show rootAt s c = [⟨12, (c : Int), 0⟩] by rw [rootAt, decide_eq_true (by omega)]; rfl]
    simp -dsimp -implicitDefEqProofs only [go_sem, eq_self, ↓reduceIte]
    exact Mv.app (k + 3) (k + 1) ⟨by omega, by omega⟩ ⟨by omega, by omega⟩ (wk_low (by omega) (by simp -dsimp -implicitDefEqProofs only [go_sem, List.map_append, List.map_cons, List.map_nil, Flt.row, eq_self, ↓reduceIte]) (by simp -dsimp -implicitDefEqProofs only [go_sem, List.map_append, List.map_cons, List.map_nil, Flt.row, eq_self, ↓reduceIte]) (by simp -dsimp -implicitDefEqProofs only [go_sem, List.map_append, List.map_cons, List.map_nil, Flt.row, eq_self, ↓reduceIte]) (by simp -dsimp -implicitDefEqProofs only [go_sem, List.map_append, List.map_cons, List.map_nil, Flt.row, eq_self, ↓reduceIte]))
  have hcn : c = s.cpus.toNat := by omega
  subst hcn
  clear hsucc6 hfl
  refine M_forO (X := Nat) rfl [0,1,2,3,4,5,6,7,8,9,10,15,31,38,45,51,62,72,101,112,134,144,163] (k + 2) (fun c => [(10, .lit (.int .i64 (c : Int))), (3, accV (k + 1) ((l4 ++ flats (curAt s) c).map Flt.row))]) (fun c => accH (k + 1) 3 ((l4 ++ flats (curAt s) c).map Flt.row) [(k, ⟨7, true, [s.cells]⟩)]) (fun c => c ≤ s.cpus.toNat) (fun c => s.cpus.toNat - c) 0 ?_ (Nat.zero_le _) ?_
  · rw [flats_zero, List.append_nil]
    simp -dsimp -implicitDefEqProofs only [go_sem, eq_self, ↓reduceIte]
    exact wkF
  intro c hc
  have hfl := flats_len (f := curAt s) (m := 1) (fun c => iff1_len1 _ _) c
  obtain ⟨l5, e5, h5⟩ : ∃ x, x = l4 ++ flats (curAt s) c ∧ x.length ≤ l4.length + c := ⟨_, rfl, by simp; omega⟩
  rw [← e5]
  have hsucc7 : l4 ++ flats (curAt s) (c + 1) = l5 ++ curAt s c := by rw [e5, flats_succ, List.append_assoc]
  simp -dsimp -implicitDefEqProofs only [go_sem, eq_self, ↓reduceIte]
  (repeat' (first | (refine C_seq rfl ?_) | (refine C_block rfl ?_) | (refine C_skip rfl ?_; (try simp -dsimp -implicitDefEqProofs only [go_sem, eq_self, ↓reduceIte])) | (refine C_exit rfl ?_; (try simp -dsimp -implicitDefEqProofs only [go_sem, eq_self, ↓reduceIte])) | (refine C_cond rfl _ rfl (fun ht => ?_) (fun ht => ?_) <;> (try (simp only [nf] at ht)) <;> (try (exfalso; omega))) | ((first | (refine S_reg0 rfl [0,1,2,3,4,5,6,7,8,9,10,15,31,38,45,51,62,72,101,112,134,144,163] rfl rfl (fun K hK => ?_)) | (refine S_drw0 rfl [0,1,2,3,4,5,6,7,8,9,10,15,31,38,45,51,62,72,101,112,134,144,163] rfl (by kernel_rfl) rfl (fun K hK => ?_))); simp -dsimp -implicitDefEqProofs only [go_sem, eq_self, ↓reduceIte]; (repeat' (first | (refine And.intro ?_ ?_) | (refine gs_both (fun hb => ?_) (fun hb => ?_) <;> (have hg := hb; (try simp only [nfb] at hg); simp -dsimp -implicitDefEqProofs only [go_sem, hb, hg, eq_self, ↓reduceIte]; clear hb; (try simp only [nfe] at hg))))); any_goals ((first | (refine hK _ _ _ _ (fun hx => ?_)) | (refine hK _ _ _ _ (drawA (fun i => i - k)) (fun hx => ?_)) | (refine hK _ _ _ _ drawB (fun hx => ?_))); clear hx hK; simp -dsimp -implicitDefEqProofs only [go_sem, eq_self, ↓reduceIte]; (try simp (disch := omega) only [wrap_i64, wrap_u64, wrap_u32, wrap_u8]))) | omega))
  · obtain ⟨b, eb⟩ : ∃ b, b = anyB (isReady s (s.cur c) c) s.nt := ⟨_, rfl⟩
    refine S_drw rfl [0,1,2,3,4,5,6,7,8,9,10,15,31,38,45,51,62,72,101,112,134,144,163] [.ret (.lit (.bool b))] (by kernel_rfl) rfl (fun K hK => ?_); simp -dsimp -implicitDefEqProofs only [go_sem, eq_self, ↓reduceIte]; (repeat' (first | (refine And.intro ?_ ?_) | (refine gs_both (fun hb => ?_) (fun hb => ?_) <;> (have hg := hb; (try simp only [nfb] at hg); simp -dsimp -implicitDefEqProofs only [go_sem, hb, hg, eq_self, ↓reduceIte]; clear hb; (try simp only [nfe] at hg))))); (any_goals ((first | (refine hK _ _ _ _ (drawA (fun i => i - k)) (fun hx => ?_)) | (refine hK _ _ _ _ drawB (fun hx => ?_))); clear hx hK; simp -dsimp -implicitDefEqProofs only [go_sem, eq_self, ↓reduceIte]; (try simp (disch := omega) only [wrap_i64, wrap_u64, wrap_u32, wrap_u8]))); (all_goals (try omega))
    · rw [eb]; exact ready_ref s (s.cur c) c hnt
    all_goals (repeat' (first | (refine C_seq rfl ?_) | (refine C_block rfl ?_) | (refine C_skip rfl ?_; (try simp -dsimp -implicitDefEqProofs only [go_sem, eq_self, ↓reduceIte])) | (refine C_exit rfl ?_; (try simp -dsimp -implicitDefEqProofs only [go_sem, eq_self, ↓reduceIte])) | (refine C_cond rfl _ rfl (fun ht => ?_) (fun ht => ?_) <;> (try (simp only [nf] at ht)) <;> (try (exfalso; omega))) | ((first | (refine S_reg0 rfl [0,1,2,3,4,5,6,7,8,9,10,15,31,38,45,51,62,72,101,112,134,144,163] rfl rfl (fun K hK => ?_)) | (refine S_drw0 rfl [0,1,2,3,4,5,6,7,8,9,10,15,31,38,45,51,62,72,101,112,134,144,163] rfl (by kernel_rfl) rfl (fun K hK => ?_))); simp -dsimp -implicitDefEqProofs only [go_sem, eq_self, ↓reduceIte]; (repeat' (first | (refine And.intro ?_ ?_) | (refine gs_both (fun hb => ?_) (fun hb => ?_) <;> (have hg := hb; (try simp only [nfb] at hg); simp -dsimp -implicitDefEqProofs only [go_sem, hb, hg, eq_self, ↓reduceIte]; clear hb; (try simp only [nfe] at hg))))); any_goals ((first | (refine hK _ _ _ _ (fun hx => ?_)) | (refine hK _ _ _ _ (drawA (fun i => i - k)) (fun hx => ?_)) | (refine hK _ _ _ _ drawB (fun hx => ?_))); clear hx hK; simp -dsimp -implicitDefEqProofs only [go_sem, eq_self, ↓reduceIte]; (try simp (disch := omega) only [wrap_i64, wrap_u64, wrap_u32, wrap_u8]))) | omega))
    · refine ⟨c + 1, by omega, by omega, ?_⟩
      rw [hsucc7, show curAt s c = [⟨13, (c : Int), 0⟩] by rw [curAt, ← eb, ht, decide_eq_true hg]; rfl]
      simp -dsimp -implicitDefEqProofs only [go_sem, eq_self, ↓reduceIte]
      exact Mv.app (k + 3) (k + 1) ⟨by omega, by omega⟩ ⟨by omega, by omega⟩ (wk_low (by omega) (by simp -dsimp -implicitDefEqProofs only [go_sem, List.map_append, List.map_cons, List.map_nil, Flt.row, eq_self, ↓reduceIte]) (by simp -dsimp -implicitDefEqProofs only [go_sem, List.map_append, List.map_cons, List.map_nil, Flt.row, eq_self, ↓reduceIte]) (by simp -dsimp -implicitDefEqProofs only [go_sem, List.map_append, List.map_cons, List.map_nil, Flt.row, eq_self, ↓reduceIte]) (by simp -dsimp -implicitDefEqProofs only [go_sem, List.map_append, List.map_cons, List.map_nil, Flt.row, eq_self, ↓reduceIte]))
    · refine ⟨c + 1, by omega, by omega, ?_⟩
      rw [hsucc7, show curAt s c = [] by rw [curAt, ← eb, ht, Bool.not_true, Bool.and_false]; rfl, List.append_nil]
      simp -dsimp -implicitDefEqProofs only [go_sem, eq_self, ↓reduceIte]
      exact wkF
    · refine ⟨c + 1, by omega, by omega, ?_⟩
      rw [hsucc7, show curAt s c = [] by rw [curAt, decide_eq_false (fun h => h hg), Bool.false_and]; rfl, List.append_nil]
      simp -dsimp -implicitDefEqProofs only [go_sem, eq_self, ↓reduceIte]
      exact wkF
  · have hcn : c = s.cpus.toNat := by omega
    have hL : l5 = partsL s := by rw [e5, e4, e3, e2, e1, partsL, hcn]; simp
    refine M_racc rfl (id := k + 1) (s := 3) (l := List.map Flt.row l5) 2 (by simp -dsimp -implicitDefEqProofs only [go_sem, List.map_append, List.map_cons, List.map_nil, Flt.row, eq_self, ↓reduceIte]) (by simp -dsimp -implicitDefEqProofs only [go_sem, List.map_append, List.map_cons, List.map_nil, Flt.row, eq_self, ↓reduceIte]) ?_
    exact ⟨_, rfl, by rw [eR, hL]; exact VLe.refl _⟩
end Go.Proofs.T
end

section
set_option linter.unusedVariables false
set_option linter.unusedSimpArgs false
namespace Go.Proofs.T
open Go Go.AM Go.Proofs
set_option linter.unusedSimpArgs false
set_option linter.unusedVariables false
set_option maxRecDepth 4000
variable {Γ : List (Nat × List AVal)}
structure Mem where
  v : Int
  a : Int
  b : Int
def Mem.row (m : Mem) : List AVal := [.lit (.int .u64 m.v), .lit (.int .i64 m.a), .lit (.int .i64 m.b)]
attribute [go_sem] Mem.row
def flatM (f : Nat → List Mem) : Nat → List Mem
  | 0 => []
  | n + 1 => flatM f n ++ f n
theorem flatM_zero {f : Nat → List Mem} : flatM f 0 = [] := rfl
theorem flatM_succ {f : Nat → List Mem} {n : Nat} : flatM f (n + 1) = flatM f n ++ f n := rfl
theorem flatM_len {f : Nat → List Mem} {m : Nat} (h : ∀ i, (f i).length ≤ m) : ∀ n, (flatM f n).length ≤ n * m
  | 0 => by simp [flatM]
  | n + 1 => by have := flatM_len h n; have := h n; simp only [flatM, List.length_append, Nat.add_mul, Nat.one_mul]; omega
def ifM (b : Bool) (m : Mem) : List Mem := if b = true then [m] else []
theorem ifM_len (b : Bool) (m : Mem) : (ifM b m).length ≤ 1 := by unfold ifM; split <;> simp
def inQ (s : St) (g c : Int) (i : Nat) : Bool := (s.tsk i).ready && (decide ((s.tsk i).group = g) && decide ((s.tsk i).cpu = c))
def memT (s : St) (g c i : Nat) : List Mem := ifM (inQ s g c i) ⟨(s.tsk i).v, 0, (s.tsk i).id⟩
def memF (s : St) (c : Nat) : Nat → Nat → List Mem
  | 0, g => flatM (memT s g c) s.nt
  | f + 1, g => flatM (memT s g c) s.nt ++ flatM (fun h => ifM (decide (1 ≤ h ∧ s.par h = (g : Int)) && !(memF s c f h).isEmpty) ⟨(s.sp h c).v, 1, (h : Int)⟩) s.ns
def memS (s : St) (c g : Nat) (sub : Nat → List Mem) (h : Nat) : List Mem := ifM (decide (1 ≤ h ∧ s.par h = (g : Int)) && !(sub h).isEmpty) ⟨(s.sp h c).v, 1, (h : Int)⟩
set_option maxHeartbeats 4000000 in
theorem members_step (s : St) (hs : s.Small) (hp : PartOk s) (c : Nat) (hc : (c : Int) < s.cpus) (g : Nat) (sub : Nat → List Mem)
    (hsub : ∀ h, 1 ≤ h → h < s.ns → s.par h = (g : Int) → Pure Tryz.prog Γ 70 [.agg s.cells, .lit (.int .i64 (h : Int)), .lit (.int .i64 (c : Int))] (rows 3 ((sub h).map Mem.row))) :
    Pure Tryz.prog Γ 70 [.agg s.cells, .lit (.int .i64 (g : Int)), .lit (.int .i64 (c : Int))] (rows 3 ((flatM (memT s g c) s.nt ++ flatM (memS s c g sub) s.ns).map Mem.row)) := by
  obtain ⟨hng, hnk, hnu, hnt, hns, hnsp⟩ := id hs
  obtain ⟨ksp, kng, kns1, kc0, kc1, knu, k12⟩ := id hp
  refine Pure_at Tryz.func70 rfl 84 rfl (Nat.le_of_ble_eq_true rfl) rfl fun k => ?_
  obtain ⟨R, eR⟩ : ∃ R, R = (flatM (memT s g c) s.nt ++ flatM (memS s c g sub) s.ns).map Mem.row := ⟨_, rfl⟩
  rw [← eR]
  (repeat' (first | (refine C_seq rfl ?_) | (refine C_block rfl ?_) | (refine C_skip rfl ?_; (try simp -dsimp -implicitDefEqProofs only [go_sem, eq_self, ↓reduceIte])) | (refine C_exit rfl ?_; (try simp -dsimp -implicitDefEqProofs only [go_sem, eq_self, ↓reduceIte])) | (refine C_cond rfl _ rfl (fun ht => ?_) (fun ht => ?_) <;> (try (simp only [nf] at ht)) <;> (try (exfalso; omega))) | ((first | (refine S_reg0 rfl [0,1,2,3,6,7,8,9,10,15,36,49,68] rfl rfl (fun K hK => ?_)) | (refine S_drw0 rfl [0,1,2,3,6,7,8,9,10,15,36,49,68] rfl (by kernel_rfl) rfl (fun K hK => ?_))); simp -dsimp -implicitDefEqProofs only [go_sem, eq_self, ↓reduceIte]; (repeat' (first | (refine And.intro ?_ ?_) | (refine gs_both (fun hb => ?_) (fun hb => ?_) <;> (have hg := hb; (try simp only [nfb] at hg); simp -dsimp -implicitDefEqProofs only [go_sem, hb, hg, eq_self, ↓reduceIte]; clear hb; (try simp only [nfe] at hg))))); any_goals ((first | (refine hK _ _ _ _ (fun hx => ?_)) | (refine hK _ _ _ _ (drawA (fun i => i - k)) (fun hx => ?_)) | (refine hK _ _ _ _ drawB (fun hx => ?_))); clear hx hK; simp -dsimp -implicitDefEqProofs only [go_sem, eq_self, ↓reduceIte]; (try simp (disch := omega) only [wrap_i64, wrap_u64, wrap_u32, wrap_u8]))) | omega))
  refine M_forO (X := Nat) rfl [0,1,2,3,6,7,8,9,10,15,36,49,68] (k + 2) (fun i => [(8, .lit (.int .i64 (i : Int))), (7, accV (k + 1) ((flatM (memT s g c) i).map Mem.row))]) (fun i => accH (k + 1) 3 ((flatM (memT s g c) i).map Mem.row) [(k, ⟨7, true, [s.cells]⟩)]) (fun i => i ≤ s.nt) (fun i => s.nt - i) 0 ?_ (Nat.zero_le _) ?_
  · rw [flatM_zero, List.map_nil]
    simp -dsimp -implicitDefEqProofs only [go_sem, eq_self, ↓reduceIte]
    exact wkF
  intro i hi
  have hfl := flatM_len (f := memT s g c) (m := 1) (fun i => ifM_len _ _) i
  obtain ⟨l1, e1, h1⟩ : ∃ x, x = flatM (memT s g c) i ∧ x.length ≤ i := ⟨_, rfl, by omega⟩
  rw [← e1]
  have hsucc : flatM (memT s g c) (i + 1) = l1 ++ memT s g c i := by rw [e1]; rfl
  simp -dsimp -implicitDefEqProofs only [go_sem, eq_self, ↓reduceIte]
  (repeat' (first | (refine C_seq rfl ?_) | (refine C_block rfl ?_) | (refine C_skip rfl ?_; (try simp -dsimp -implicitDefEqProofs only [go_sem, eq_self, ↓reduceIte])) | (refine C_exit rfl ?_; (try simp -dsimp -implicitDefEqProofs only [go_sem, eq_self, ↓reduceIte])) | (refine C_cond rfl _ rfl (fun ht => ?_) (fun ht => ?_) <;> (try (simp only [nf] at ht)) <;> (try (exfalso; omega))) | ((first | (refine S_reg0 rfl [0,1,2,3,6,7,8,9,10,15,36,49,68] rfl rfl (fun K hK => ?_)) | (refine S_drw0 rfl [0,1,2,3,6,7,8,9,10,15,36,49,68] rfl (by kernel_rfl) rfl (fun K hK => ?_))); simp -dsimp -implicitDefEqProofs only [go_sem, eq_self, ↓reduceIte]; (repeat' (first | (refine And.intro ?_ ?_) | (refine gs_both (fun hb => ?_) (fun hb => ?_) <;> (have hg := hb; (try simp only [nfb] at hg); simp -dsimp -implicitDefEqProofs only [go_sem, hb, hg, eq_self, ↓reduceIte]; clear hb; (try simp only [nfe] at hg))))); any_goals ((first | (refine hK _ _ _ _ (fun hx => ?_)) | (refine hK _ _ _ _ (drawA (fun i => i - k)) (fun hx => ?_)) | (refine hK _ _ _ _ drawB (fun hx => ?_))); clear hx hK; simp -dsimp -implicitDefEqProofs only [go_sem, eq_self, ↓reduceIte]; (try simp (disch := omega) only [wrap_i64, wrap_u64, wrap_u32, wrap_u8]))) | omega))
  · have hq := ‹(s.tsk i).ready = true›
    refine ⟨i + 1, by omega, by omega, ?_⟩
    rw [hsucc, show memT s g c i = [⟨(s.tsk i).v, 0, (s.tsk i).id⟩] by simp [memT, ifM, inQ, hq, hg, ht]]
    simp -dsimp -implicitDefEqProofs only [go_sem, eq_self, ↓reduceIte]
    exact Mv.app (k + 4) (k + 1) ⟨by omega, by omega⟩ ⟨by omega, by omega⟩ (wk_low (by omega) (by simp -dsimp -implicitDefEqProofs only [go_sem, List.map_append, List.map_cons, List.map_nil, Flt.row, eq_self, ↓reduceIte]) (by simp -dsimp -implicitDefEqProofs only [go_sem, List.map_append, List.map_cons, List.map_nil, Flt.row, eq_self, ↓reduceIte]) (by simp -dsimp -implicitDefEqProofs only [go_sem, List.map_append, List.map_cons, List.map_nil, Flt.row, eq_self, ↓reduceIte]) (by simp -dsimp -implicitDefEqProofs only [go_sem, List.map_append, List.map_cons, List.map_nil, Flt.row, eq_self, ↓reduceIte]))
  · refine ⟨i + 1, by omega, by omega, ?_⟩
    rw [hsucc, show memT s g c i = [] by simp [memT, ifM, inQ, ht], List.append_nil]
    simp -dsimp -implicitDefEqProofs only [go_sem, eq_self, ↓reduceIte]
    exact wkF
  · refine ⟨i + 1, by omega, by omega, ?_⟩
    rw [hsucc, show memT s g c i = [] by simp [memT, ifM, inQ, hg], List.append_nil]
    simp -dsimp -implicitDefEqProofs only [go_sem, eq_self, ↓reduceIte]
    exact wkF
  · refine ⟨i + 1, by omega, by omega, ?_⟩
    rw [hsucc, show memT s g c i = [] by simp [memT, ifM, inQ, hg], List.append_nil]
    simp -dsimp -implicitDefEqProofs only [go_sem, eq_self, ↓reduceIte]
    exact wkF
  have hin : i = s.nt := by omega
  subst hin
  clear hsucc hfl
  refine M_forO (X := Nat) rfl [0,1,2,3,6,7,8,9,10,15,36,49,68] (k + 2) (fun h => [(10, .lit (.int .i64 (h : Int))), (7, accV (k + 1) ((l1 ++ flatM (memS s c g sub) h).map Mem.row))]) (fun h => accH (k + 1) 3 ((l1 ++ flatM (memS s c g sub) h).map Mem.row) [(k, ⟨7, true, [s.cells]⟩)]) (fun h => 1 ≤ h ∧ h ≤ s.ns) (fun h => s.ns - h) 1 ?_ ⟨by omega, by omega⟩ ?_
  · rw [show flatM (memS s c g sub) 1 = [] from by simp [flatM, memS, ifM], List.append_nil]
    simp -dsimp -implicitDefEqProofs only [go_sem, eq_self, ↓reduceIte]
    exact wkF
  rintro h ⟨hh1, hh2⟩
  have hfl := flatM_len (f := memS s c g sub) (m := 1) (fun i => ifM_len _ _) h
  obtain ⟨l2, e2, h2⟩ : ∃ x, x = l1 ++ flatM (memS s c g sub) h ∧ x.length ≤ l1.length + h := ⟨_, rfl, by simp; omega⟩
  rw [← e2]
  have hsucc : l1 ++ flatM (memS s c g sub) (h + 1) = l2 ++ memS s c g sub h := by rw [e2, flatM_succ, List.append_assoc]
  simp -dsimp -implicitDefEqProofs only [go_sem, eq_self, ↓reduceIte]
  (repeat' (first | (refine C_seq rfl ?_) | (refine C_block rfl ?_) | (refine C_skip rfl ?_; (try simp -dsimp -implicitDefEqProofs only [go_sem, eq_self, ↓reduceIte])) | (refine C_exit rfl ?_; (try simp -dsimp -implicitDefEqProofs only [go_sem, eq_self, ↓reduceIte])) | (refine C_cond rfl _ rfl (fun ht => ?_) (fun ht => ?_) <;> (try (simp only [nf] at ht)) <;> (try (exfalso; omega))) | ((first | (refine S_reg0 rfl [0,1,2,3,6,7,8,9,10,15,36,49,68] rfl rfl (fun K hK => ?_)) | (refine S_drw0 rfl [0,1,2,3,6,7,8,9,10,15,36,49,68] rfl (by kernel_rfl) rfl (fun K hK => ?_))); simp -dsimp -implicitDefEqProofs only [go_sem, eq_self, ↓reduceIte]; (repeat' (first | (refine And.intro ?_ ?_) | (refine gs_both (fun hb => ?_) (fun hb => ?_) <;> (have hg := hb; (try simp only [nfb] at hg); simp -dsimp -implicitDefEqProofs only [go_sem, hb, hg, eq_self, ↓reduceIte]; clear hb; (try simp only [nfe] at hg))))); any_goals ((first | (refine hK _ _ _ _ (fun hx => ?_)) | (refine hK _ _ _ _ (drawA (fun i => i - k)) (fun hx => ?_)) | (refine hK _ _ _ _ drawB (fun hx => ?_))); clear hx hK; simp -dsimp -implicitDefEqProofs only [go_sem, eq_self, ↓reduceIte]; (try simp (disch := omega) only [wrap_i64, wrap_u64, wrap_u32, wrap_u8]))) | omega))
  · by_cases hpg : s.par h = (g : Int)
    · have hb : (s.par h == (g : Int)) = true := by simp [hpg]
      have hsp := ksp h (by omega)
      obtain ⟨n, F, eF⟩ : ∃ n F, (.rd 3 n F : AVal) = rows 3 ((sub h).map Mem.row) ∧ n = (sub h).length := ⟨_, _, rfl, by simp⟩
      refine S_reg rfl [0,1,2,3,6,7,8,9,10,15,36,49,68] [.ret (.rd 3 n F)] rfl (fun K hK => ?_); simp -dsimp -implicitDefEqProofs only [go_sem, hb, eq_self, ↓reduceIte]; (repeat' (first | (refine And.intro ?_ ?_) | (refine gs_both (fun hb => ?_) (fun hb => ?_) <;> (have hg := hb; (try simp only [nfb] at hg); simp -dsimp -implicitDefEqProofs only [go_sem, hb, hb, hg, eq_self, ↓reduceIte]; clear hb; (try simp only [nfe] at hg))))); (any_goals ((refine hK _ _ _ _ (fun hx => ?_)); clear hx hK; simp -dsimp -implicitDefEqProofs only [go_sem, hb, eq_self, ↓reduceIte]; (try simp (disch := omega) only [wrap_i64, wrap_u64, wrap_u32, wrap_u8]))); (all_goals (try omega))
      · rw [eF.1]; exact hsub h (by omega) (by omega) hpg
      have hn2 := eF.2
      (repeat' (first | (refine C_seq rfl ?_) | (refine C_block rfl ?_) | (refine C_skip rfl ?_; (try simp -dsimp -implicitDefEqProofs only [go_sem, eq_self, ↓reduceIte])) | (refine C_exit rfl ?_; (try simp -dsimp -implicitDefEqProofs only [go_sem, eq_self, ↓reduceIte])) | (refine C_cond rfl _ rfl (fun ht => ?_) (fun ht => ?_) <;> (try (simp only [nf] at ht)) <;> (try (exfalso; omega))) | ((first | (refine S_reg0 rfl [0,1,2,3,6,7,8,9,10,15,36,49,68] rfl rfl (fun K hK => ?_)) | (refine S_drw0 rfl [0,1,2,3,6,7,8,9,10,15,36,49,68] rfl (by kernel_rfl) rfl (fun K hK => ?_))); simp -dsimp -implicitDefEqProofs only [go_sem, eq_self, ↓reduceIte]; (repeat' (first | (refine And.intro ?_ ?_) | (refine gs_both (fun hb => ?_) (fun hb => ?_) <;> (have hg := hb; (try simp only [nfb] at hg); simp -dsimp -implicitDefEqProofs only [go_sem, hb, hg, eq_self, ↓reduceIte]; clear hb; (try simp only [nfe] at hg))))); any_goals ((first | (refine hK _ _ _ _ (fun hx => ?_)) | (refine hK _ _ _ _ (drawA (fun i => i - k)) (fun hx => ?_)) | (refine hK _ _ _ _ drawB (fun hx => ?_))); clear hx hK; simp -dsimp -implicitDefEqProofs only [go_sem, eq_self, ↓reduceIte]; (try simp (disch := omega) only [wrap_i64, wrap_u64, wrap_u32, wrap_u8]))) | omega))
      · have hne : (sub h).isEmpty = false := by
          cases hq : sub h with
          | nil => rw [hq] at hn2; simp at hn2; omega
          | cons a b => rfl
        refine ⟨h + 1, ⟨by omega, by omega⟩, by omega, ?_⟩
        rw [hsucc, show memS s c g sub h = [⟨(s.sp h c).v, 1, (h : Int)⟩] by rw [memS, ifM, hne, decide_eq_true ⟨by omega, hpg⟩]; rfl]
        simp -dsimp -implicitDefEqProofs only [go_sem, eq_self, ↓reduceIte]
        exact Mv.app (k + 3) (k + 1) ⟨by omega, by omega⟩ ⟨by omega, by omega⟩ (wk_low (by omega) (by simp -dsimp -implicitDefEqProofs only [go_sem, List.map_append, List.map_cons, List.map_nil, Flt.row, eq_self, ↓reduceIte]) (by simp -dsimp -implicitDefEqProofs only [go_sem, List.map_append, List.map_cons, List.map_nil, Flt.row, eq_self, ↓reduceIte]) (by simp -dsimp -implicitDefEqProofs only [go_sem, List.map_append, List.map_cons, List.map_nil, Flt.row, eq_self, ↓reduceIte]) (by simp -dsimp -implicitDefEqProofs only [go_sem, List.map_append, List.map_cons, List.map_nil, Flt.row, eq_self, ↓reduceIte]))
      · have hne : (sub h).isEmpty = true := by
          cases hq : sub h with
          | nil => rfl
          | cons a b => rw [hq] at hn2; simp at hn2; omega
        refine ⟨h + 1, ⟨by omega, by omega⟩, by omega, ?_⟩
        rw [hsucc, show memS s c g sub h = [] by rw [memS, ifM, hne, Bool.not_true, Bool.and_false]; rfl, List.append_nil]
        simp -dsimp -implicitDefEqProofs only [go_sem, eq_self, ↓reduceIte]
        exact wkF
    · have hb : (s.par h == (g : Int)) = false := by simp [hpg]
      refine S_reg rfl [0,1,2,3,6,7,8,9,10,15,36,49,68] [.ret .junk] rfl (fun K hK => ?_); simp -dsimp -implicitDefEqProofs only [go_sem, hb, eq_self, ↓reduceIte]; (repeat' (first | (refine And.intro ?_ ?_) | (refine gs_both (fun hb => ?_) (fun hb => ?_) <;> (have hg := hb; (try simp only [nfb] at hg); simp -dsimp -implicitDefEqProofs only [go_sem, hb, hb, hg, eq_self, ↓reduceIte]; clear hb; (try simp only [nfe] at hg))))); (any_goals ((refine hK _ _ _ _ (fun hx => ?_)); clear hx hK; simp -dsimp -implicitDefEqProofs only [go_sem, hb, eq_self, ↓reduceIte]; (try simp (disch := omega) only [wrap_i64, wrap_u64, wrap_u32, wrap_u8]))); (all_goals (try omega))
      (repeat' (first | (refine C_seq rfl ?_) | (refine C_block rfl ?_) | (refine C_skip rfl ?_; (try simp -dsimp -implicitDefEqProofs only [go_sem, hb, eq_self, ↓reduceIte])) | (refine C_exit rfl ?_; (try simp -dsimp -implicitDefEqProofs only [go_sem, hb, eq_self, ↓reduceIte])) | (refine C_cond rfl _ rfl (fun ht => ?_) (fun ht => ?_) <;> (try (simp only [nf] at ht)) <;> (try (exfalso; omega))) | ((first | (refine S_reg0 rfl [0,1,2,3,6,7,8,9,10,15,36,49,68] rfl rfl (fun K hK => ?_)) | (refine S_drw0 rfl [0,1,2,3,6,7,8,9,10,15,36,49,68] rfl (by kernel_rfl) rfl (fun K hK => ?_))); simp -dsimp -implicitDefEqProofs only [go_sem, hb, eq_self, ↓reduceIte]; (repeat' (first | (refine And.intro ?_ ?_) | (refine gs_both (fun hb => ?_) (fun hb => ?_) <;> (have hg := hb; (try simp only [nfb] at hg); simp -dsimp -implicitDefEqProofs only [go_sem, hb, hb, hg, eq_self, ↓reduceIte]; clear hb; (try simp only [nfe] at hg))))); any_goals ((first | (refine hK _ _ _ _ (fun hx => ?_)) | (refine hK _ _ _ _ (drawOk_names (fun i => i - k) (by simp only [List.map_cons, List.map_nil, shG, hb, ↓reduceIte, Nat.add_sub_cancel_left, Nat.sub_self]; rfl) (by decide +kernel) (by simp -dsimp -implicitDefEqProofs only [go_sem, hb, eq_self, ↓reduceIte])) (fun hx => ?_)) | (refine hK _ _ _ _ (drawOk_of (by kernel_rfl) (by simp -dsimp -implicitDefEqProofs only [go_sem, hb, eq_self, ↓reduceIte])) (fun hx => ?_))); clear hx hK; simp -dsimp -implicitDefEqProofs only [go_sem, hb, eq_self, ↓reduceIte]; (try simp (disch := omega) only [wrap_i64, wrap_u64, wrap_u32, wrap_u8]))) | omega))
      refine ⟨h + 1, ⟨by omega, by omega⟩, by omega, ?_⟩
      rw [hsucc, show memS s c g sub h = [] by simp [memS, ifM, hpg], List.append_nil]
      simp -dsimp -implicitDefEqProofs only [go_sem, hb, eq_self, ↓reduceIte]
      exact Mv.wk (wk_low (by omega) (by simp -dsimp -implicitDefEqProofs only [go_sem, hb, List.map_append, List.map_cons, List.map_nil, Flt.row, eq_self, ↓reduceIte]) (by simp -dsimp -implicitDefEqProofs only [go_sem, hb, List.map_append, List.map_cons, List.map_nil, Flt.row, eq_self, ↓reduceIte]) (by simp -dsimp -implicitDefEqProofs only [go_sem, hb, List.map_append, List.map_cons, List.map_nil, Flt.row, eq_self, ↓reduceIte]) (by simp -dsimp -implicitDefEqProofs only [go_sem, hb, List.map_append, List.map_cons, List.map_nil, Flt.row, eq_self, ↓reduceIte]))
  · have hin : h = s.ns := by omega
    refine M_racc rfl (id := k + 1) (s := 3) (l := List.map Mem.row l2) 6 (by simp -dsimp -implicitDefEqProofs only [go_sem, List.map_append, List.map_cons, List.map_nil, Flt.row, eq_self, ↓reduceIte]) (by simp -dsimp -implicitDefEqProofs only [go_sem, List.map_append, List.map_cons, List.map_nil, Flt.row, eq_self, ↓reduceIte]) ?_
    exact ⟨_, rfl, by rw [eR, e2, e1, hin]; exact VLe.refl _⟩
theorem memF_succ (s : St) (c f g : Nat) : memF s c (f + 1) g = flatM (memT s g c) s.nt ++ flatM (memS s c g (memF s c f)) s.ns := rfl
theorem flatM_nil {f : Nat → List Mem} : ∀ {n : Nat}, (∀ i, i < n → f i = []) → flatM f n = []
  | 0, _ => rfl
  | n + 1, h => by rw [flatM, flatM_nil (fun i hi => h i (by omega)), h n (by omega)]; rfl
theorem members_ref (s : St) (hs : s.Small) (hp : PartOk s) (hpar : ∀ g, 1 ≤ g → g < s.ns → s.par g < g) (c : Nat) (hc : (c : Int) < s.cpus) : ∀ f g, s.ns - g ≤ f →
    Pure Tryz.prog Γ 70 [.agg s.cells, .lit (.int .i64 (g : Int)), .lit (.int .i64 (c : Int))] (rows 3 ((memF s c f g).map Mem.row)) := by
  intro f
  induction f with
  | zero =>
    intro g hg
    have h := members_step (Γ := Γ) s hs hp c hc g (fun _ => []) (fun h h1 h2 h3 => by have := hpar h h1 h2; omega)
    rw [flatM_nil (f := memS s c g (fun _ => [])) (fun i hi => by simp [memS, ifM]), List.append_nil] at h
    exact h
  | succ f ih =>
    intro g hg
    rw [memF_succ]
    exact members_step s hs hp c hc g (memF s c f) (fun h h1 h2 h3 => ih h (by have := hpar h h1 h2; omega))
end Go.Proofs.T
end

section
set_option linter.unusedVariables false
set_option linter.unusedSimpArgs false
namespace Go.Proofs.T
open Go Go.AM Go.Proofs
set_option linter.unusedSimpArgs false
set_option linter.unusedVariables false
set_option maxRecDepth 4000
variable {Γ : List (Nat × List AVal)}
def cntB (f : Nat → Bool) : Nat → Nat
  | 0 => 0
  | n + 1 => cntB f n + (if f n = true then 1 else 0)
theorem cntB_le (f : Nat → Bool) : ∀ n, cntB f n ≤ n
  | 0 => Nat.le_refl _
  | n + 1 => by have := cntB_le f n; simp only [cntB]; split <;> omega
def memV (l : List Mem) (i : Nat) : Int := (l.getD i ⟨0, 0, 0⟩).v
def belowB (s : St) (g c : Nat) (l : List Mem) (i : Nat) : Bool := decide ((s.sp g c).floor < memV l i)
def flrAt (s : St) (g c : Nat) : List Flt := iff1 (decide (0 < (memF s c s.ns g).length ∧ cntB (belowB s g c (memF s c s.ns g)) (memF s c s.ns g).length = (memF s c s.ns g).length)) ⟨14, (g : Int), (c : Int)⟩
def flrR (s : St) (g : Nat) : List Flt := flats (flrAt s g) s.cpus.toNat
def floorsL (s : St) : List Flt := flats (flrR s) s.ns
theorem memF_len (s : St) (c f g : Nat) : (memF s c f g).length ≤ s.nt + s.ns := by
  have h1 := flatM_len (f := memT s g c) (m := 1) (fun i => ifM_len _ _) s.nt
  cases f with
  | zero => rw [memF]; omega
  | succ f =>
    have h2 := flatM_len (f := memS s c g (memF s c f)) (m := 1) (fun i => ifM_len _ _) s.ns
    rw [memF_succ, List.length_append]; omega
set_option maxHeartbeats 4000000 in
theorem floors_ref (s : St) (hs : s.Small) (hp : PartOk s) (hpar : ∀ g, 1 ≤ g → g < s.ns → s.par g < g) : Pure Tryz.prog Γ 49 [.agg s.cells] (rows 3 ((floorsL s).map Flt.row)) := by
  obtain ⟨hng, hnk, hnu, hnt, hns, hnsp⟩ := id hs
  obtain ⟨ksp, kng, kns1, kc0, kc1, knu, k12⟩ := id hp
  refine Pure_at Tryz.func49 rfl 66 rfl (Nat.le_of_ble_eq_true rfl) rfl fun k => ?_
  obtain ⟨R, eR⟩ : ∃ R, R = (floorsL s).map Flt.row := ⟨_, rfl⟩
  rw [← eR]
  (repeat' (first | (refine C_seq rfl ?_) | (refine C_block rfl ?_) | (refine C_skip rfl ?_; (try simp -dsimp -implicitDefEqProofs only [go_sem, eq_self, ↓reduceIte])) | (refine C_exit rfl ?_; (try simp -dsimp -implicitDefEqProofs only [go_sem, eq_self, ↓reduceIte])) | (refine C_cond rfl _ rfl (fun ht => ?_) (fun ht => ?_) <;> (try (simp only [nf] at ht)) <;> (try (exfalso; omega))) | ((first | (refine S_reg0 rfl [0,1,2,3,4,5,6,7,8,13,20,30,47,58] rfl rfl (fun K hK => ?_)) | (refine S_drw0 rfl [0,1,2,3,4,5,6,7,8,13,20,30,47,58] rfl (by kernel_rfl) rfl (fun K hK => ?_))); simp -dsimp -implicitDefEqProofs only [go_sem, eq_self, ↓reduceIte]; (repeat' (first | (refine And.intro ?_ ?_) | (refine gs_both (fun hb => ?_) (fun hb => ?_) <;> (have hg := hb; (try simp only [nfb] at hg); simp -dsimp -implicitDefEqProofs only [go_sem, hb, hg, eq_self, ↓reduceIte]; clear hb; (try simp only [nfe] at hg))))); any_goals ((first | (refine hK _ _ _ _ (fun hx => ?_)) | (refine hK _ _ _ _ (drawA (fun i => i - k)) (fun hx => ?_)) | (refine hK _ _ _ _ drawB (fun hx => ?_))); clear hx hK; simp -dsimp -implicitDefEqProofs only [go_sem, eq_self, ↓reduceIte]; (try simp (disch := omega) only [wrap_i64, wrap_u64, wrap_u32, wrap_u8]))) | omega))
  refine M_forO (X := Nat) rfl [0,1,2,3,4,5,6,7,8,13,20,30,47,58] (k + 2) (fun g => [(4, .lit (.int .i64 (g : Int))), (3, accV (k + 1) ((flats (flrR s) g).map Flt.row))]) (fun g => accH (k + 1) 3 ((flats (flrR s) g).map Flt.row) [(k, ⟨7, true, [s.cells]⟩)]) (fun g => g ≤ s.ns) (fun g => s.ns - g) 0 ?_ (Nat.zero_le _) ?_
  · rw [flats_zero, List.map_nil]
    simp -dsimp -implicitDefEqProofs only [go_sem, eq_self, ↓reduceIte]
    exact wkF
  intro g hg
  have hfl := flats_len (f := flrR s) (m := 64) (fun g => by have := flats_len (f := flrAt s g) (m := 1) (fun i => iff1_len1 _ _) s.cpus.toNat; unfold flrR; omega) g
  obtain ⟨l1, e1, h1⟩ : ∃ x, x = flats (flrR s) g ∧ x.length ≤ g * 64 := ⟨_, rfl, hfl⟩
  rw [← e1]
  have hsucc : flats (flrR s) (g + 1) = l1 ++ flats (flrAt s g) s.cpus.toNat := by rw [e1]; rfl
  simp -dsimp -implicitDefEqProofs only [go_sem, eq_self, ↓reduceIte]
  (repeat' (first | (refine C_seq rfl ?_) | (refine C_block rfl ?_) | (refine C_skip rfl ?_; (try simp -dsimp -implicitDefEqProofs only [go_sem, eq_self, ↓reduceIte])) | (refine C_exit rfl ?_; (try simp -dsimp -implicitDefEqProofs only [go_sem, eq_self, ↓reduceIte])) | (refine C_cond rfl _ rfl (fun ht => ?_) (fun ht => ?_) <;> (try (simp only [nf] at ht)) <;> (try (exfalso; omega))) | ((first | (refine S_reg0 rfl [0,1,2,3,4,5,6,7,8,13,20,30,47,58] rfl rfl (fun K hK => ?_)) | (refine S_drw0 rfl [0,1,2,3,4,5,6,7,8,13,20,30,47,58] rfl (by kernel_rfl) rfl (fun K hK => ?_))); simp -dsimp -implicitDefEqProofs only [go_sem, eq_self, ↓reduceIte]; (repeat' (first | (refine And.intro ?_ ?_) | (refine gs_both (fun hb => ?_) (fun hb => ?_) <;> (have hg := hb; (try simp only [nfb] at hg); simp -dsimp -implicitDefEqProofs only [go_sem, hb, hg, eq_self, ↓reduceIte]; clear hb; (try simp only [nfe] at hg))))); any_goals ((first | (refine hK _ _ _ _ (fun hx => ?_)) | (refine hK _ _ _ _ (drawA (fun i => i - k)) (fun hx => ?_)) | (refine hK _ _ _ _ drawB (fun hx => ?_))); clear hx hK; simp -dsimp -implicitDefEqProofs only [go_sem, eq_self, ↓reduceIte]; (try simp (disch := omega) only [wrap_i64, wrap_u64, wrap_u32, wrap_u8]))) | omega))
  · refine M_forO (X := Nat) rfl [0,1,2,3,4,5,6,7,8,13,20,30,47,58] (k + 2) (fun c => [(5, .lit (.int .i64 (c : Int))), (3, accV (k + 1) ((l1 ++ flats (flrAt s g) c).map Flt.row))]) (fun c => accH (k + 1) 3 ((l1 ++ flats (flrAt s g) c).map Flt.row) [(k, ⟨7, true, [s.cells]⟩)]) (fun c => c ≤ s.cpus.toNat) (fun c => s.cpus.toNat - c) 0 ?_ (Nat.zero_le _) ?_
    · rw [flats_zero, List.append_nil]
      simp -dsimp -implicitDefEqProofs only [go_sem, eq_self, ↓reduceIte]
      exact wkF
    intro c hc
    have hfc := flats_len (f := flrAt s g) (m := 1) (fun i => iff1_len1 _ _) c
    obtain ⟨l2, e2, h2⟩ : ∃ x, x = l1 ++ flats (flrAt s g) c ∧ x.length ≤ l1.length + c := ⟨_, rfl, by simp; omega⟩
    rw [← e2]
    have hsucc2 : l1 ++ flats (flrAt s g) (c + 1) = l2 ++ flrAt s g c := by rw [e2, flats_succ, List.append_assoc]
    simp -dsimp -implicitDefEqProofs only [go_sem, eq_self, ↓reduceIte]
    (repeat' (first | (refine C_seq rfl ?_) | (refine C_block rfl ?_) | (refine C_skip rfl ?_; (try simp -dsimp -implicitDefEqProofs only [go_sem, eq_self, ↓reduceIte])) | (refine C_exit rfl ?_; (try simp -dsimp -implicitDefEqProofs only [go_sem, eq_self, ↓reduceIte])) | (refine C_cond rfl _ rfl (fun ht => ?_) (fun ht => ?_) <;> (try (simp only [nf] at ht)) <;> (try (exfalso; omega))) | ((first | (refine S_reg0 rfl [0,1,2,3,4,5,6,7,8,13,20,30,47,58] rfl rfl (fun K hK => ?_)) | (refine S_drw0 rfl [0,1,2,3,4,5,6,7,8,13,20,30,47,58] rfl (by kernel_rfl) rfl (fun K hK => ?_))); simp -dsimp -implicitDefEqProofs only [go_sem, eq_self, ↓reduceIte]; (repeat' (first | (refine And.intro ?_ ?_) | (refine gs_both (fun hb => ?_) (fun hb => ?_) <;> (have hg := hb; (try simp only [nfb] at hg); simp -dsimp -implicitDefEqProofs only [go_sem, hb, hg, eq_self, ↓reduceIte]; clear hb; (try simp only [nfe] at hg))))); any_goals ((first | (refine hK _ _ _ _ (fun hx => ?_)) | (refine hK _ _ _ _ (drawA (fun i => i - k)) (fun hx => ?_)) | (refine hK _ _ _ _ drawB (fun hx => ?_))); clear hx hK; simp -dsimp -implicitDefEqProofs only [go_sem, eq_self, ↓reduceIte]; (try simp (disch := omega) only [wrap_i64, wrap_u64, wrap_u32, wrap_u8]))) | omega))
    · obtain ⟨ml, em⟩ : ∃ ml, ml = memF s c s.ns g := ⟨_, rfl⟩
      refine S_reg rfl [0,1,2,3,4,5,6,7,8,13,20,30,47,58] [.ret (.rd 3 ml.length (fun j => (ml.map Mem.row).getD j []))] rfl (fun K hK => ?_); simp -dsimp -implicitDefEqProofs only [go_sem, eq_self, ↓reduceIte]; (repeat' (first | (refine And.intro ?_ ?_) | (refine gs_both (fun hb => ?_) (fun hb => ?_) <;> (have hg := hb; (try simp only [nfb] at hg); simp -dsimp -implicitDefEqProofs only [go_sem, hb, hg, eq_self, ↓reduceIte]; clear hb; (try simp only [nfe] at hg))))); (any_goals ((refine hK _ _ _ _ (fun hx => ?_)); clear hx hK; simp -dsimp -implicitDefEqProofs only [go_sem, eq_self, ↓reduceIte]; (try simp (disch := omega) only [wrap_i64, wrap_u64, wrap_u32, wrap_u8]))); (all_goals (try omega))
      · have h := members_ref (Γ := Γ) s hs hp hpar c (by omega) s.ns g (by omega)
        rw [← em, rows, List.length_map] at h
        exact h
      (repeat' (first | (refine C_seq rfl ?_) | (refine C_block rfl ?_) | (refine C_skip rfl ?_; (try simp -dsimp -implicitDefEqProofs only [go_sem, eq_self, ↓reduceIte])) | (refine C_exit rfl ?_; (try simp -dsimp -implicitDefEqProofs only [go_sem, eq_self, ↓reduceIte])) | (refine C_cond rfl _ rfl (fun ht => ?_) (fun ht => ?_) <;> (try (simp only [nf] at ht)) <;> (try (exfalso; omega))) | ((first | (refine S_reg0 rfl [0,1,2,3,4,5,6,7,8,13,20,30,47,58] rfl rfl (fun K hK => ?_)) | (refine S_drw0 rfl [0,1,2,3,4,5,6,7,8,13,20,30,47,58] rfl (by kernel_rfl) rfl (fun K hK => ?_))); simp -dsimp -implicitDefEqProofs only [go_sem, eq_self, ↓reduceIte]; (repeat' (first | (refine And.intro ?_ ?_) | (refine gs_both (fun hb => ?_) (fun hb => ?_) <;> (have hg := hb; (try simp only [nfb] at hg); simp -dsimp -implicitDefEqProofs only [go_sem, hb, hg, eq_self, ↓reduceIte]; clear hb; (try simp only [nfe] at hg))))); any_goals ((first | (refine hK _ _ _ _ (fun hx => ?_)) | (refine hK _ _ _ _ (drawA (fun i => i - k)) (fun hx => ?_)) | (refine hK _ _ _ _ drawB (fun hx => ?_))); clear hx hK; simp -dsimp -implicitDefEqProofs only [go_sem, eq_self, ↓reduceIte]; (try simp (disch := omega) only [wrap_i64, wrap_u64, wrap_u32, wrap_u8]))) | omega))
      have hml : ml.length ≤ 2000 := by rw [em]; have := memF_len s c s.ns g; omega
      have hspg := ksp g (by omega)
      have hcnt := cntB_le (belowB s g c ml)
      have hat : flrAt s g c = iff1 (decide (0 < ml.length ∧ cntB (belowB s g c ml) ml.length = ml.length)) ⟨14, (g : Int), (c : Int)⟩ := by rw [em]; rfl
      refine M_forO (X := Nat) rfl [0,1,2,3,4,5,6,7,8,13,20,30,47,58] (k + 2) (fun i => [(8, .lit (.int .i64 (i : Int))), (7, .lit (.int .i64 ((cntB (belowB s g c ml) i : Nat) : Int)))]) (fun i => accH (k + 1) 3 (l2.map Flt.row) [(k, ⟨7, true, [s.cells]⟩)]) (fun i => i ≤ ml.length) (fun i => ml.length - i) 0 ?_ (Nat.zero_le _) ?_
      · rw [cntB]
        simp -dsimp -implicitDefEqProofs only [go_sem, eq_self, ↓reduceIte]
        exact wkF
      intro i hi
      have hci := hcnt i
      have hstep : cntB (belowB s g c ml) (i + 1) = cntB (belowB s g c ml) i + (if belowB s g c ml i = true then 1 else 0) := rfl
      obtain ⟨n, en⟩ : ∃ n, n = cntB (belowB s g c ml) i := ⟨_, rfl⟩
      rw [← en]
      rw [← en] at hci hstep
      simp -dsimp -implicitDefEqProofs only [go_sem, eq_self, ↓reduceIte]
      by_cases hlt : i < ml.length
      · have hr : (ml.map Mem.row).getD i [] = Mem.row (ml.getD i ⟨0, 0, 0⟩) := by
          simp [List.getD_eq_getElem?_getD, List.getElem?_map, List.getElem?_eq_getElem hlt]
        (repeat' (first | (refine C_seq rfl ?_) | (refine C_block rfl ?_) | (refine C_skip rfl ?_; (try simp -dsimp -implicitDefEqProofs only [go_sem, hr, Mem.row, eq_self, ↓reduceIte])) | (refine C_exit rfl ?_; (try simp -dsimp -implicitDefEqProofs only [go_sem, hr, Mem.row, eq_self, ↓reduceIte])) | (refine C_cond rfl _ rfl (fun ht => ?_) (fun ht => ?_) <;> (try (simp only [nf] at ht)) <;> (try (exfalso; omega))) | ((first | (refine S_reg0 rfl [0,1,2,3,4,5,6,7,8,13,20,30,47,58] rfl rfl (fun K hK => ?_)) | (refine S_drw0 rfl [0,1,2,3,4,5,6,7,8,13,20,30,47,58] rfl (by kernel_rfl) rfl (fun K hK => ?_))); simp -dsimp -implicitDefEqProofs only [go_sem, hr, Mem.row, eq_self, ↓reduceIte]; (repeat' (first | (refine And.intro ?_ ?_) | (refine gs_both (fun hb => ?_) (fun hb => ?_) <;> (have hg := hb; (try simp only [nfb] at hg); simp -dsimp -implicitDefEqProofs only [go_sem, hr, Mem.row, hb, hg, eq_self, ↓reduceIte]; clear hb; (try simp only [nfe] at hg))))); any_goals ((first | (refine hK _ _ _ _ (fun hx => ?_)) | (refine hK _ _ _ _ (drawOk_names (fun i => i - k) (by simp only [List.map_cons, List.map_nil, shG, hr, Mem.row, ↓reduceIte, Nat.add_sub_cancel_left, Nat.sub_self]; rfl) (by decide +kernel) (by simp -dsimp -implicitDefEqProofs only [go_sem, hr, Mem.row, eq_self, ↓reduceIte])) (fun hx => ?_)) | (refine hK _ _ _ _ (drawOk_of (by kernel_rfl) (by simp -dsimp -implicitDefEqProofs only [go_sem, hr, Mem.row, eq_self, ↓reduceIte])) (fun hx => ?_))); clear hx hK; simp -dsimp -implicitDefEqProofs only [go_sem, hr, Mem.row, eq_self, ↓reduceIte]; (try simp (disch := omega) only [wrap_i64, wrap_u64, wrap_u32, wrap_u8]))) | omega))
        · refine ⟨i + 1, by omega, by omega, ?_⟩
          rw [hstep, if_pos (by rw [belowB, memV]; exact decide_eq_true ht)]
          simp -dsimp -implicitDefEqProofs only [go_sem, hr, Mem.row, eq_self, ↓reduceIte]
          exact Mv.wk (wk_low (by omega) (by simp -dsimp -implicitDefEqProofs only [go_sem, hr, Mem.row, List.map_append, List.map_cons, List.map_nil, Flt.row, eq_self, ↓reduceIte]) (by simp -dsimp -implicitDefEqProofs only [go_sem, hr, Mem.row, List.map_append, List.map_cons, List.map_nil, Flt.row, eq_self, ↓reduceIte]) (by simp -dsimp -implicitDefEqProofs only [go_sem, hr, Mem.row, List.map_append, List.map_cons, List.map_nil, Flt.row, eq_self, ↓reduceIte]) (by simp -dsimp -implicitDefEqProofs only [go_sem, hr, Mem.row, List.map_append, List.map_cons, List.map_nil, Flt.row, eq_self, ↓reduceIte]))
        · refine ⟨i + 1, by omega, by omega, ?_⟩
          rw [hstep, if_neg (by rw [belowB, memV]; simp only [decide_eq_true_eq]; omega)]
          simp -dsimp -implicitDefEqProofs only [go_sem, hr, Mem.row, eq_self, ↓reduceIte]
          exact Mv.wk (wk_low (by omega) (by simp -dsimp -implicitDefEqProofs only [go_sem, hr, Mem.row, List.map_append, List.map_cons, List.map_nil, Flt.row, eq_self, ↓reduceIte]) (by simp -dsimp -implicitDefEqProofs only [go_sem, hr, Mem.row, List.map_append, List.map_cons, List.map_nil, Flt.row, eq_self, ↓reduceIte]) (by simp -dsimp -implicitDefEqProofs only [go_sem, hr, Mem.row, List.map_append, List.map_cons, List.map_nil, Flt.row, eq_self, ↓reduceIte]) (by simp -dsimp -implicitDefEqProofs only [go_sem, hr, Mem.row, List.map_append, List.map_cons, List.map_nil, Flt.row, eq_self, ↓reduceIte]))
      · have hin : i = ml.length := by omega
        rw [hin] at en
        (repeat' (first | (refine C_seq rfl ?_) | (refine C_block rfl ?_) | (refine C_skip rfl ?_; (try simp -dsimp -implicitDefEqProofs only [go_sem, eq_self, ↓reduceIte])) | (refine C_exit rfl ?_; (try simp -dsimp -implicitDefEqProofs only [go_sem, eq_self, ↓reduceIte])) | (refine C_cond rfl _ rfl (fun ht => ?_) (fun ht => ?_) <;> (try (simp only [nf] at ht)) <;> (try (exfalso; omega))) | ((first | (refine S_reg0 rfl [0,1,2,3,4,5,6,7,8,13,20,30,47,58] rfl rfl (fun K hK => ?_)) | (refine S_drw0 rfl [0,1,2,3,4,5,6,7,8,13,20,30,47,58] rfl (by kernel_rfl) rfl (fun K hK => ?_))); simp -dsimp -implicitDefEqProofs only [go_sem, eq_self, ↓reduceIte]; (repeat' (first | (refine And.intro ?_ ?_) | (refine gs_both (fun hb => ?_) (fun hb => ?_) <;> (have hg := hb; (try simp only [nfb] at hg); simp -dsimp -implicitDefEqProofs only [go_sem, hb, hg, eq_self, ↓reduceIte]; clear hb; (try simp only [nfe] at hg))))); any_goals ((first | (refine hK _ _ _ _ (fun hx => ?_)) | (refine hK _ _ _ _ (drawA (fun i => i - k)) (fun hx => ?_)) | (refine hK _ _ _ _ drawB (fun hx => ?_))); clear hx hK; simp -dsimp -implicitDefEqProofs only [go_sem, eq_self, ↓reduceIte]; (try simp (disch := omega) only [wrap_i64, wrap_u64, wrap_u32, wrap_u8]))) | omega))
        · refine ⟨c + 1, by omega, by omega, ?_⟩
          rw [hsucc2, show flrAt s g c = [⟨14, (g : Int), (c : Int)⟩] by rw [hat, decide_eq_true ⟨by omega, by omega⟩]; rfl]
          simp -dsimp -implicitDefEqProofs only [go_sem, eq_self, ↓reduceIte]
          exact Mv.app (k + 3) (k + 1) ⟨by omega, by omega⟩ ⟨by omega, by omega⟩ (wk_low (by omega) (by simp -dsimp -implicitDefEqProofs only [go_sem, List.map_append, List.map_cons, List.map_nil, Flt.row, eq_self, ↓reduceIte]) (by simp -dsimp -implicitDefEqProofs only [go_sem, List.map_append, List.map_cons, List.map_nil, Flt.row, eq_self, ↓reduceIte]) (by simp -dsimp -implicitDefEqProofs only [go_sem, List.map_append, List.map_cons, List.map_nil, Flt.row, eq_self, ↓reduceIte]) (by simp -dsimp -implicitDefEqProofs only [go_sem, List.map_append, List.map_cons, List.map_nil, Flt.row, eq_self, ↓reduceIte]))
        · refine ⟨c + 1, by omega, by omega, ?_⟩
          rw [hsucc2, show flrAt s g c = [] by rw [hat, decide_eq_false (fun h => by have h1 := h.1; have h2 := h.2; omega)]; rfl, List.append_nil]
          simp -dsimp -implicitDefEqProofs only [go_sem, eq_self, ↓reduceIte]
          exact wkF
        · refine ⟨c + 1, by omega, by omega, ?_⟩
          rw [hsucc2, show flrAt s g c = [] by rw [hat, decide_eq_false (fun h => by have h1 := h.1; have h2 := h.2; omega)]; rfl, List.append_nil]
          simp -dsimp -implicitDefEqProofs only [go_sem, eq_self, ↓reduceIte]
          exact wkF
    · have hin : c = s.cpus.toNat := by omega
      refine ⟨g + 1, by omega, by omega, ?_⟩
      rw [hsucc, ← hin, ← e2]
      (try (simp -dsimp -implicitDefEqProofs only [go_sem, eq_self, ↓reduceIte]))
      exact wkF
  · have hgn : g = s.ns := by omega
    refine M_racc rfl (id := k + 1) (s := 3) (l := List.map Flt.row l1) 2 (by simp -dsimp -implicitDefEqProofs only [go_sem, List.map_append, List.map_cons, List.map_nil, Flt.row, eq_self, ↓reduceIte]) (by simp -dsimp -implicitDefEqProofs only [go_sem, List.map_append, List.map_cons, List.map_nil, Flt.row, eq_self, ↓reduceIte]) ?_
    exact ⟨_, rfl, by rw [eR, e1, hgn]; exact VLe.refl _⟩
end Go.Proofs.T
end

section
set_option linter.unusedVariables false
set_option linter.unusedSimpArgs false
namespace Go.Proofs.T
open Go Go.AM Go.Proofs
set_option linter.unusedSimpArgs false
set_option linter.unusedVariables false
set_option maxRecDepth 4000
variable {Γ : List (Nat × List AVal)}
def checkR (s : St) : List Flt := if refCfg s = false then [⟨1, 0, 0⟩] else if 0 < (shapesL s).length then shapesL s else if 0 < (partsL s).length then partsL s else floorsL s
theorem check_ref (s : St) (hs : s.Small) (hw : Wf s) (hok : refCfg s = true → (shapesL s).length = 0 → PartOk s ∧ ∀ g, 1 ≤ g → g < s.ns → s.par g < g) : Pure Tryz.prog Γ 26 [.agg s.cells] (rows 3 ((checkR s).map Flt.row)) := by
  obtain ⟨hng, hnk, hnu, hnt, hns, hnsp⟩ := id hs
  refine Pure_at Tryz.func26 rfl 25 rfl (Nat.le_of_ble_eq_true rfl) rfl fun k => ?_
  obtain ⟨R, eR⟩ : ∃ R, R = (checkR s).map Flt.row := ⟨_, rfl⟩
  rw [← eR]
  (repeat' (first | (refine C_seq rfl ?_) | (refine C_block rfl ?_) | (refine C_skip rfl ?_; (try simp -dsimp -implicitDefEqProofs only [go_sem, eq_self, ↓reduceIte])) | (refine C_exit rfl ?_; (try simp -dsimp -implicitDefEqProofs only [go_sem, eq_self, ↓reduceIte])) | (refine C_cond rfl _ rfl (fun ht => ?_) (fun ht => ?_) <;> (try (simp only [nf] at ht)) <;> (try (exfalso; omega))) | ((first | (refine S_reg0 rfl [0,1,2,3,4,8,15,21] rfl rfl (fun K hK => ?_)) | (refine S_drw0 rfl [0,1,2,3,4,8,15,21] rfl (by kernel_rfl) rfl (fun K hK => ?_))); simp -dsimp -implicitDefEqProofs only [go_sem, eq_self, ↓reduceIte]; (repeat' (first | (refine And.intro ?_ ?_) | (refine gs_both (fun hb => ?_) (fun hb => ?_) <;> (have hg := hb; (try simp only [nfb] at hg); simp -dsimp -implicitDefEqProofs only [go_sem, hb, hg, eq_self, ↓reduceIte]; clear hb; (try simp only [nfe] at hg))))); any_goals ((first | (refine hK _ _ _ _ (fun hx => ?_)) | (refine hK _ _ _ _ (drawA (fun i => i - k)) (fun hx => ?_)) | (refine hK _ _ _ _ drawB (fun hx => ?_))); clear hx hK; simp -dsimp -implicitDefEqProofs only [go_sem, eq_self, ↓reduceIte]; (try simp (disch := omega) only [wrap_i64, wrap_u64, wrap_u32, wrap_u8]))) | omega))
  refine S_reg rfl [0,1,2,3,4,8,15,21] [.ret (.lit (.bool (refCfg s)))] rfl (fun K hK => ?_); simp -dsimp -implicitDefEqProofs only [go_sem, eq_self, ↓reduceIte]; (repeat' (first | (refine And.intro ?_ ?_) | (refine gs_both (fun hb => ?_) (fun hb => ?_) <;> (have hg := hb; (try simp only [nfb] at hg); simp -dsimp -implicitDefEqProofs only [go_sem, hb, hg, eq_self, ↓reduceIte]; clear hb; (try simp only [nfe] at hg))))); (any_goals ((refine hK _ _ _ _ (fun hx => ?_)); clear hx hK; simp -dsimp -implicitDefEqProofs only [go_sem, eq_self, ↓reduceIte]; (try simp (disch := omega) only [wrap_i64, wrap_u64, wrap_u32, wrap_u8]))); (all_goals (try omega))
  · exact rightConfig_ref s
  (repeat' (first | (refine C_seq rfl ?_) | (refine C_block rfl ?_) | (refine C_skip rfl ?_; (try simp -dsimp -implicitDefEqProofs only [go_sem, eq_self, ↓reduceIte])) | (refine C_exit rfl ?_; (try simp -dsimp -implicitDefEqProofs only [go_sem, eq_self, ↓reduceIte])) | (refine C_cond rfl _ rfl (fun ht => ?_) (fun ht => ?_) <;> (try (simp only [nf] at ht)) <;> (try (exfalso; omega))) | ((first | (refine S_reg0 rfl [0,1,2,3,4,8,15,21] rfl rfl (fun K hK => ?_)) | (refine S_drw0 rfl [0,1,2,3,4,8,15,21] rfl (by kernel_rfl) rfl (fun K hK => ?_))); simp -dsimp -implicitDefEqProofs only [go_sem, eq_self, ↓reduceIte]; (repeat' (first | (refine And.intro ?_ ?_) | (refine gs_both (fun hb => ?_) (fun hb => ?_) <;> (have hg := hb; (try simp only [nfb] at hg); simp -dsimp -implicitDefEqProofs only [go_sem, hb, hg, eq_self, ↓reduceIte]; clear hb; (try simp only [nfe] at hg))))); any_goals ((first | (refine hK _ _ _ _ (fun hx => ?_)) | (refine hK _ _ _ _ (drawA (fun i => i - k)) (fun hx => ?_)) | (refine hK _ _ _ _ drawB (fun hx => ?_))); clear hx hK; simp -dsimp -implicitDefEqProofs only [go_sem, eq_self, ↓reduceIte]; (try simp (disch := omega) only [wrap_i64, wrap_u64, wrap_u32, wrap_u8]))) | omega))
  · refine M_ret rfl (Mv.frz_acc (id := k + 1) (s := 3) (l := [Flt.row ⟨1, 0, 0⟩]) 2 (by simp -dsimp -implicitDefEqProofs only [go_sem, List.map_append, List.map_cons, List.map_nil, Flt.row, eq_self, ↓reduceIte]) (by simp -dsimp -implicitDefEqProofs only [go_sem, List.map_append, List.map_cons, List.map_nil, Flt.row, eq_self, ↓reduceIte])) ⟨_, rfl, ?_⟩
    rw [eR, checkR, if_pos ht]
    exact VLe.refl _
  have hcfg := ht
  refine S_reg rfl [0,1,2,3,4,8,15,21] [.ret (.rd 3 (shapesL s).length (fun j => ((shapesL s).map Flt.row).getD j []))] rfl (fun K hK => ?_); simp -dsimp -implicitDefEqProofs only [go_sem, eq_self, ↓reduceIte]; (repeat' (first | (refine And.intro ?_ ?_) | (refine gs_both (fun hb => ?_) (fun hb => ?_) <;> (have hg := hb; (try simp only [nfb] at hg); simp -dsimp -implicitDefEqProofs only [go_sem, hb, hg, eq_self, ↓reduceIte]; clear hb; (try simp only [nfe] at hg))))); (any_goals ((refine hK _ _ _ _ (fun hx => ?_)); clear hx hK; simp -dsimp -implicitDefEqProofs only [go_sem, eq_self, ↓reduceIte]; (try simp (disch := omega) only [wrap_i64, wrap_u64, wrap_u32, wrap_u8]))); (all_goals (try omega))
  · have h := shapes_ref (Γ := Γ) s hns
    rw [rows, List.length_map] at h
    exact h
  (repeat' (first | (refine C_seq rfl ?_) | (refine C_block rfl ?_) | (refine C_skip rfl ?_; (try simp -dsimp -implicitDefEqProofs only [go_sem, eq_self, ↓reduceIte])) | (refine C_exit rfl ?_; (try simp -dsimp -implicitDefEqProofs only [go_sem, eq_self, ↓reduceIte])) | (refine C_cond rfl _ rfl (fun ht => ?_) (fun ht => ?_) <;> (try (simp only [nf] at ht)) <;> (try (exfalso; omega))) | ((first | (refine S_reg0 rfl [0,1,2,3,4,8,15,21] rfl rfl (fun K hK => ?_)) | (refine S_drw0 rfl [0,1,2,3,4,8,15,21] rfl (by kernel_rfl) rfl (fun K hK => ?_))); simp -dsimp -implicitDefEqProofs only [go_sem, eq_self, ↓reduceIte]; (repeat' (first | (refine And.intro ?_ ?_) | (refine gs_both (fun hb => ?_) (fun hb => ?_) <;> (have hg := hb; (try simp only [nfb] at hg); simp -dsimp -implicitDefEqProofs only [go_sem, hb, hg, eq_self, ↓reduceIte]; clear hb; (try simp only [nfe] at hg))))); any_goals ((first | (refine hK _ _ _ _ (fun hx => ?_)) | (refine hK _ _ _ _ (drawA (fun i => i - k)) (fun hx => ?_)) | (refine hK _ _ _ _ drawB (fun hx => ?_))); clear hx hK; simp -dsimp -implicitDefEqProofs only [go_sem, eq_self, ↓reduceIte]; (try simp (disch := omega) only [wrap_i64, wrap_u64, wrap_u32, wrap_u8]))) | omega))
  · refine C_ret rfl ⟨_, rfl, ?_⟩
    rw [eR, checkR, if_neg (by rw [hcfg]; simp), if_pos (by omega), rows, List.length_map]
    exact VLe.refl _
  have hsh : (shapesL s).length = 0 := by omega
  obtain ⟨hp, hpar⟩ := hok hcfg hsh
  refine S_reg rfl [0,1,2,3,4,8,15,21] [.ret (.rd 3 (partsL s).length (fun j => ((partsL s).map Flt.row).getD j []))] rfl (fun K hK => ?_); simp -dsimp -implicitDefEqProofs only [go_sem, eq_self, ↓reduceIte]; (repeat' (first | (refine And.intro ?_ ?_) | (refine gs_both (fun hb => ?_) (fun hb => ?_) <;> (have hg := hb; (try simp only [nfb] at hg); simp -dsimp -implicitDefEqProofs only [go_sem, hb, hg, eq_self, ↓reduceIte]; clear hb; (try simp only [nfe] at hg))))); (any_goals ((refine hK _ _ _ _ (fun hx => ?_)); clear hx hK; simp -dsimp -implicitDefEqProofs only [go_sem, eq_self, ↓reduceIte]; (try simp (disch := omega) only [wrap_i64, wrap_u64, wrap_u32, wrap_u8]))); (all_goals (try omega))
  · have h := parts_ref (Γ := Γ) s hs hw hp
    rw [rows, List.length_map] at h
    exact h
  (repeat' (first | (refine C_seq rfl ?_) | (refine C_block rfl ?_) | (refine C_skip rfl ?_; (try simp -dsimp -implicitDefEqProofs only [go_sem, eq_self, ↓reduceIte])) | (refine C_exit rfl ?_; (try simp -dsimp -implicitDefEqProofs only [go_sem, eq_self, ↓reduceIte])) | (refine C_cond rfl _ rfl (fun ht => ?_) (fun ht => ?_) <;> (try (simp only [nf] at ht)) <;> (try (exfalso; omega))) | ((first | (refine S_reg0 rfl [0,1,2,3,4,8,15,21] rfl rfl (fun K hK => ?_)) | (refine S_drw0 rfl [0,1,2,3,4,8,15,21] rfl (by kernel_rfl) rfl (fun K hK => ?_))); simp -dsimp -implicitDefEqProofs only [go_sem, eq_self, ↓reduceIte]; (repeat' (first | (refine And.intro ?_ ?_) | (refine gs_both (fun hb => ?_) (fun hb => ?_) <;> (have hg := hb; (try simp only [nfb] at hg); simp -dsimp -implicitDefEqProofs only [go_sem, hb, hg, eq_self, ↓reduceIte]; clear hb; (try simp only [nfe] at hg))))); any_goals ((first | (refine hK _ _ _ _ (fun hx => ?_)) | (refine hK _ _ _ _ (drawA (fun i => i - k)) (fun hx => ?_)) | (refine hK _ _ _ _ drawB (fun hx => ?_))); clear hx hK; simp -dsimp -implicitDefEqProofs only [go_sem, eq_self, ↓reduceIte]; (try simp (disch := omega) only [wrap_i64, wrap_u64, wrap_u32, wrap_u8]))) | omega))
  · refine C_ret rfl ⟨_, rfl, ?_⟩
    rw [eR, checkR, if_neg (by rw [hcfg]; simp), if_neg (by omega), if_pos (by omega), rows, List.length_map]
    exact VLe.refl _
  refine S_reg rfl [0,1,2,3,4,8,15,21] [.ret (rows 3 ((floorsL s).map Flt.row))] rfl (fun K hK => ?_); simp -dsimp -implicitDefEqProofs only [go_sem, eq_self, ↓reduceIte]; (repeat' (first | (refine And.intro ?_ ?_) | (refine gs_both (fun hb => ?_) (fun hb => ?_) <;> (have hg := hb; (try simp only [nfb] at hg); simp -dsimp -implicitDefEqProofs only [go_sem, hb, hg, eq_self, ↓reduceIte]; clear hb; (try simp only [nfe] at hg))))); (any_goals ((refine hK _ _ _ _ (fun hx => ?_)); clear hx hK; simp -dsimp -implicitDefEqProofs only [go_sem, eq_self, ↓reduceIte]; (try simp (disch := omega) only [wrap_i64, wrap_u64, wrap_u32, wrap_u8]))); (all_goals (try omega))
  · exact floors_ref s hs hp hpar
  refine C_ret rfl ⟨_, rfl, ?_⟩
  rw [eR, checkR, if_neg (by rw [hcfg]; simp), if_neg (by omega), if_neg (by omega)]
  exact VLe.refl _
end Go.Proofs.T
end

section
set_option linter.unusedVariables false
set_option linter.unusedSimpArgs false
namespace Go.Proofs.T
open Go Go.AM Go.Proofs
set_option linter.unusedSimpArgs false
set_option linter.unusedVariables false
variable {Γ : List (Nat × List AVal)}
theorem flats_nil {f : Nat → List Flt} : ∀ {n : Nat}, (flats f n).length = 0 → ∀ i, i < n → f i = []
  | 0, _, i, h => by omega
  | n + 1, h, i, hi => by
    simp only [flats, List.length_append] at h
    by_cases he : i = n
    · subst he; exact List.eq_nil_of_length_eq_zero (by omega)
    · exact flats_nil (n := n) (by omega) i (by omega)
theorem shapes_nil {s : St} (h : (shapesL s).length = 0) : (s.nk : Int) = s.cpus ∧ (s.nu : Int) = s.cpus ∧ s.ns = s.ng ∧ ∀ g, g < s.ns → (s.nsp g : Int) = s.cpus := by
  unfold shapesL at h
  simp only [List.length_append] at h
  have h1 : (s.nk : Int) = s.cpus := by
    by_cases hc : (s.nk : Int) = s.cpus
    · exact hc
    · rw [if_pos hc] at h; simp at h
  have h2 : (s.nu : Int) = s.cpus := by
    by_cases hc : (s.nu : Int) = s.cpus
    · exact hc
    · rw [if_pos hc] at h; simp at h
  have h3 : s.ns = s.ng := by
    by_cases hc : s.ns = s.ng
    · exact hc
    · rw [if_pos hc] at h; simp at h
  refine ⟨h1, h2, h3, fun g hg => ?_⟩
  rw [if_neg (show ¬ s.ns ≠ s.ng from fun hh => hh h3)] at h
  have := flats_nil (f := shapeAt s) (by omega) g hg
  unfold shapeAt at this
  split at this
  · assumption
  · cases this
theorem rdep_par {par : Nat → Int} {g : Nat} (hg : 1 ≤ g) (h : rdep par 5 g 0 ≤ 4) : 0 ≤ par g ∧ par g < g := by
  rw [rdep, if_neg (by omega)] at h
  by_cases hc : par g < 0 ∨ (g : Int) ≤ par g
  · rw [if_pos hc] at h; omega
  · omega
theorem refCfg_spec {s : St} (h : refCfg s = true) : (1 ≤ s.cpus ∧ s.cpus ≤ 64 ∧ s.credit ≤ 1099511627776 ∧ 1 ≤ s.ng ∧ s.ng ≤ 256 ∧ s.par 0 = 0 ∧ s.wt 0 = 1) ∧ ∀ g, 1 ≤ g → g < s.ng → okR s g = true := by
  simp only [refCfg, Bool.and_eq_true, decide_eq_true_eq, Option.isNone_iff_eq_none] at h
  exact ⟨h.1, fb_none_iff.1 h.2⟩
theorem ref_ok {s : St} (h12 : s.ns ≤ 12) (h : refCfg s = true) (hsh : (shapesL s).length = 0) : PartOk s ∧ ∀ g, 1 ≤ g → g < s.ns → s.par g < g := by
  obtain ⟨⟨h1, h2, h3, h4, h5, h6, h7⟩, hall⟩ := refCfg_spec h
  obtain ⟨k1, k2, k3, k4⟩ := shapes_nil hsh
  refine ⟨⟨k4, k3, by omega, by omega, h2, k2, h12⟩, fun g hg hn => ?_⟩
  have := hall g hg (by omega)
  simp only [okR, Bool.and_eq_true, decide_eq_true_eq] at this
  exact (rdep_par hg this.2).2
end Go.Proofs.T
end

section
set_option linter.unusedVariables false
set_option linter.unusedSimpArgs false
namespace Go.Proofs.T
open Go Go.AM Go.Proofs
set_option linter.unusedSimpArgs false
set_option linter.unusedVariables false
theorem pdep_fuel {par : Nat → Int} : ∀ (F g : Nat), g ≤ F → (∀ j, 1 ≤ j → j ≤ g → 0 ≤ par j ∧ par j < j) → pdep par F g = pdep par g g := by
  intro F
  induction F using Nat.strongRecOn with
  | _ F ih =>
    intro g hg hv
    cases F with
    | zero => have : g = 0 := by omega
              subst this; rfl
    | succ F =>
      cases g with
      | zero => simp [pdep]
      | succ g =>
        obtain ⟨h1, h2⟩ := hv (g + 1) (by omega) (by omega)
        have hv' : ∀ j, 1 ≤ j → j ≤ (par (g + 1)).toNat → 0 ≤ par j ∧ par j < j := fun j h3 h4 => hv j h3 (by omega)
        rw [pdep, pdep, if_neg (by omega), if_neg (by omega), ih F (by omega) _ (by omega) hv', ih g (by omega) _ (by omega) hv']
theorem rdep_pdep {par : Nat → Int} : ∀ (f g n : Nat), (∀ j, 1 ≤ j → j ≤ g → 0 ≤ par j ∧ par j < j) → rdep par f g n = n + min f (pdep par g g)
  | 0, g, n, _ => by simp [rdep]
  | f + 1, 0, n, _ => by simp [rdep, pdep]
  | f + 1, g + 1, n, hv => by
    obtain ⟨h1, h2⟩ := hv (g + 1) (by omega) (by omega)
    have hv' : ∀ j, 1 ≤ j → j ≤ (par (g + 1)).toNat → 0 ≤ par j ∧ par j < j := fun j h3 h4 => hv j h3 (by omega)
    rw [rdep, if_neg (by omega), if_neg (by omega), rdep_pdep f _ _ hv', pdep, if_neg (by omega), pdep_fuel g _ (by omega) hv']
    omega
theorem chk_zero (s : St) : ((chk s).2 == 0) = true ↔ (s.ng ≤ 256 ∧ 1 ≤ s.ng ∧ s.par 0 = 0 ∧ s.wt 0 = 1) ∧ ∀ g, 1 ≤ g → g < s.ng → okG s g = true := by
  unfold chk
  by_cases h1 : 256 < s.ng
  · rw [if_pos h1]; simp; omega
  · rw [if_neg h1]
    by_cases h2 : s.ng = 0 ∨ ¬ (s.par 0 = 0 ∧ s.wt 0 = 1)
    · rw [if_pos h2]
      simp only [Int.reduceBEq, Bool.false_eq_true, false_iff]
      rintro ⟨⟨h3, h4, h5⟩, _⟩
      rcases h2 with h2 | h2
      · omega
      · exact h2 h5
    · rw [if_neg h2]
      have h3 : ¬ s.ng = 0 := fun h => h2 (.inl h)
      have h4 : s.par 0 = 0 ∧ s.wt 0 = 1 := Classical.byContradiction fun h => h2 (.inr h)
      cases hf : fb (okG s) s.ng with
      | none =>
        simp only [beq_self_eq_true, true_iff]
        exact ⟨⟨by omega, by omega, h4⟩, fb_none_iff.1 hf⟩
      | some g =>
        have hne : (chkE s g == 0) = false := by unfold chkE; split <;> (try split) <;> rfl
        simp only [hne, Bool.false_eq_true, false_iff]
        rintro ⟨_, hall⟩
        rw [fb_none_iff.2 hall] at hf
        cases hf
theorem ok_iff (s : St) (n : Nat) : (∀ g, 1 ≤ g → g < n → okG s g = true) ↔ ∀ g, 1 ≤ g → g < n → okR s g = true := by
  constructor
  · intro h g h1 h2
    have hv : ∀ j, 1 ≤ j → j ≤ g → 0 ≤ s.par j ∧ s.par j < j := fun j h3 h4 => by
      have := h j h3 (by omega)
      simp only [okG, okP, Bool.and_eq_true, decide_eq_true_eq] at this
      exact this.1
    have := h g h1 h2
    simp only [okG, Bool.and_eq_true, decide_eq_true_eq] at this
    simp only [okR, Bool.and_eq_true, decide_eq_true_eq]
    refine ⟨this.2.1, ?_⟩
    rw [rdep_pdep 5 g 0 hv]; omega
  · intro h g h1 h2
    have hv : ∀ j, 1 ≤ j → j ≤ g → 0 ≤ s.par j ∧ s.par j < j := fun j h3 h4 => by
      have := h j h3 (by omega)
      simp only [okR, Bool.and_eq_true, decide_eq_true_eq] at this
      exact rdep_par h3 this.2
    have := h g h1 h2
    simp only [okR, Bool.and_eq_true, decide_eq_true_eq] at this
    simp only [okG, okP, Bool.and_eq_true, decide_eq_true_eq]
    have h5 := this.2
    rw [rdep_pdep 5 g 0 hv] at h5
    exact ⟨hv g h1 (Nat.le_refl _), this.1, by omega⟩
theorem cfg_eq (s : St) : modCfg s = refCfg s := by
  rw [Bool.eq_iff_iff]
  simp only [modCfg, refCfg, Bool.and_eq_true, decide_eq_true_eq, Option.isNone_iff_eq_none, fb_none_iff, chk_zero, ok_iff]
  constructor
  · rintro ⟨⟨h1, h2, h3⟩, ⟨h4, h5, h6, h7⟩, h8⟩
    exact ⟨⟨h1, h2, h3, h5, h4, h6, h7⟩, h8⟩
  · rintro ⟨⟨h1, h2, h3, h5, h4, h6, h7⟩, h8⟩
    exact ⟨⟨h1, h2, h3⟩, ⟨h4, h5, h6, h7⟩, h8⟩
end Go.Proofs.T
end

section
set_option linter.unusedVariables false
set_option linter.unusedSimpArgs false
namespace Go.Proofs.T
open Go Go.AM Go.Proofs
set_option linter.unusedSimpArgs false
set_option linter.unusedVariables false
theorem iff1_nil {b : Bool} {f : Flt} : iff1 b f = [] ↔ b = false := by cases b <;> simp [iff1]
theorem shapeA_eq (s : St) : shapeA s = shapesL s := by
  unfold shapeA shapesL iff1
  by_cases h1 : (s.nk : Int) = s.cpus <;> by_cases h2 : (s.nu : Int) = s.cpus <;> by_cases h3 : s.ns = s.ng <;> simp [h1, h2, h3] <;> omega
end Go.Proofs.T
end

section
set_option linter.unusedVariables false
set_option linter.unusedSimpArgs false
namespace Go.Proofs
open Go.Shelf
def Tryz.sortF_ren : Go.Shelf.Ren := ⟨fun | 6 => 59 | 15 => 78 | 14 => 77 | 28 => 102 | 29 => 103 | 20 => 94 | 21 => 95 | 22 => 96 | 23 => 97 | 24 => 98 | 25 => 99 | 26 => 100 | 27 => 101 | 46 => 116 | 47 => 117 | 48 => 118 | 49 => 119 | 50 => 120 | 57 => 133 | n => n, fun | 22 => 49 | 24 => 23 | 25 => 109 | 3 => 3 | 39 => 129 | 0 => 0 | 53 => 38 | 55 => 26 | 4 => 4 | 46 => 145 | 45 => 144 | 50 => 149 | 5 => 5 | 9 => 9 | 66 => 170 | 70 => 174 | 76 => 186 | 77 => 90 | n => n, fun | n => n⟩
theorem Tryz.sortF : Go.Proofs.SlLaysF0.n6 Tryz.prog Tryz.sortF_ren := {
  mixed := by kernel_rfl
  f6 := ⟨Tryz.f59.name, by decide, Tryz.func59.trans (congrArg some (by kernel_rfl))⟩
  f14 := ⟨Tryz.f77.name, by decide, Tryz.func77.trans (congrArg some (by kernel_rfl))⟩
  f15 := Tryz.func78.trans (congrArg some (by kernel_rfl))
  f20 := ⟨Tryz.f94.name, by decide, Tryz.func94.trans (congrArg some (by kernel_rfl))⟩
  f21 := ⟨Tryz.f95.name, by decide, Tryz.func95.trans (congrArg some (by kernel_rfl))⟩
  f22 := ⟨Tryz.f96.name, by decide, Tryz.func96.trans (congrArg some (by kernel_rfl))⟩
  f23 := ⟨Tryz.f97.name, by decide, Tryz.func97.trans (congrArg some (by kernel_rfl))⟩
  f24 := ⟨Tryz.f98.name, by decide, Tryz.func98.trans (congrArg some (by kernel_rfl))⟩
  f25 := ⟨Tryz.f99.name, by decide, Tryz.func99.trans (congrArg some (by kernel_rfl))⟩
  f26 := ⟨Tryz.f100.name, by decide, Tryz.func100.trans (congrArg some (by kernel_rfl))⟩
  f27 := ⟨Tryz.f101.name, by decide, Tryz.func101.trans (congrArg some (by kernel_rfl))⟩
  f28 := Tryz.func102.trans (congrArg some (by kernel_rfl))
  f29 := Tryz.func103.trans (congrArg some (by kernel_rfl))
  f46 := ⟨Tryz.f116.name, by decide, Tryz.func116.trans (congrArg some (by kernel_rfl))⟩
  f47 := Tryz.func117.trans (congrArg some (by kernel_rfl))
  f48 := Tryz.func118.trans (congrArg some (by kernel_rfl))
  f49 := ⟨Tryz.f119.name, by decide, Tryz.func119.trans (congrArg some (by kernel_rfl))⟩
  f50 := ⟨Tryz.f120.name, by decide, Tryz.func120.trans (congrArg some (by kernel_rfl))⟩
  f57 := ⟨Tryz.f133.name, by decide, Tryz.func133.trans (congrArg some (by kernel_rfl))⟩
  t0 := Tryz.underlying0
  a0 := Tryz.isAgg0
  z0 := Tryz.sizeOf0
  v0 := Tryz.zeroValue0
  t3 := Tryz.underlying3
  a3 := Tryz.isAgg3
  z3 := Tryz.sizeOf3
  v3 := Tryz.zeroValue3
  t4 := Tryz.underlying4
  a4 := Tryz.isAgg4
  z4 := Tryz.sizeOf4
  v4 := Tryz.zeroValue4
  t5 := Tryz.underlying5
  a5 := Tryz.isAgg5
  z5 := Tryz.sizeOf5
  v5 := Tryz.zeroValue5
  t9 := Tryz.underlying9
  a9 := Tryz.isAgg9
  z9 := Tryz.sizeOf9
  v9 := Tryz.zeroValue9
  t22 := Tryz.underlying49
  a22 := Tryz.isAgg49
  z22 := Tryz.sizeOf49
  v22 := Tryz.zeroValue49
  t25 := Tryz.underlying109
  a25 := Tryz.isAgg109
  z25 := Tryz.sizeOf109
  v25 := Tryz.zeroValue109
  t39 := Tryz.underlying129
  a39 := Tryz.isAgg129
  z39 := Tryz.sizeOf129
  v39 := Tryz.zeroValue129
  t45 := Tryz.underlying144
  a45 := Tryz.isAgg144
  z45 := Tryz.sizeOf144
  v45 := Tryz.zeroValue144
  t46 := Tryz.underlying145
  a46 := Tryz.isAgg145
  z46 := Tryz.sizeOf145
  v46 := Tryz.zeroValue145
  t50 := Tryz.underlying149
  a50 := Tryz.isAgg149
  z50 := Tryz.sizeOf149
  v50 := Tryz.zeroValue149
  t53 := Tryz.underlying38
  a53 := Tryz.isAgg38
  z53 := Tryz.sizeOf38
  v53 := Tryz.zeroValue38
  t55 := Tryz.underlying26
  a55 := Tryz.isAgg26
  z55 := Tryz.sizeOf26
  v55 := Tryz.zeroValue26
  t66 := Tryz.underlying170
  a66 := Tryz.isAgg170
  z66 := Tryz.sizeOf170
  v66 := Tryz.zeroValue170
  t70 := Tryz.underlying174
  a70 := Tryz.isAgg174
  z70 := Tryz.sizeOf174
  v70 := Tryz.zeroValue174
  t76 := Tryz.underlying186
  a76 := Tryz.isAgg186
  z76 := Tryz.sizeOf186
  v76 := Tryz.zeroValue186
  t77 := Tryz.underlying90
  a77 := Tryz.isAgg90
  z77 := Tryz.sizeOf90
  v77 := Tryz.zeroValue90 }
end Go.Proofs
end

section
set_option linter.unusedVariables false
set_option linter.unusedSimpArgs false
namespace Go.AM
open Go.Sort Go.Proofs
section
variable {Γ : List (Nat × List AVal)} {w w' : World} {G G' : Nat → Prop} {ρ ρ' : Names} {H : Owner}
theorem step_grow (S : Allow) (os : Array Obj) : Step S w G ρ (grow w os) G ρ :=
  ⟨by rw [size_grow]; omega, fun b hb _ => heap_grow_old w os hb, fun b hb => by unfold World.shape?; rw [heap_grow_old w os hb], fun _ h => h, fun _ h => .inl h, fun _ h => .inl h, fun _ _ => .inr rfl, rfl, rfl, rfl⟩
theorem HRel.grow (h : HRel Γ w G ρ H) (os : Array Obj) : HRel Γ (grow w os) G ρ H :=
  h.after (step_grow (fun _ => True) os) H h.dom (fun id B A hH => by
    obtain ⟨hA, b, hb, hg, _⟩ := h.blk id B A hH
    exact ⟨hA, .inl ⟨A, b, hH, fun _ h => h, fun _ _ => trivial, rfl, hb, heap_grow_old w os (h.owned_lt ⟨id, _, hb⟩), hg⟩⟩) h.inj (fun b hb => by rw [size_grow]; have := h.ro b hb; omega)
theorem HRel.rows {S : Allow} (h : HRel Γ w G ρ H) {id b : Nat} {B B' : Blk} {A : Allow} (hid : H id = some (B, A)) (hb : ρ id = some (b, B.sz)) (hsz : B'.sz = B.sz) {C C' : Array Value} {ty : TypeId} {H' : Owner}
    (hH' : ∀ i, H' i = if i = id then some (B', A) else H i)
    (hC0 : w.heap[b]? = some (.cells C ty (0, 0))) (hC : w'.heap[b]? = some (.cells C' ty (0, 0))) (hcs : C'.size = C.size) (hother : ∀ j, j ≠ b → w'.heap[j]? = w.heap[j]?) (hsize : w'.heap.size = w.heap.size)
    (h1 : w'.os = w.os) (h2 : w'.tape = w.tape) (h3 : w'.output = w.output)
    (hS : ∀ i B A, H i = some (B, A) → ∀ j, A j → S j)
    (hl : ∀ (r : Nat) row, B'.rows[r]? = some row → row.length = B'.sz)
    (hr : ∀ r row c v, B'.rows[r]? = some row → row[c]? = some v → ∃ cv, C'[r * B'.sz + c]? = some cv ∧ V w G noNames noAllow v cv) (hp : B'.pure = true) :
    HRel Γ w' G ρ H' ∧ Step S w G ρ w' G ρ := by
  have hbo : owned ρ b := ⟨id, _, hb⟩
  have hbg := h.owned_not_ro hbo
  have hs : Step S w G ρ w' G ρ := by
    refine ⟨by omega, fun j hj ho => hother j (fun he => ho (he ▸ hbo)), fun j hj => ?_, fun _ h => h, fun _ h => .inl h, fun _ h => .inl h, fun _ _ => .inr rfl, h1, h2, h3⟩
    by_cases he : j = b
    · subst he; unfold World.shape?; rw [hC, hC0]; simp only [hcs]
    · unfold World.shape?; rw [hother j he]
  refine ⟨h.after hs _ ?_ ?_ h.inj (fun c hc => by rw [hsize]; exact h.ro c hc), hs⟩
  · intro i hi
    rw [hH'] at hi
    split at hi
    · cases hi
    · exact h.dom i hi
  · intro i B1 A1 hi
    rw [hH'] at hi
    split at hi
    · rename_i he; subst he; cases hi
      obtain ⟨hA, _⟩ := h.blk i B A hid
      refine ⟨hA, .inr ⟨b, by rw [hsz]; exact hb, hbg, ⟨⟨C', ty, hC, fun r row c v hrow hc => ?_⟩, hl⟩⟩⟩
      obtain ⟨cv, hcv, hv⟩ := hr r row c v hrow hc
      refine ⟨cv, hcv, ?_⟩
      simp only [hp, if_true]
      exact hv.mono hs.g (fun b hb => hs.keep b (h.ro b hb) (fun ho => h.owned_not_ro ho hb)) hs.shape (fun _ h => h) (fun _ h => h.elim)
    · rename_i hne
      obtain ⟨hAid, b1, hb1, hg1, hBR⟩ := h.blk i B1 A1 hi
      exact ⟨hAid, .inl ⟨A1, b1, hi, fun _ h => h, hS i B1 A1 hi, rfl, hb1, hother b1 (by rintro rfl; exact hne (h.inj i id _ _ _ hb1 hb)), hg1⟩⟩
end
end Go.AM
namespace Go.Proofs.T
open Go Go.Proofs Go.Shelf Go.RowKit Go.Lib Go.Sort
def cfI (r a b r' a' b' : Int) : Int := if r = r' then (if a = a' then b - b' else a - a') else r - r'
theorem wrap_i64' {n : Int} (h1 : -9223372036854775808 ≤ n) (h2 : n ≤ 9223372036854775807) : IntKind.i64.wrap n = n := by
  simp [IntKind.wrap, IntKind.bits, IntKind.signed]; omega
set_option maxHeartbeats 2000000 in
theorem closure (r a b r' a' b' : Int) (hr : 0 ≤ r ∧ r < 256) (ha : 0 ≤ a ∧ a < 1000000) (hb : 0 ≤ b ∧ b < 1000000) (hr' : 0 ≤ r' ∧ r' < 256) (ha' : 0 ≤ a' ∧ a' < 1000000) (hb' : 0 ≤ b' ∧ b' < 1000000) (W : World) :
    Calls Tryz.prog 60 #[.agg #[.int .u8 r, .int .i64 a, .int .i64 b], .agg #[.int .u8 r', .int .i64 a', .int .i64 b']] W fun e w' => e = .returned (.int .i64 (cfI r a b r' a' b')) ∧ ∃ q os', w' = grow (W.drewN q) os' := by
  by_cases h1 : r = r'
  · by_cases h2 : a = a'
    · have e : cfI r a b r' a' b' = b - b' := by simp [cfI, h1, h2]
      rw [e]; subst h1 h2; clear e
      go_enter Tryz.func60, Tryz.ntmps60
      go_wp2

      go_ret
      exact ⟨rfl, 0, _, by rw [alloc_eq_grow, alloc_eq_grow, grow_grow]; rfl⟩
    · have e : cfI r a b r' a' b' = a - a' := by simp [cfI, h1, h2]
      rw [e]; subst h1; clear e
      go_enter Tryz.func60, Tryz.ntmps60
      go_wp2

      go_ret
      exact ⟨rfl, 0, _, by rw [alloc_eq_grow, alloc_eq_grow, grow_grow]; rfl⟩
  · have e : cfI r a b r' a' b' = r - r' := by simp [cfI, h1]
    rw [e]; clear e
    go_enter Tryz.func60, Tryz.ntmps60
    go_wp2

    go_ret
    exact ⟨rfl, 0, _, by rw [alloc_eq_grow, alloc_eq_grow, grow_grow]; rfl⟩
end Go.Proofs.T
namespace Go.Proofs.T
open Go Go.AM Go.Proofs Go.Shelf Go.RowKit Go.Lib Go.Sort
set_option linter.unusedSimpArgs false
set_option linter.unusedVariables false
def Flt.ok (f : Flt) : Prop := (0 ≤ f.r ∧ f.r < 256) ∧ (0 ≤ f.a ∧ f.a < 1000000) ∧ (0 ≤ f.b ∧ f.b < 1000000)
structure BF where
  f : Flt
  h : f.ok
instance : Inhabited BF := ⟨⟨⟨0, 0, 0⟩, by unfold Flt.ok; simp⟩⟩
def encF (x : BF) : List Value := [.int .u8 x.f.r, .int .i64 x.f.a, .int .i64 x.f.b]
def cfF (x y : Flt) : Int := cfI x.r x.a x.b y.r y.a y.b
def cfB (x y : BF) : Int := cfF x.f y.f
theorem ltB_iff (x y : BF) : ltOf cfB x y = true ↔ cfF x.f y.f < 0 := ⟨fun h => of_decide_eq_true h, fun h => decide_eq_true h⟩
theorem ltB_false (x y : BF) : ltOf cfB x y = false ↔ 0 ≤ cfF x.f y.f := ⟨fun h => Int.not_lt.1 (of_decide_eq_false h), fun h => decide_eq_false (Int.not_lt.2 h)⟩
theorem cfF_lt (x y : Flt) : cfF x y < 0 ↔ (x.r < y.r ∨ (x.r = y.r ∧ (x.a < y.a ∨ (x.a = y.a ∧ x.b < y.b)))) := by
  unfold cfF cfI
  split
  · split <;> omega
  · omega
theorem cfF_ge (x y : Flt) : 0 ≤ cfF x y ↔ ¬ (x.r < y.r ∨ (x.r = y.r ∧ (x.a < y.a ∨ (x.a = y.a ∧ x.b < y.b)))) := by
  rw [← cfF_lt]; omega
theorem swoB : SWO (ltOf cfB) where
  irrefl x := by rw [ltB_false, cfF_ge]; omega
  trans x y z h1 h2 := by rw [ltB_iff, cfF_lt] at *; omega
  ntrans x y z h1 h2 := by rw [ltB_false, cfF_ge] at *; omega
theorem totF (x y : Flt) (h1 : 0 ≤ cfF x y) (h2 : 0 ≤ cfF y x) : x = y := by
  rw [cfF_ge] at h1 h2
  cases x; cases y
  simp only [Flt.mk.injEq] at *
  omega
theorem cmpB (blk off size : Nat) (w : World) : CmpLays Tryz.prog 60 #[] encF 3 cfB blk off size w := fun _ _ _ _ x y =>
  closure x.f.r x.f.a x.f.b y.f.r y.f.a y.f.b x.h.1 x.h.2.1 x.h.2.2 y.h.1 y.h.2.1 y.h.2.2 _
def toB (l : List Flt) (hb : ∀ f ∈ l, f.ok) : Array BF := (l.pmap (fun f h => (⟨f, h⟩ : BF)) hb).toArray
theorem toB_size (l : List Flt) (hb : ∀ f ∈ l, f.ok) : (toB l hb).size = l.length := by simp [toB]
theorem toB_get (l : List Flt) (hb : ∀ f ∈ l, f.ok) (i : Nat) (hi : i < l.length) : ((toB l hb)[i]!).f = l[i] := by
  rw [getElem!_pos (toB l hb) i (by rw [toB_size]; exact hi)]
  simp [toB]
theorem getBang_row (x : BF) (c : Nat) (v : AVal) (h : (Flt.row x.f)[c]? = some v) : v = .lit ((encF x)[c]!) := by
  match c with
  | 0 => simp [Flt.row] at h; simp [encF, h]
  | 1 => simp [Flt.row] at h; simp [encF, h]
  | 2 => simp [Flt.row] at h; simp [encF, h]
  | c + 3 => simp [Flt.row] at h
theorem row_some (x : BF) (c : Nat) (hc : c < 3) : (Flt.row x.f)[c]? = some (.lit ((encF x)[c]!)) := by
  match c with
  | 0 => rfl
  | 1 => rfl
  | 2 => rfl
theorem holdsF {w : World} {G : Nat → Prop} {b : Nat} {C : Array Value} {ty : TypeId} (l : List Flt) (hb : ∀ f ∈ l, f.ok) (hC : w.heap[b]? = some (.cells C ty (0, 0)))
    (hr : ∀ r row c v, (l.map Flt.row)[r]? = some row → row[c]? = some v → ∃ cv, C[r * 3 + c]? = some cv ∧ V w G noNames noAllow v cv) : HoldsK encF 3 w b 0 (toB l hb) := by
  intro j hj
  rw [size_flatK, toB_size] at hj
  have hq : j / 3 < l.length := by omega
  refine ⟨?_, ?_⟩
  · rw [get_flatK encF 3 _ j (by rw [toB_size]; exact hj)]
    have h1 : (l.map Flt.row)[j / 3]? = some (Flt.row ((toB l hb)[j / 3]!).f) := by
      rw [List.getElem?_map, List.getElem?_eq_getElem hq, toB_get l hb _ hq]; rfl
    obtain ⟨cv, h3, h4⟩ := hr (j / 3) _ (j % 3) _ h1 (row_some _ (j % 3) (Nat.mod_lt _ (by omega)))
    cases h4
    unfold World.cell?
    simp only [hC]
    rw [show j / 3 * 3 + j % 3 = j by omega] at h3
    simp [h3]
  · unfold World.frozen?
    simp [hC]
theorem toB_sorted (l R : List Flt) (hb : ∀ f ∈ l, f.ok) (hR : ∀ f ∈ R, f.ok) (hp : R.Perm l) (hs : R.Pairwise (fun x y => 0 ≤ cfF y x)) (d : Array BF) (h1 : PermIn 0 (toB l hb).size (toB l hb) d) (h2 : SortedIn (ltOf cfB) 0 (toB l hb).size d) : d = toB R hR := by
  have hT : ∀ x y : BF, ltOf cfB x y = false → ltOf cfB y x = false → x = y := fun x y h3 h4 => by
    rw [ltB_false] at h3 h4
    have := totF _ _ h3 h4
    cases x; cases y; cases this; rfl
  have e1 := sorted_unique_holds swoB hT _ _ h1 h2
  have hsz : (toB R hR).size = (toB l hb).size := by rw [toB_size, toB_size, hp.length_eq]
  have hpm : (toB R hR).toList.Perm (toB l hb).toList := by
    simp only [toB]
    have : ∀ (a b : List Flt) (ha : ∀ f ∈ a, f.ok) (hb : ∀ f ∈ b, f.ok), a.Perm b → (a.pmap (fun f h => (⟨f, h⟩ : BF)) ha).Perm (b.pmap (fun f h => (⟨f, h⟩ : BF)) hb) := fun a b ha hb h => h.pmap _
    exact this _ _ _ _ hp
  have h3 : PermIn 0 (toB l hb).size (toB l hb) (toB R hR) := by
    refine ⟨hsz, fun i hi => ?_, ?_⟩
    · rcases hi with hi | hi
      · omega
      · rw [getElem!_neg _ i (by omega), getElem!_neg _ i (by omega)]
    · rw [Array.extract_size, ← hsz, Array.extract_size]; exact hpm
  have h4 : SortedIn (ltOf cfB) 0 (toB l hb).size (toB R hR) := by
    intro i j _ hij hj
    rw [toB_size, ← hp.length_eq] at hj
    rw [ltB_false, toB_get R hR j hj, toB_get R hR i (by omega)]
    exact List.pairwise_iff_getElem.1 hs i j (by omega) hj hij
  exact Array.ext' (e1.trans (sorted_unique_holds swoB hT _ _ h3 h4).symm)
end Go.Proofs.T
namespace Go.Proofs.T
open Go Go.AM Go.Proofs Go.Shelf Go.RowKit Go.Lib Go.Sort
set_option linter.unusedSimpArgs false
set_option linter.unusedVariables false
variable {Γ : List (Nat × List AVal)}
theorem putRow_heap {w : World} {b : Nat} {C : Array Value} {ty : TypeId} (n : Nat) (F : Array Value) (hC : w.heap[b]? = some (.cells C ty (0, 0))) :
    (putRow id (Sort.ahead w n) b 0 F).heap[b]? = some (.cells (putCells id 0 F C) ty (0, 0)) ∧ (∀ j, j ≠ b → (putRow id (Sort.ahead w n) b 0 F).heap[j]? = w.heap[j]?) ∧ (putRow id (Sort.ahead w n) b 0 F).heap.size = w.heap.size := by
  refine ⟨?_, fun j hj => ?_, ?_⟩
  · simp only [putRow, mapBlock, Sort.ahead, Array.getElem?_modify, if_true]; rw [hC]; rfl
  · simp only [putRow, mapBlock, Sort.ahead, Array.getElem?_modify]; rw [if_neg (fun h => hj h.symm)]
  · simp [putRow, mapBlock, Sort.ahead]
theorem putCells_get (F C : Array Value) (j : Nat) (hj : j < F.size) (hC : j < C.size) : (putCells id 0 F C)[j]? = some F[j]! := by
  simp only [putCells, Array.getElem?_mapIdx, Array.getElem?_eq_getElem hC, Option.map_some, Nat.zero_le, Nat.zero_add, hj, and_self, if_true, Nat.sub_zero, id]
theorem sortFunc (k F : Nat) (l R : List Flt) (hb : ∀ f ∈ l, f.ok) (hp : R.Perm l) (hs : R.Pairwise (fun x y => 0 ≤ cfF y x)) (hl : l.length ≤ 100000)
    (hnone : ∀ w, Calls Tryz.prog 59 #[.slice none 0 0, .func (.func 60) #[] #[]] w fun e w' => e = .returned (.tuple #[]) ∧ w' = w) :
    Tr Tryz.prog Γ 59 k [accV F (l.map Flt.row), .fn 60 []] (accH F 3 (l.map Flt.row) []) (fun k1 r1 H1 => k1 = k ∧ r1 = .tup [] ∧ H1 = accH F 3 (R.map Flt.row) []) := by
  intro A hA w G ρ cargs hr hvs
  obtain ⟨hlen, hv⟩ := hvs
  have h0 := hv 0 _ rfl
  have h1 := hv 1 _ rfl
  have hc2 : cargs = #[cargs.getD 0 undef, cargs.getD 1 undef] := by
    have hsz : cargs.size = 2 := hlen.symm
    apply Array.ext
    · simp [hsz]
    · intro i hi1 hi2
      match i with
      | 0 => simp [Array.getD, hsz]
      | 1 => simp [Array.getD, hsz]
      | i + 2 => omega
  obtain ⟨cs, hfn, hcs⟩ : ∃ cs : Array Value, cargs.getD 1 undef = .func (.func 60) #[] cs ∧ cs.size = 0 := by
    generalize cargs.getD 1 undef = x at h1
    cases h1 with
    | fn hl _ => exact ⟨_, rfl, hl.symm⟩
  have hcs' : cs = #[] := Array.eq_empty_of_size_eq_zero hcs
  subst hcs'
  cases l with
  | nil =>
    have hR : R = [] := hp.eq_nil
    subst hR
    have e0 : cargs.getD 0 undef = .slice none 0 0 := by
      generalize cargs.getD 0 undef = x at h0
      cases h0; rfl
    rw [hc2, e0, hfn]
    refine (hnone w).mono ?_
    rintro e w' ⟨rfl, rfl⟩
    refine ⟨.tuple #[], G, ρ, k, .tup [], [], rfl, ⟨rfl, rfl, rfl⟩, Nat.le_refl _, ?_, .tup rfl (fun j v hj => by simp at hj), Step.refl _ _ _ _⟩
    exact ⟨fun id _ => hr.dom id rfl, fun id B A' hid => by simp [ofHeap, AM.look] at hid, hr.inj, hr.ro, hr.glob⟩
  | cons x t =>
    obtain ⟨l, el⟩ : ∃ l, l = x :: t := ⟨_, rfl⟩
    have hne : l.length ≠ 0 := by rw [el]; simp
    have eV : accV F ((x :: t).map Flt.row) = .sl F 0 l.length := by rw [el]; simp [accV]
    have eH : ∀ q : List Flt, q.length ≠ 0 → accH F 3 (q.map Flt.row) [] = [(F, ⟨3, true, q.map Flt.row⟩)] := fun q hq => by
      cases q with
      | nil => simp at hq
      | cons a b => rfl
    rw [eV] at h0
    rw [← el, eH l hne] at hr
    rw [← el] at hb hp hl
    clear eV
    have hRne : R.length ≠ 0 := by rw [hp.length_eq]; exact hne
    rw [eH R hRne]
    have hid : ofHeap [(F, ⟨3, true, l.map Flt.row⟩)] A F = some (⟨3, true, l.map Flt.row⟩, A) := by simp [ofHeap, AM.look]
    obtain ⟨hAF, b, hρ, hgb, ⟨⟨C, ty, hC, hrow⟩, hrl⟩⟩ := hr.blk F _ _ hid
    simp only [if_true] at hrow hρ
    obtain ⟨cap, e0⟩ : ∃ cap, cargs.getD 0 undef = .slice (some ⟨b, 0, none⟩) l.length cap := by
      generalize cargs.getD 0 undef = x at h0
      cases h0 with
      | dangs _ hn => rw [hρ] at hn; cases hn
      | sl _ hs _ _ hnc _ ho =>
        rw [hρ] at hs; cases hs
        rcases ho with ho | ho
        · omega
        · rw [ho, Nat.zero_mul]; exact ⟨_, rfl⟩
    have hRok : ∀ f ∈ R, f.ok := fun f hf => hb f (hp.mem_iff.1 hf)
    have hblt : b < w.heap.size := hr.owned_lt ⟨F, 3, hρ⟩
    have eg : ∀ args w, (callFunc 60 args).run Tryz.prog w = .ok (.enter 60 args) w := enters_of Tryz.func60 (by kernel_rfl) rfl
    have hcon := AnyQ.slices_SortFunc Tryz.sortF 3 Tryz.isAgg23 Tryz.sizeOf23 encF (fun _ => rfl) (fun x v hv => by simp [encF] at hv; rcases hv with rfl | rfl | rfl <;> rfl) cfB swoB 60 #[] b 0 cap (toB l hb) w eg (cmpB _ _ _ _) (holdsF l hb hC hrow) hblt (by rw [toB_size]; omega)
    change Calls Tryz.prog 59 _ _ _ at hcon
    rw [hc2, e0, hfn]
    rw [toB_size] at hcon
    refine hcon.mono ?_
    rintro e w' ⟨rfl, d', n, os, hpm, hso, rfl⟩
    rw [← toB_size l hb] at hpm hso
    have hd := toB_sorted l R hb hRok hp hs d' hpm hso
    subst hd
    have hF : (flatK encF 3 (toB R hRok)).size = l.length * 3 := by rw [size_flatK, toB_size, hp.length_eq]
    obtain ⟨p1, p2, p3⟩ := putRow_heap n (flatK encF 3 (toB R hRok)) hC
    have hrows : ∀ r row c v, (R.map Flt.row)[r]? = some row → row[c]? = some v → ∃ cv, (putCells id 0 (flatK encF 3 (toB R hRok)) C)[r * 3 + c]? = some cv ∧ V w G noNames noAllow v cv := by
      intro r row c v hrw hcv
      have hrlt : r < R.length := by
        by_cases h : r < R.length
        · exact h
        · rw [List.getElem?_eq_none (by simp; omega)] at hrw; cases hrw
      have hrow' : row = Flt.row ((toB R hRok)[r]!).f := by
        rw [List.getElem?_map, List.getElem?_eq_getElem hrlt, Option.map_some, Option.some.injEq] at hrw
        rw [toB_get R hRok r hrlt]; exact hrw.symm
      subst hrow'
      have hc3 : c < 3 := by
        by_cases h : c < 3
        · exact h
        · rw [List.getElem?_eq_none (by simp [Flt.row]; omega)] at hcv; cases hcv
      have hv' := getBang_row _ c v hcv
      have hll : r < l.length := by rw [← hp.length_eq]; exact hrlt
      have hCs : r * 3 + c < C.size := by
        obtain ⟨cv, hcv1, _⟩ := hrow r _ c _ (by rw [List.getElem?_map, List.getElem?_eq_getElem hll]; rfl) (by rw [List.getElem?_eq_getElem (by simp [Flt.row]; omega)])
        by_cases h : r * 3 + c < C.size
        · exact h
        · rw [Array.getElem?_eq_none (by omega)] at hcv1; cases hcv1
      refine ⟨(encF ((toB R hRok)[r]!))[c]!, ?_, by rw [hv']; exact .lit⟩
      rw [putCells_get _ _ _ (by omega) hCs, get_flatK encF 3 _ _ (by rw [toB_size]; omega)]
      rw [show (r * 3 + c) / 3 = r by omega, show (r * 3 + c) % 3 = c by omega]
    have hHF : ∀ i, ofHeap [(F, (⟨3, true, R.map Flt.row⟩ : Blk))] A i = if i = F then some ((⟨3, true, R.map Flt.row⟩ : Blk), A) else ofHeap [(F, (⟨3, true, l.map Flt.row⟩ : Blk))] A i := fun i => by
      by_cases h : i = F
      · subst h; simp [ofHeap, AM.look]
      · have h' : ¬ F = i := fun e => h e.symm
        rw [if_neg h]; simp [ofHeap, AM.look, h']
    obtain ⟨q1, q2⟩ := HRel.rows (S := below k) (H' := ofHeap [(F, ⟨3, true, R.map Flt.row⟩)] A) (B' := ⟨3, true, R.map Flt.row⟩) hr hid hρ rfl hHF hC p1 (by simp [putCells]) p2 p3 rfl rfl rfl
      (fun i B A' hi j hj => by
        have : A' = A := by
          simp only [ofHeap, AM.look] at hi
          split at hi <;> simp at hi
          exact hi.2.symm
        subst this; exact hA j hj)
      (fun r row hrw => by
        rw [List.getElem?_map] at hrw
        cases hR : R[r]? with
        | none => rw [hR] at hrw; cases hrw
        | some f => rw [hR] at hrw; cases hrw; rfl)
      hrows rfl
    refine ⟨.tuple #[], G, ρ, k, .tup [], [(F, ⟨3, true, R.map Flt.row⟩)], rfl, ⟨rfl, rfl, rfl⟩, Nat.le_refl _, ?_, .tup rfl (fun j v hj => by simp at hj), ?_⟩
    · refine (q1.grow os).allow _ ?_ ?_
      · intro i hi
        simp only [ofHeap, Option.map_eq_none_iff] at hi ⊢; exact hi
      · intro i B A' hi
        simp only [ofHeap] at hi ⊢
        cases hlk : AM.look [(F, (⟨3, true, R.map Flt.row⟩ : Blk))] i with
        | none => rw [hlk] at hi; cases hi
        | some B1 => rw [hlk] at hi; cases hi; exact ⟨A, rfl, fun i hi => .inl hi⟩
    · exact q2.trans (step_grow (below k) os) (fun _ h => h)
end Go.Proofs.T
end
