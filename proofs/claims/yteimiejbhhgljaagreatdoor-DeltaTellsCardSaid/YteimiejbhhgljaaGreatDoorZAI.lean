import Derived.Test.YteimiejbhhgljaaGreatDoorZAH
import Derived.Shelf.SlGeneric
import Derived.Shelf.SlLaysF0
import Derived.Ground.SlsfProg
import Derived.Test.YteimiejbhhgljaaGreatDoorProg
import Derived.Shelf.SlSortCmp.WholeK
import Derived.WalkKit
import Derived.KernelRfl
import Derived.Shelf.SlSortCmp.NoneTotal
set_option linter.unusedVariables false
set_option linter.unusedSimpArgs false
section
namespace Go.Proofs.T
open Go Go.AM Go.Proofs
set_option maxRecDepth 20000
variable {Γ : List (Nat × List AVal)}
def brkAt (s : St) (r i : Nat) : List Flt := iff1 (brk s i (r + 4)) ⟨((r : Int) + 4), (i : Int), 0⟩
def brkR (s : St) (r : Nat) : List Flt := flats (brkAt s r) s.nt
def sptAt (s : St) (g c : Nat) : List Flt := iff1 (!(ent (s.sp g c).v (s.sp g c).r (s.wt g))) ⟨11, (g : Int), (c : Int)⟩
def sptR (s : St) (g : Nat) : List Flt := if g = 0 then [] else flats (sptAt s g) (s.nsp g)
def rootAt (s : St) (c : Nat) : List Flt := iff1 (decide (0 < (s.sp 0 c).v ∨ 0 < (s.sp 0 c).r)) ⟨12, (c : Int), 0⟩
def partsL (s : St) : List Flt := flats (clockAt s) s.nk ++ (flats (brkR s) 7 ++ (flats (sptR s) s.ns ++ (flats (rootAt s) s.cpus.toNat ++ flats (curAt s) s.cpus.toNat)))
structure PartOk (s : St) : Prop where
  sp : ∀ g, g < s.ns → (s.nsp g : Int) = s.cpus
  ng : s.ns = s.ng
  ns1 : 1 ≤ s.ns
  c0 : 0 ≤ s.cpus
  c1 : s.cpus ≤ 64
  nu : (s.nu : Int) = s.cpus
  n12 : s.ns ≤ 12
set_option maxHeartbeats 4000000 in
theorem parts_ref (s : St) (hs : s.Small) (hw : Wf s) (hp : PartOk s) : Pure Tryz.prog Γ 188 [.agg s.cells] (rows 3 ((partsL s).map Flt.row)) := by
  obtain ⟨hng, hnk, hnu, hnt, hns, hnsp⟩ := id hs
  obtain ⟨ksp, kng, kns1, kc0, kc1, knu, k12⟩ := id hp
  refine Pure_at Tryz.func188 rfl 170 rfl (Nat.le_of_ble_eq_true rfl) rfl fun k => ?_
  obtain ⟨R, eR⟩ : ∃ R, R = (partsL s).map Flt.row := ⟨_, rfl⟩
  rw [← eR]
  have kp : Kp [0,1,2,3,4,5,6,7,8,9,10,15,31,38,45,51,62,72,101,112,134,144,163] (fun i => i - k) := kpI
  refine wl ?_ <;> and_intros <;> first | exact hdT | (apply zM; (repeat intro ht); apply zM; (repeat intro hg); apply zM)
  refine M_forO (X := Nat) rfl [0,1,2,3,4,5,6,7,8,9,10,15,31,38,45,51,62,72,101,112,134,144,163] (k + 2) (fun c => [(4, .lit (.int .i64 (c : Int))), (3, accV (k + 1) ((flats (clockAt s) c).map Flt.row))]) (fun c => accH (k + 1) 3 ((flats (clockAt s) c).map Flt.row) [(k, ⟨7, true, [s.cells]⟩)]) (fun c => c ≤ s.nk) (fun c => s.nk - c) 0 ?_ (Nat.zero_le _) ?_
  · rw [flats_zero, List.map_nil]
    refine rR ?_ <;> first | exact hdT | apply zN
    exact wkF
  intro c hc
  have hfl := flats_len (f := clockAt s) (m := 1) (fun c => iff1_len1 _ _) c
  obtain ⟨l1, e1, h1⟩ : ∃ x, x = flats (clockAt s) c ∧ x.length ≤ c := ⟨_, rfl, by omega⟩
  rw [← e1]
  have hsucc : flats (clockAt s) (c + 1) = l1 ++ clockAt s c := by rw [e1]; rfl
  refine rR ?_ <;> first | exact hdT | apply zN
  refine wl ?_ <;> and_intros <;> first | exact hdT | (apply zM; (repeat intro ht); apply zM; (repeat intro hg); apply zM)
  · refine ⟨c + 1, by omega, by omega, ?_⟩
    rw [hsucc, show clockAt s c = [⟨3, (c : Int), 0⟩] by rw [clockAt, decide_eq_true (by omega)]; rfl]
    refine rR ?_ <;> first | exact hdT | apply zN
    exact Mv.app (k + 3) (k + 1) ⟨by omega, by omega⟩ ⟨by omega, by omega⟩ (wk_low (by omega) (by simp -dsimp -implicitDefEqProofs only [go_sem, List.map_append, Flt.row, eq_self, ↓reduceIte]) (by simp -dsimp -implicitDefEqProofs only [go_sem, List.map_append, Flt.row, eq_self, ↓reduceIte]) (by simp -dsimp -implicitDefEqProofs only [go_sem, List.map_append, Flt.row, eq_self, ↓reduceIte]) (by simp -dsimp -implicitDefEqProofs only [go_sem, List.map_append, Flt.row, eq_self, ↓reduceIte]))
  · refine ⟨c + 1, by omega, by omega, ?_⟩
    rw [hsucc, show clockAt s c = [] by rw [clockAt, decide_eq_false (by omega)]; rfl, List.append_nil]
    refine rR ?_ <;> first | exact hdT | apply zN
    exact wkF
  · refine ⟨c + 1, by omega, by omega, ?_⟩
    rw [hsucc, show clockAt s c = [⟨3, (c : Int), 0⟩] by rw [clockAt, decide_eq_true (by omega)]; rfl]
    refine rR ?_ <;> first | exact hdT | apply zN
    exact Mv.app (k + 3) (k + 1) ⟨by omega, by omega⟩ ⟨by omega, by omega⟩ (wk_low (by omega) (by simp -dsimp -implicitDefEqProofs only [go_sem, List.map_append, Flt.row, eq_self, ↓reduceIte]) (by simp -dsimp -implicitDefEqProofs only [go_sem, List.map_append, Flt.row, eq_self, ↓reduceIte]) (by simp -dsimp -implicitDefEqProofs only [go_sem, List.map_append, Flt.row, eq_self, ↓reduceIte]) (by simp -dsimp -implicitDefEqProofs only [go_sem, List.map_append, Flt.row, eq_self, ↓reduceIte]))
  have hcn : c = s.nk := by omega
  subst hcn
  clear hsucc hfl
  refine M_forO (X := Nat) rfl [0,1,2,3,4,5,6,7,8,9,10,15,31,38,45,51,62,72,101,112,134,144,163] (k + 2) (fun r => [(5, .lit (.int .u8 ((r : Int) + 4))), (3, accV (k + 1) ((l1 ++ flats (brkR s) r).map Flt.row))]) (fun r => accH (k + 1) 3 ((l1 ++ flats (brkR s) r).map Flt.row) [(k, ⟨7, true, [s.cells]⟩)]) (fun r => r ≤ 7) (fun r => 7 - r) 0 ?_ (Nat.zero_le _) ?_
  · rw [flats_zero, List.append_nil, show (((0 : Nat) : Int) + 4) = 4 from rfl]
    refine rR ?_ <;> first | exact hdT | apply zN
    exact wkF
  intro r hr
  have hfl := flats_len (f := brkR s) (m := 1000) (fun r => by have := flats_len (f := brkAt s r) (m := 1) (fun i => iff1_len1 _ _) s.nt; unfold brkR; omega) r
  obtain ⟨l2, e2, h2⟩ : ∃ x, x = l1 ++ flats (brkR s) r ∧ x.length ≤ l1.length + r * 1000 := ⟨_, rfl, by simp; omega⟩
  rw [← e2]
  have hsucc2 : l1 ++ flats (brkR s) (r + 1) = l2 ++ flats (brkAt s r) s.nt := by rw [e2, flats_succ, List.append_assoc]; rfl
  refine rR ?_ <;> first | exact hdT | apply zN
  refine wl ?_ <;> and_intros <;> first | exact hdT | (apply zM; (repeat intro ht); apply zM; (repeat intro hg); apply zM)
  · refine M_forO (X := Nat) rfl [0,1,2,3,4,5,6,7,8,9,10,15,31,38,45,51,62,72,101,112,134,144,163] (k + 2) (fun i => [(6, .lit (.int .i64 (i : Int))), (3, accV (k + 1) ((l2 ++ flats (brkAt s r) i).map Flt.row))]) (fun i => accH (k + 1) 3 ((l2 ++ flats (brkAt s r) i).map Flt.row) [(k, ⟨7, true, [s.cells]⟩)]) (fun i => i ≤ s.nt) (fun i => s.nt - i) 0 ?_ (Nat.zero_le _) ?_
    · rw [flats_zero, List.append_nil]
      refine rR ?_ <;> first | exact hdT | apply zN
      exact wkF
    intro i hi
    have hfi := flats_len (f := brkAt s r) (m := 1) (fun i => iff1_len1 _ _) i
    obtain ⟨l3, e3, h3⟩ : ∃ x, x = l2 ++ flats (brkAt s r) i ∧ x.length ≤ l2.length + i := ⟨_, rfl, by simp; omega⟩
    rw [← e3]
    have hsucc3 : l2 ++ flats (brkAt s r) (i + 1) = l3 ++ brkAt s r i := by rw [e3, flats_succ, List.append_assoc]
    refine rR ?_ <;> first | exact hdT | apply zN
    refine wl ?_ <;> and_intros <;> first | exact hdT | (apply zM; (repeat intro ht); apply zM; (repeat intro hg); apply zM)
    · obtain ⟨b, eb⟩ : ∃ b, b = brk s i ((r : Int) + 4) := ⟨_, rfl⟩
      refine cl [.ret (.lit (.bool b))] ?_ <;> and_intros <;> first | exact hdT | (apply zM; (repeat intro ht); apply zM; (repeat intro hg); apply zM)
      · rw [eb]; exact broken_ref s hs hw kc0 kc1 i (by omega) ((r : Int) + 4)
      refine wl ?_ <;> and_intros <;> first | exact hdT | (apply zM; (repeat intro ht); apply zM; (repeat intro hg); apply zM)
      · refine ⟨i + 1, by omega, by omega, ?_⟩
        rw [hsucc3, show brkAt s r i = [⟨((r : Int) + 4), (i : Int), 0⟩] by rw [brkAt, ← eb, ht]; rfl]
        refine rR ?_ <;> first | exact hdT | apply zN
        exact Mv.app (k + 3) (k + 1) ⟨by omega, by omega⟩ ⟨by omega, by omega⟩ (wk_low (by omega) (by simp -dsimp -implicitDefEqProofs only [go_sem, List.map_append, Flt.row, eq_self, ↓reduceIte]) (by simp -dsimp -implicitDefEqProofs only [go_sem, List.map_append, Flt.row, eq_self, ↓reduceIte]) (by simp -dsimp -implicitDefEqProofs only [go_sem, List.map_append, Flt.row, eq_self, ↓reduceIte]) (by simp -dsimp -implicitDefEqProofs only [go_sem, List.map_append, Flt.row, eq_self, ↓reduceIte]))
      · refine ⟨i + 1, by omega, by omega, ?_⟩
        rw [hsucc3, show brkAt s r i = [] by rw [brkAt, ← eb, ht]; rfl, List.append_nil]
        refine rR ?_ <;> first | exact hdT | apply zN
        exact wkF
    · have hin : i = s.nt := by omega
      refine ⟨r + 1, by omega, by omega, ?_⟩
      rw [hsucc2, ← hin, ← e3, show (((r + 1 : Nat) : Int) + 4) = (r : Int) + 4 + 1 by omega]
      (try (simp -dsimp -implicitDefEqProofs only [go_sem, eq_self, ↓reduceIte]))
      exact wkF
  have hrn : r = 7 := by omega
  subst hrn
  clear hsucc2 hfl
  refine M_forO (X := Nat) rfl [0,1,2,3,4,5,6,7,8,9,10,15,31,38,45,51,62,72,101,112,134,144,163] (k + 2) (fun g => [(7, .lit (.int .i64 (g : Int))), (3, accV (k + 1) ((l2 ++ flats (sptR s) g).map Flt.row))]) (fun g => accH (k + 1) 3 ((l2 ++ flats (sptR s) g).map Flt.row) [(k, ⟨7, true, [s.cells]⟩)]) (fun g => 1 ≤ g ∧ g ≤ s.ns) (fun g => s.ns - g) 1 ?_ ⟨by omega, by omega⟩ ?_
  · rw [show flats (sptR s) 1 = [] from rfl, List.append_nil]
    refine rR ?_ <;> first | exact hdT | apply zN
    exact wkF
  rintro g ⟨hg1, hg2⟩
  have hfl := flats_len' (f := sptR s) (m := 1000) g (fun g hg => by
    unfold sptR; split
    · simp
    · have := flats_len (f := sptAt s g) (m := 1) (fun i => iff1_len1 _ _) (s.nsp g); have := hnsp g (by omega); omega)
  obtain ⟨l3, e3, h3⟩ : ∃ x, x = l2 ++ flats (sptR s) g ∧ x.length ≤ l2.length + g * 1000 := ⟨_, rfl, by simp; omega⟩
  rw [← e3]
  have hsucc4 : l2 ++ flats (sptR s) (g + 1) = l3 ++ flats (sptAt s g) (s.nsp g) := by rw [e3, flats_succ, List.append_assoc, sptR, if_neg (by omega)]
  refine rR ?_ <;> first | exact hdT | apply zN
  refine wl ?_ <;> and_intros <;> first | exact hdT | (apply zM; (repeat intro ht); apply zM; (repeat intro hg); apply zM)
  · have hpg : s.nsp g ≤ 1000 := hnsp g (by omega)
    refine M_forO (X := Nat) rfl [0,1,2,3,4,5,6,7,8,9,10,15,31,38,45,51,62,72,101,112,134,144,163] (k + 2) (fun c => [(8, .lit (.int .i64 (c : Int))), (3, accV (k + 1) ((l3 ++ flats (sptAt s g) c).map Flt.row))]) (fun c => accH (k + 1) 3 ((l3 ++ flats (sptAt s g) c).map Flt.row) [(k, ⟨7, true, [s.cells]⟩)]) (fun c => c ≤ s.nsp g) (fun c => s.nsp g - c) 0 ?_ (Nat.zero_le _) ?_
    · rw [flats_zero, List.append_nil]
      refine rR ?_ <;> first | exact hdT | apply zN
      exact wkF
    intro c hc
    have hfi := flats_len (f := sptAt s g) (m := 1) (fun i => iff1_len1 _ _) c
    obtain ⟨l4, e4, h4⟩ : ∃ x, x = l3 ++ flats (sptAt s g) c ∧ x.length ≤ l3.length + c := ⟨_, rfl, by simp; omega⟩
    rw [← e4]
    have hsucc5 : l3 ++ flats (sptAt s g) (c + 1) = l4 ++ sptAt s g c := by rw [e4, flats_succ, List.append_assoc]
    refine rR ?_ <;> first | exact hdT | apply zN
    refine wl ?_ <;> and_intros <;> first | exact hdT | (apply zM; (repeat intro ht); apply zM; (repeat intro hg); apply zM)
    · obtain ⟨b, eb⟩ : ∃ b, b = ent (s.sp g c).v (s.sp g c).r (s.wt g) := ⟨_, rfl⟩
      refine dl [.ret (.lit (.bool b))] ?_ <;> and_intros <;> first | exact hdT | (apply zM; (repeat intro ht); apply zM; (repeat intro hg); apply zM)
      · rw [eb]; exact entity_ref (s.sp g c).v (s.sp g c).r (s.wt g) (hw.sv g c) (hw.sr g c)
      refine wl ?_ <;> and_intros <;> first | exact hdT | (apply zM; (repeat intro ht); apply zM; (repeat intro hg); apply zM)
      · refine ⟨c + 1, by omega, by omega, ?_⟩
        rw [hsucc5, show sptAt s g c = [⟨11, (g : Int), (c : Int)⟩] by rw [sptAt, ← eb, ht]; rfl]
        refine rR ?_ <;> first | exact hdT | apply zN
        exact Mv.app (k + 3) (k + 1) ⟨by omega, by omega⟩ ⟨by omega, by omega⟩ (wk_low (by omega) (by simp -dsimp -implicitDefEqProofs only [go_sem, List.map_append, Flt.row, eq_self, ↓reduceIte]) (by simp -dsimp -implicitDefEqProofs only [go_sem, List.map_append, Flt.row, eq_self, ↓reduceIte]) (by simp -dsimp -implicitDefEqProofs only [go_sem, List.map_append, Flt.row, eq_self, ↓reduceIte]) (by simp -dsimp -implicitDefEqProofs only [go_sem, List.map_append, Flt.row, eq_self, ↓reduceIte]))
      · refine ⟨c + 1, by omega, by omega, ?_⟩
        rw [hsucc5, show sptAt s g c = [] by rw [sptAt, ← eb, ht]; rfl, List.append_nil]
        refine rR ?_ <;> first | exact hdT | apply zN
        exact wkF
    · have hin : c = s.nsp g := by omega
      refine ⟨g + 1, ⟨by omega, by omega⟩, by omega, ?_⟩
      rw [hsucc4, ← hin, ← e4]
      refine rR ?_ <;> first | exact hdT | apply zN
      exact wkF
  have hgn : g = s.ns := by omega
  subst hgn
  clear hsucc4 hfl
  have hst : (s.cpus.toNat : Int) = s.cpus := by omega
  have hsp0 := ksp 0 (by omega)
  refine M_forO (X := Nat) rfl [0,1,2,3,4,5,6,7,8,9,10,15,31,38,45,51,62,72,101,112,134,144,163] (k + 2) (fun c => [(9, .lit (.int .i64 (c : Int))), (3, accV (k + 1) ((l3 ++ flats (rootAt s) c).map Flt.row))]) (fun c => accH (k + 1) 3 ((l3 ++ flats (rootAt s) c).map Flt.row) [(k, ⟨7, true, [s.cells]⟩)]) (fun c => c ≤ s.cpus.toNat) (fun c => s.cpus.toNat - c) 0 ?_ (Nat.zero_le _) ?_
  · rw [flats_zero, List.append_nil]
    refine rR ?_ <;> first | exact hdT | apply zN
    exact wkF
  intro c hc
  have hfl := flats_len (f := rootAt s) (m := 1) (fun c => iff1_len1 _ _) c
  obtain ⟨l4, e4, h4⟩ : ∃ x, x = l3 ++ flats (rootAt s) c ∧ x.length ≤ l3.length + c := ⟨_, rfl, by simp; omega⟩
  rw [← e4]
  have hsucc6 : l3 ++ flats (rootAt s) (c + 1) = l4 ++ rootAt s c := by rw [e4, flats_succ, List.append_assoc]
  refine rR ?_ <;> first | exact hdT | apply zN
  refine wl ?_ <;> and_intros <;> first | exact hdT | (apply zM; (repeat intro ht); apply zM; (repeat intro hg); apply zM)
  · refine ⟨c + 1, by omega, by omega, ?_⟩
    rw [hsucc6, show rootAt s c = [⟨12, (c : Int), 0⟩] by rw [rootAt, decide_eq_true (by omega)]; rfl]
    refine rR ?_ <;> first | exact hdT | apply zN
    exact Mv.app (k + 3) (k + 1) ⟨by omega, by omega⟩ ⟨by omega, by omega⟩ (wk_low (by omega) (by simp -dsimp -implicitDefEqProofs only [go_sem, List.map_append, Flt.row, eq_self, ↓reduceIte]) (by simp -dsimp -implicitDefEqProofs only [go_sem, List.map_append, Flt.row, eq_self, ↓reduceIte]) (by simp -dsimp -implicitDefEqProofs only [go_sem, List.map_append, Flt.row, eq_self, ↓reduceIte]) (by simp -dsimp -implicitDefEqProofs only [go_sem, List.map_append, Flt.row, eq_self, ↓reduceIte]))
  · refine ⟨c + 1, by omega, by omega, ?_⟩
    rw [hsucc6, show rootAt s c = [] by rw [rootAt, decide_eq_false (by omega)]; rfl, List.append_nil]
    refine rR ?_ <;> first | exact hdT | apply zN
    exact wkF
  · refine ⟨c + 1, by omega, by omega, ?_⟩
    rw [hsucc6, show rootAt s c = [⟨12, (c : Int), 0⟩] by rw [rootAt, decide_eq_true (by omega)]; rfl]
    refine rR ?_ <;> first | exact hdT | apply zN
    exact Mv.app (k + 3) (k + 1) ⟨by omega, by omega⟩ ⟨by omega, by omega⟩ (wk_low (by omega) (by simp -dsimp -implicitDefEqProofs only [go_sem, List.map_append, Flt.row, eq_self, ↓reduceIte]) (by simp -dsimp -implicitDefEqProofs only [go_sem, List.map_append, Flt.row, eq_self, ↓reduceIte]) (by simp -dsimp -implicitDefEqProofs only [go_sem, List.map_append, Flt.row, eq_self, ↓reduceIte]) (by simp -dsimp -implicitDefEqProofs only [go_sem, List.map_append, Flt.row, eq_self, ↓reduceIte]))
  have hcn : c = s.cpus.toNat := by omega
  subst hcn
  clear hsucc6 hfl
  refine M_forO (X := Nat) rfl [0,1,2,3,4,5,6,7,8,9,10,15,31,38,45,51,62,72,101,112,134,144,163] (k + 2) (fun c => [(10, .lit (.int .i64 (c : Int))), (3, accV (k + 1) ((l4 ++ flats (curAt s) c).map Flt.row))]) (fun c => accH (k + 1) 3 ((l4 ++ flats (curAt s) c).map Flt.row) [(k, ⟨7, true, [s.cells]⟩)]) (fun c => c ≤ s.cpus.toNat) (fun c => s.cpus.toNat - c) 0 ?_ (Nat.zero_le _) ?_
  · rw [flats_zero, List.append_nil]
    refine rR ?_ <;> first | exact hdT | apply zN
    exact wkF
  intro c hc
  have hfl := flats_len (f := curAt s) (m := 1) (fun c => iff1_len1 _ _) c
  obtain ⟨l5, e5, h5⟩ : ∃ x, x = l4 ++ flats (curAt s) c ∧ x.length ≤ l4.length + c := ⟨_, rfl, by simp; omega⟩
  rw [← e5]
  have hsucc7 : l4 ++ flats (curAt s) (c + 1) = l5 ++ curAt s c := by rw [e5, flats_succ, List.append_assoc]
  refine rR ?_ <;> first | exact hdT | apply zN
  refine wl ?_ <;> and_intros <;> first | exact hdT | (apply zM; (repeat intro ht); apply zM; (repeat intro hg); apply zM)
  · obtain ⟨b, eb⟩ : ∃ b, b = anyB (isReady s (s.cur c) c) s.nt := ⟨_, rfl⟩
    refine dl [.ret (.lit (.bool b))] ?_ <;> and_intros <;> first | exact hdT | (apply zM; (repeat intro ht); apply zM; (repeat intro hg); apply zM)
    · rw [eb]; exact ready_ref s (s.cur c) c hnt
    all_goals (refine wl ?_ <;> and_intros <;> first | exact hdT | (apply zM; (repeat intro ht); apply zM; (repeat intro hg); apply zM))
    · refine ⟨c + 1, by omega, by omega, ?_⟩
      rw [hsucc7, show curAt s c = [⟨13, (c : Int), 0⟩] by rw [curAt, ← eb, ht, decide_eq_true hg]; rfl]
      refine rR ?_ <;> first | exact hdT | apply zN
      exact Mv.app (k + 3) (k + 1) ⟨by omega, by omega⟩ ⟨by omega, by omega⟩ (wk_low (by omega) (by simp -dsimp -implicitDefEqProofs only [go_sem, List.map_append, Flt.row, eq_self, ↓reduceIte]) (by simp -dsimp -implicitDefEqProofs only [go_sem, List.map_append, Flt.row, eq_self, ↓reduceIte]) (by simp -dsimp -implicitDefEqProofs only [go_sem, List.map_append, Flt.row, eq_self, ↓reduceIte]) (by simp -dsimp -implicitDefEqProofs only [go_sem, List.map_append, Flt.row, eq_self, ↓reduceIte]))
    · refine ⟨c + 1, by omega, by omega, ?_⟩
      rw [hsucc7, show curAt s c = [] by rw [curAt, ← eb, ht, Bool.not_true, Bool.and_false]; rfl, List.append_nil]
      refine rR ?_ <;> first | exact hdT | apply zN
      exact wkF
    · refine ⟨c + 1, by omega, by omega, ?_⟩
      rw [hsucc7, show curAt s c = [] by rw [curAt, decide_eq_false (fun h => h hg), Bool.false_and]; rfl, List.append_nil]
      refine rR ?_ <;> first | exact hdT | apply zN
      exact wkF
  · have hcn : c = s.cpus.toNat := by omega
    have hL : l5 = partsL s := by rw [e5, e4, e3, e2, e1, partsL, hcn]; simp
    refine M_racc rfl (id := k + 1) (s := 3) (l := List.map Flt.row l5) 2 (by simp -dsimp -implicitDefEqProofs only [go_sem, List.map_append, Flt.row, eq_self, ↓reduceIte]) (by simp -dsimp -implicitDefEqProofs only [go_sem, List.map_append, Flt.row, eq_self, ↓reduceIte]) ?_
    exact ⟨_, rfl, by rw [eR, hL]; exact VLe.refl _⟩
end Go.Proofs.T
end
section
namespace Go.Proofs.T
open Go Go.AM Go.Proofs
set_option maxRecDepth 20000
variable {Γ : List (Nat × List AVal)}
structure Mem where
  v : Int
  a : Int
  b : Int
def Mem.row (m : Mem) : List AVal := [.lit (.int .u64 m.v), .lit (.int .i64 m.a), .lit (.int .i64 m.b)]
attribute [go_sem] Mem.row
def flatM (f : Nat → List Mem) : Nat → List Mem
  | 0 => []
  | n + 1 => flatM f n ++ f n
theorem flatM_zero {f : Nat → List Mem} : flatM f 0 = [] := rfl
theorem flatM_succ {f : Nat → List Mem} {n : Nat} : flatM f (n + 1) = flatM f n ++ f n := rfl
theorem flatM_len {f : Nat → List Mem} {m : Nat} (h : ∀ i, (f i).length ≤ m) : ∀ n, (flatM f n).length ≤ n * m
  | 0 => by simp [flatM]
  | n + 1 => by have := flatM_len h n; have := h n; simp only [flatM, List.length_append, Nat.add_mul, Nat.one_mul]; omega
def ifM (b : Bool) (m : Mem) : List Mem := if b = true then [m] else []
theorem ifM_len (b : Bool) (m : Mem) : (ifM b m).length ≤ 1 := by unfold ifM; split <;> simp
def inQ (s : St) (g c : Int) (i : Nat) : Bool := (s.tsk i).ready && (decide ((s.tsk i).group = g) && decide ((s.tsk i).cpu = c))
def memT (s : St) (g c i : Nat) : List Mem := ifM (inQ s g c i) ⟨(s.tsk i).v, 0, (s.tsk i).id⟩
def memF (s : St) (c : Nat) : Nat → Nat → List Mem
  | 0, g => flatM (memT s g c) s.nt
  | f + 1, g => flatM (memT s g c) s.nt ++ flatM (fun h => ifM (decide (1 ≤ h ∧ s.par h = (g : Int)) && !(memF s c f h).isEmpty) ⟨(s.sp h c).v, 1, (h : Int)⟩) s.ns
def memS (s : St) (c g : Nat) (sub : Nat → List Mem) (h : Nat) : List Mem := ifM (decide (1 ≤ h ∧ s.par h = (g : Int)) && !(sub h).isEmpty) ⟨(s.sp h c).v, 1, (h : Int)⟩
set_option maxHeartbeats 4000000 in
theorem members_step (s : St) (hs : s.Small) (hp : PartOk s) (c : Nat) (hc : (c : Int) < s.cpus) (g : Nat) (sub : Nat → List Mem)
    (hsub : ∀ h, 1 ≤ h → h < s.ns → s.par h = (g : Int) → Pure Tryz.prog Γ 183 [.agg s.cells, .lit (.int .i64 (h : Int)), .lit (.int .i64 (c : Int))] (rows 3 ((sub h).map Mem.row))) :
    Pure Tryz.prog Γ 183 [.agg s.cells, .lit (.int .i64 (g : Int)), .lit (.int .i64 (c : Int))] (rows 3 ((flatM (memT s g c) s.nt ++ flatM (memS s c g sub) s.ns).map Mem.row)) := by
  obtain ⟨hng, hnk, hnu, hnt, hns, hnsp⟩ := id hs
  obtain ⟨ksp, kng, kns1, kc0, kc1, knu, k12⟩ := id hp
  refine Pure_at Tryz.func183 rfl 84 rfl (Nat.le_of_ble_eq_true rfl) rfl fun k => ?_
  obtain ⟨R, eR⟩ : ∃ R, R = (flatM (memT s g c) s.nt ++ flatM (memS s c g sub) s.ns).map Mem.row := ⟨_, rfl⟩
  rw [← eR]
  have kp : Kp [0,1,2,3,6,7,8,9,10,15,36,49,68] (fun i => i - k) := kpI
  refine wl ?_ <;> and_intros <;> first | exact hdT | (apply zM; (repeat intro ht); apply zM; (repeat intro hg); apply zM)
  refine M_forO (X := Nat) rfl [0,1,2,3,6,7,8,9,10,15,36,49,68] (k + 2) (fun i => [(8, .lit (.int .i64 (i : Int))), (7, accV (k + 1) ((flatM (memT s g c) i).map Mem.row))]) (fun i => accH (k + 1) 3 ((flatM (memT s g c) i).map Mem.row) [(k, ⟨7, true, [s.cells]⟩)]) (fun i => i ≤ s.nt) (fun i => s.nt - i) 0 ?_ (Nat.zero_le _) ?_
  · rw [flatM_zero, List.map_nil]
    refine rR ?_ <;> first | exact hdT | apply zN
    exact wkF
  intro i hi
  have hfl := flatM_len (f := memT s g c) (m := 1) (fun i => ifM_len _ _) i
  obtain ⟨l1, e1, h1⟩ : ∃ x, x = flatM (memT s g c) i ∧ x.length ≤ i := ⟨_, rfl, by omega⟩
  rw [← e1]
  have hsucc : flatM (memT s g c) (i + 1) = l1 ++ memT s g c i := by rw [e1]; rfl
  refine rR ?_ <;> first | exact hdT | apply zN
  refine wl ?_ <;> and_intros <;> first | exact hdT | (apply zM; (repeat intro ht); apply zM; (repeat intro hg); apply zM)
  · have hq := ‹(s.tsk i).ready = true›
    refine ⟨i + 1, by omega, by omega, ?_⟩
    rw [hsucc, show memT s g c i = [⟨(s.tsk i).v, 0, (s.tsk i).id⟩] by simp [memT, ifM, inQ, hq, hg, ht]]
    refine rR ?_ <;> first | exact hdT | apply zN
    exact Mv.app (k + 4) (k + 1) ⟨by omega, by omega⟩ ⟨by omega, by omega⟩ (wk_low (by omega) (by simp -dsimp -implicitDefEqProofs only [go_sem, List.map_append, Flt.row, eq_self, ↓reduceIte]) (by simp -dsimp -implicitDefEqProofs only [go_sem, List.map_append, Flt.row, eq_self, ↓reduceIte]) (by simp -dsimp -implicitDefEqProofs only [go_sem, List.map_append, Flt.row, eq_self, ↓reduceIte]) (by simp -dsimp -implicitDefEqProofs only [go_sem, List.map_append, Flt.row, eq_self, ↓reduceIte]))
  · refine ⟨i + 1, by omega, by omega, ?_⟩
    rw [hsucc, show memT s g c i = [] by simp [memT, ifM, inQ, ht], List.append_nil]
    refine rR ?_ <;> first | exact hdT | apply zN
    exact wkF
  · refine ⟨i + 1, by omega, by omega, ?_⟩
    rw [hsucc, show memT s g c i = [] by simp [memT, ifM, inQ, hg], List.append_nil]
    refine rR ?_ <;> first | exact hdT | apply zN
    exact wkF
  · refine ⟨i + 1, by omega, by omega, ?_⟩
    rw [hsucc, show memT s g c i = [] by simp [memT, ifM, inQ, hg], List.append_nil]
    refine rR ?_ <;> first | exact hdT | apply zN
    exact wkF
  have hin : i = s.nt := by omega
  subst hin
  clear hsucc hfl
  refine M_forO (X := Nat) rfl [0,1,2,3,6,7,8,9,10,15,36,49,68] (k + 2) (fun h => [(10, .lit (.int .i64 (h : Int))), (7, accV (k + 1) ((l1 ++ flatM (memS s c g sub) h).map Mem.row))]) (fun h => accH (k + 1) 3 ((l1 ++ flatM (memS s c g sub) h).map Mem.row) [(k, ⟨7, true, [s.cells]⟩)]) (fun h => 1 ≤ h ∧ h ≤ s.ns) (fun h => s.ns - h) 1 ?_ ⟨by omega, by omega⟩ ?_
  · rw [show flatM (memS s c g sub) 1 = [] from by simp [flatM, memS, ifM], List.append_nil]
    refine rR ?_ <;> first | exact hdT | apply zN
    exact wkF
  rintro h ⟨hh1, hh2⟩
  have hfl := flatM_len (f := memS s c g sub) (m := 1) (fun i => ifM_len _ _) h
  obtain ⟨l2, e2, h2⟩ : ∃ x, x = l1 ++ flatM (memS s c g sub) h ∧ x.length ≤ l1.length + h := ⟨_, rfl, by simp; omega⟩
  rw [← e2]
  have hsucc : l1 ++ flatM (memS s c g sub) (h + 1) = l2 ++ memS s c g sub h := by rw [e2, flatM_succ, List.append_assoc]
  refine rR ?_ <;> first | exact hdT | apply zN
  refine wl ?_ <;> and_intros <;> first | exact hdT | (apply zM; (repeat intro ht); apply zM; (repeat intro hg); apply zM)
  · by_cases hpg : s.par h = (g : Int)
    · have hb : (s.par h == (g : Int)) = true := by simp [hpg]
      have hsp := ksp h (by omega)
      obtain ⟨n, F, eF⟩ : ∃ n F, (.rd 3 n F : AVal) = rows 3 ((sub h).map Mem.row) ∧ n = (sub h).length := ⟨_, _, rfl, by simp⟩
      have uU := @hb
      refine cl [.ret (.rd 3 n F)] ?_ <;> and_intros <;> first | exact hdT | (apply zM; (repeat intro ht); apply zM; (repeat intro hg); apply zM)
      · rw [eF.1]; exact hsub h (by omega) (by omega) hpg
      have hn2 := eF.2
      have uU := Go.AM.uU
      refine wl ?_ <;> and_intros <;> first | exact hdT | (apply zM; (repeat intro ht); apply zM; (repeat intro hg); apply zM)
      · have hne : (sub h).isEmpty = false := by
          cases hq : sub h with
          | nil => rw [hq] at hn2; simp at hn2; omega
          | cons a b => rfl
        refine ⟨h + 1, ⟨by omega, by omega⟩, by omega, ?_⟩
        rw [hsucc, show memS s c g sub h = [⟨(s.sp h c).v, 1, (h : Int)⟩] by rw [memS, ifM, hne, decide_eq_true ⟨by omega, hpg⟩]; rfl]
        refine rR ?_ <;> first | exact hdT | apply zN
        exact Mv.app (k + 3) (k + 1) ⟨by omega, by omega⟩ ⟨by omega, by omega⟩ (wk_low (by omega) (by simp -dsimp -implicitDefEqProofs only [go_sem, List.map_append, Flt.row, eq_self, ↓reduceIte]) (by simp -dsimp -implicitDefEqProofs only [go_sem, List.map_append, Flt.row, eq_self, ↓reduceIte]) (by simp -dsimp -implicitDefEqProofs only [go_sem, List.map_append, Flt.row, eq_self, ↓reduceIte]) (by simp -dsimp -implicitDefEqProofs only [go_sem, List.map_append, Flt.row, eq_self, ↓reduceIte]))
      · have hne : (sub h).isEmpty = true := by
          cases hq : sub h with
          | nil => rfl
          | cons a b => rw [hq] at hn2; simp at hn2; omega
        refine ⟨h + 1, ⟨by omega, by omega⟩, by omega, ?_⟩
        rw [hsucc, show memS s c g sub h = [] by rw [memS, ifM, hne, Bool.not_true, Bool.and_false]; rfl, List.append_nil]
        refine rR ?_ <;> first | exact hdT | apply zN
        exact wkF
    · have hb : (s.par h == (g : Int)) = false := by simp [hpg]
      have uU := @hb
      refine cl [.ret .junk] ?_ <;> and_intros <;> first | exact hdT | (apply zM; (repeat intro ht); apply zM; (repeat intro hg); apply zM)
      refine wl ?_ <;> and_intros <;> first | exact hdT | (apply zM; (repeat intro ht); apply zM; (repeat intro hg); apply zM)
      refine ⟨h + 1, ⟨by omega, by omega⟩, by omega, ?_⟩
      rw [hsucc, show memS s c g sub h = [] by simp [memS, ifM, hpg], List.append_nil]
      refine rR ?_ <;> first | exact hdT | apply zN
      (have uU := @hb; exact wkU)
  · have hin : h = s.ns := by omega
    refine M_racc rfl (id := k + 1) (s := 3) (l := List.map Mem.row l2) 6 (by simp -dsimp -implicitDefEqProofs only [go_sem, List.map_append, Flt.row, eq_self, ↓reduceIte]) (by simp -dsimp -implicitDefEqProofs only [go_sem, List.map_append, Flt.row, eq_self, ↓reduceIte]) ?_
    exact ⟨_, rfl, by rw [eR, e2, e1, hin]; exact VLe.refl _⟩
theorem memF_succ (s : St) (c f g : Nat) : memF s c (f + 1) g = flatM (memT s g c) s.nt ++ flatM (memS s c g (memF s c f)) s.ns := rfl
theorem flatM_nil {f : Nat → List Mem} : ∀ {n : Nat}, (∀ i, i < n → f i = []) → flatM f n = []
  | 0, _ => rfl
  | n + 1, h => by rw [flatM, flatM_nil (fun i hi => h i (by omega)), h n (by omega)]; rfl
theorem members_ref (s : St) (hs : s.Small) (hp : PartOk s) (hpar : ∀ g, 1 ≤ g → g < s.ns → s.par g < g) (c : Nat) (hc : (c : Int) < s.cpus) : ∀ f g, s.ns - g ≤ f →
    Pure Tryz.prog Γ 183 [.agg s.cells, .lit (.int .i64 (g : Int)), .lit (.int .i64 (c : Int))] (rows 3 ((memF s c f g).map Mem.row)) := by
  intro f
  induction f with
  | zero =>
    intro g hg
    have h := members_step (Γ := Γ) s hs hp c hc g (fun _ => []) (fun h h1 h2 h3 => by have := hpar h h1 h2; omega)
    rw [flatM_nil (f := memS s c g (fun _ => [])) (fun i hi => by simp [memS, ifM]), List.append_nil] at h
    exact h
  | succ f ih =>
    intro g hg
    rw [memF_succ]
    exact members_step s hs hp c hc g (memF s c f) (fun h h1 h2 h3 => ih h (by have := hpar h h1 h2; omega))
end Go.Proofs.T
end
section
namespace Go.Proofs.T
open Go Go.AM Go.Proofs
set_option maxRecDepth 20000
variable {Γ : List (Nat × List AVal)}
def cntB (f : Nat → Bool) : Nat → Nat
  | 0 => 0
  | n + 1 => cntB f n + (if f n = true then 1 else 0)
theorem cntB_le (f : Nat → Bool) : ∀ n, cntB f n ≤ n
  | 0 => Nat.le_refl _
  | n + 1 => by have := cntB_le f n; simp only [cntB]; split <;> omega
def memV (l : List Mem) (i : Nat) : Int := (l.getD i ⟨0, 0, 0⟩).v
def belowB (s : St) (g c : Nat) (l : List Mem) (i : Nat) : Bool := decide ((s.sp g c).floor < memV l i)
def flrAt (s : St) (g c : Nat) : List Flt := iff1 (decide (0 < (memF s c s.ns g).length ∧ cntB (belowB s g c (memF s c s.ns g)) (memF s c s.ns g).length = (memF s c s.ns g).length)) ⟨14, (g : Int), (c : Int)⟩
def flrR (s : St) (g : Nat) : List Flt := flats (flrAt s g) s.cpus.toNat
def floorsL (s : St) : List Flt := flats (flrR s) s.ns
theorem memF_len (s : St) (c f g : Nat) : (memF s c f g).length ≤ s.nt + s.ns := by
  have h1 := flatM_len (f := memT s g c) (m := 1) (fun i => ifM_len _ _) s.nt
  cases f with
  | zero => rw [memF]; omega
  | succ f =>
    have h2 := flatM_len (f := memS s c g (memF s c f)) (m := 1) (fun i => ifM_len _ _) s.ns
    rw [memF_succ, List.length_append]; omega
set_option maxHeartbeats 4000000 in
theorem floors_ref (s : St) (hs : s.Small) (hp : PartOk s) (hpar : ∀ g, 1 ≤ g → g < s.ns → s.par g < g) : Pure Tryz.prog Γ 189 [.agg s.cells] (rows 3 ((floorsL s).map Flt.row)) := by
  obtain ⟨hng, hnk, hnu, hnt, hns, hnsp⟩ := id hs
  obtain ⟨ksp, kng, kns1, kc0, kc1, knu, k12⟩ := id hp
  refine Pure_at Tryz.func189 rfl 66 rfl (Nat.le_of_ble_eq_true rfl) rfl fun k => ?_
  obtain ⟨R, eR⟩ : ∃ R, R = (floorsL s).map Flt.row := ⟨_, rfl⟩
  rw [← eR]
  have kp : Kp [0,1,2,3,4,5,6,7,8,13,20,30,47,58] (fun i => i - k) := kpI
  refine wl ?_ <;> and_intros <;> first | exact hdT | (apply zM; (repeat intro ht); apply zM; (repeat intro hg); apply zM)
  refine M_forO (X := Nat) rfl [0,1,2,3,4,5,6,7,8,13,20,30,47,58] (k + 2) (fun g => [(4, .lit (.int .i64 (g : Int))), (3, accV (k + 1) ((flats (flrR s) g).map Flt.row))]) (fun g => accH (k + 1) 3 ((flats (flrR s) g).map Flt.row) [(k, ⟨7, true, [s.cells]⟩)]) (fun g => g ≤ s.ns) (fun g => s.ns - g) 0 ?_ (Nat.zero_le _) ?_
  · rw [flats_zero, List.map_nil]
    refine rR ?_ <;> first | exact hdT | apply zN
    exact wkF
  intro g hg
  have hfl := flats_len (f := flrR s) (m := 64) (fun g => by have := flats_len (f := flrAt s g) (m := 1) (fun i => iff1_len1 _ _) s.cpus.toNat; unfold flrR; omega) g
  obtain ⟨l1, e1, h1⟩ : ∃ x, x = flats (flrR s) g ∧ x.length ≤ g * 64 := ⟨_, rfl, hfl⟩
  rw [← e1]
  have hsucc : flats (flrR s) (g + 1) = l1 ++ flats (flrAt s g) s.cpus.toNat := by rw [e1]; rfl
  refine rR ?_ <;> first | exact hdT | apply zN
  refine wl ?_ <;> and_intros <;> first | exact hdT | (apply zM; (repeat intro ht); apply zM; (repeat intro hg); apply zM)
  · refine M_forO (X := Nat) rfl [0,1,2,3,4,5,6,7,8,13,20,30,47,58] (k + 2) (fun c => [(5, .lit (.int .i64 (c : Int))), (3, accV (k + 1) ((l1 ++ flats (flrAt s g) c).map Flt.row))]) (fun c => accH (k + 1) 3 ((l1 ++ flats (flrAt s g) c).map Flt.row) [(k, ⟨7, true, [s.cells]⟩)]) (fun c => c ≤ s.cpus.toNat) (fun c => s.cpus.toNat - c) 0 ?_ (Nat.zero_le _) ?_
    · rw [flats_zero, List.append_nil]
      refine rR ?_ <;> first | exact hdT | apply zN
      exact wkF
    intro c hc
    have hfc := flats_len (f := flrAt s g) (m := 1) (fun i => iff1_len1 _ _) c
    obtain ⟨l2, e2, h2⟩ : ∃ x, x = l1 ++ flats (flrAt s g) c ∧ x.length ≤ l1.length + c := ⟨_, rfl, by simp; omega⟩
    rw [← e2]
    have hsucc2 : l1 ++ flats (flrAt s g) (c + 1) = l2 ++ flrAt s g c := by rw [e2, flats_succ, List.append_assoc]
    refine rR ?_ <;> first | exact hdT | apply zN
    refine wl ?_ <;> and_intros <;> first | exact hdT | (apply zM; (repeat intro ht); apply zM; (repeat intro hg); apply zM)
    · obtain ⟨ml, em⟩ : ∃ ml, ml = memF s c s.ns g := ⟨_, rfl⟩
      refine cl [.ret (.rd 3 ml.length (fun j => (ml.map Mem.row).getD j []))] ?_ <;> and_intros <;> first | exact hdT | (apply zM; (repeat intro ht); apply zM; (repeat intro hg); apply zM)
      · have h := members_ref (Γ := Γ) s hs hp hpar c (by omega) s.ns g (by omega)
        rw [← em, rows, List.length_map] at h
        exact h
      refine wl ?_ <;> and_intros <;> first | exact hdT | (apply zM; (repeat intro ht); apply zM; (repeat intro hg); apply zM)
      have hml : ml.length ≤ 2000 := by rw [em]; have := memF_len s c s.ns g; omega
      have hspg := ksp g (by omega)
      have hcnt := cntB_le (belowB s g c ml)
      have hat : flrAt s g c = iff1 (decide (0 < ml.length ∧ cntB (belowB s g c ml) ml.length = ml.length)) ⟨14, (g : Int), (c : Int)⟩ := by rw [em]; rfl
      refine M_forO (X := Nat) rfl [0,1,2,3,4,5,6,7,8,13,20,30,47,58] (k + 2) (fun i => [(8, .lit (.int .i64 (i : Int))), (7, .lit (.int .i64 ((cntB (belowB s g c ml) i : Nat) : Int)))]) (fun i => accH (k + 1) 3 (l2.map Flt.row) [(k, ⟨7, true, [s.cells]⟩)]) (fun i => i ≤ ml.length) (fun i => ml.length - i) 0 ?_ (Nat.zero_le _) ?_
      · rw [cntB]
        refine rR ?_ <;> first | exact hdT | apply zN
        exact wkF
      intro i hi
      have hci := hcnt i
      have hstep : cntB (belowB s g c ml) (i + 1) = cntB (belowB s g c ml) i + (if belowB s g c ml i = true then 1 else 0) := rfl
      obtain ⟨n, en⟩ : ∃ n, n = cntB (belowB s g c ml) i := ⟨_, rfl⟩
      rw [← en]
      rw [← en] at hci hstep
      refine rR ?_ <;> first | exact hdT | apply zN
      by_cases hlt : i < ml.length
      · have hr : (ml.map Mem.row).getD i [] = Mem.row (ml.getD i ⟨0, 0, 0⟩) := by
          simp [List.getD_eq_getElem?_getD, List.getElem?_map, List.getElem?_eq_getElem hlt]
        have uU := zA @hr @Mem.row.eq_1
        refine wl ?_ <;> and_intros <;> first | exact hdT | (apply zM; (repeat intro ht); apply zM; (repeat intro hg); apply zM)
        · refine ⟨i + 1, by omega, by omega, ?_⟩
          rw [hstep, if_pos (by rw [belowB, memV]; exact decide_eq_true ht)]
          refine rR ?_ <;> first | exact hdT | apply zN
          (have uU := zA @hr @Mem.row.eq_1; exact wkU)
        · refine ⟨i + 1, by omega, by omega, ?_⟩
          rw [hstep, if_neg (by rw [belowB, memV]; simp only [decide_eq_true_eq]; omega)]
          refine rR ?_ <;> first | exact hdT | apply zN
          (have uU := zA @hr @Mem.row.eq_1; exact wkU)
      · have hin : i = ml.length := by omega
        rw [hin] at en
        refine wl ?_ <;> and_intros <;> first | exact hdT | (apply zM; (repeat intro ht); apply zM; (repeat intro hg); apply zM)
        · refine ⟨c + 1, by omega, by omega, ?_⟩
          rw [hsucc2, show flrAt s g c = [⟨14, (g : Int), (c : Int)⟩] by rw [hat, decide_eq_true ⟨by omega, by omega⟩]; rfl]
          refine rR ?_ <;> first | exact hdT | apply zN
          exact Mv.app (k + 3) (k + 1) ⟨by omega, by omega⟩ ⟨by omega, by omega⟩ (wk_low (by omega) (by simp -dsimp -implicitDefEqProofs only [go_sem, List.map_append, Flt.row, eq_self, ↓reduceIte]) (by simp -dsimp -implicitDefEqProofs only [go_sem, List.map_append, Flt.row, eq_self, ↓reduceIte]) (by simp -dsimp -implicitDefEqProofs only [go_sem, List.map_append, Flt.row, eq_self, ↓reduceIte]) (by simp -dsimp -implicitDefEqProofs only [go_sem, List.map_append, Flt.row, eq_self, ↓reduceIte]))
        · refine ⟨c + 1, by omega, by omega, ?_⟩
          rw [hsucc2, show flrAt s g c = [] by rw [hat, decide_eq_false (fun h => by have h1 := h.1; have h2 := h.2; omega)]; rfl, List.append_nil]
          refine rR ?_ <;> first | exact hdT | apply zN
          exact wkF
        · refine ⟨c + 1, by omega, by omega, ?_⟩
          rw [hsucc2, show flrAt s g c = [] by rw [hat, decide_eq_false (fun h => by have h1 := h.1; have h2 := h.2; omega)]; rfl, List.append_nil]
          refine rR ?_ <;> first | exact hdT | apply zN
          exact wkF
    · have hin : c = s.cpus.toNat := by omega
      refine ⟨g + 1, by omega, by omega, ?_⟩
      rw [hsucc, ← hin, ← e2]
      (try (simp -dsimp -implicitDefEqProofs only [go_sem, eq_self, ↓reduceIte]))
      exact wkF
  · have hgn : g = s.ns := by omega
    refine M_racc rfl (id := k + 1) (s := 3) (l := List.map Flt.row l1) 2 (by simp -dsimp -implicitDefEqProofs only [go_sem, List.map_append, Flt.row, eq_self, ↓reduceIte]) (by simp -dsimp -implicitDefEqProofs only [go_sem, List.map_append, Flt.row, eq_self, ↓reduceIte]) ?_
    exact ⟨_, rfl, by rw [eR, e1, hgn]; exact VLe.refl _⟩
end Go.Proofs.T
end
section
namespace Go.Proofs.T
open Go Go.AM Go.Proofs
set_option maxRecDepth 20000
variable {Γ : List (Nat × List AVal)}
def checkR (s : St) : List Flt := if refCfg s = false then [⟨1, 0, 0⟩] else if 0 < (shapesL s).length then shapesL s else if 0 < (partsL s).length then partsL s else floorsL s
theorem check_ref (s : St) (hs : s.Small) (hw : Wf s) (hok : refCfg s = true → (shapesL s).length = 0 → PartOk s ∧ ∀ g, 1 ≤ g → g < s.ns → s.par g < g) : Pure Tryz.prog Γ 112 [.agg s.cells] (rows 3 ((checkR s).map Flt.row)) := by
  obtain ⟨hng, hnk, hnu, hnt, hns, hnsp⟩ := id hs
  refine Pure_at Tryz.func112 rfl 25 rfl (Nat.le_of_ble_eq_true rfl) rfl fun k => ?_
  obtain ⟨R, eR⟩ : ∃ R, R = (checkR s).map Flt.row := ⟨_, rfl⟩
  rw [← eR]
  have kp : Kp [0,1,2,3,4,8,15,21] (fun i => i - k) := kpI
  refine wl ?_ <;> and_intros <;> first | exact hdT | (apply zM; (repeat intro ht); apply zM; (repeat intro hg); apply zM)
  refine cl [.ret (.lit (.bool (refCfg s)))] ?_ <;> and_intros <;> first | exact hdT | (apply zM; (repeat intro ht); apply zM; (repeat intro hg); apply zM)
  · exact rightConfig_ref s
  refine wl ?_ <;> and_intros <;> first | exact hdT | (apply zM; (repeat intro ht); apply zM; (repeat intro hg); apply zM)
  · refine M_ret rfl (Mv.frz_acc (id := k + 1) (s := 3) (l := [Flt.row ⟨1, 0, 0⟩]) 2 (by simp -dsimp -implicitDefEqProofs only [go_sem, List.map_append, Flt.row, eq_self, ↓reduceIte]) (by simp -dsimp -implicitDefEqProofs only [go_sem, List.map_append, Flt.row, eq_self, ↓reduceIte])) ⟨_, rfl, ?_⟩
    rw [eR, checkR, if_pos ht]
    exact VLe.refl _
  have hcfg := ht
  refine cl [.ret (.rd 3 (shapesL s).length (fun j => ((shapesL s).map Flt.row).getD j []))] ?_ <;> and_intros <;> first | exact hdT | (apply zM; (repeat intro ht); apply zM; (repeat intro hg); apply zM)
  · have h := shapes_ref (Γ := Γ) s hns
    rw [rows, List.length_map] at h
    exact h
  refine wl ?_ <;> and_intros <;> first | exact hdT | (apply zM; (repeat intro ht); apply zM; (repeat intro hg); apply zM)
  · refine C_ret rfl ⟨_, rfl, ?_⟩
    rw [eR, checkR, if_neg (by rw [hcfg]; simp), if_pos (by omega), rows, List.length_map]
    exact VLe.refl _
  have hsh : (shapesL s).length = 0 := by omega
  obtain ⟨hp, hpar⟩ := hok hcfg hsh
  refine cl [.ret (.rd 3 (partsL s).length (fun j => ((partsL s).map Flt.row).getD j []))] ?_ <;> and_intros <;> first | exact hdT | (apply zM; (repeat intro ht); apply zM; (repeat intro hg); apply zM)
  · have h := parts_ref (Γ := Γ) s hs hw hp
    rw [rows, List.length_map] at h
    exact h
  refine wl ?_ <;> and_intros <;> first | exact hdT | (apply zM; (repeat intro ht); apply zM; (repeat intro hg); apply zM)
  · refine C_ret rfl ⟨_, rfl, ?_⟩
    rw [eR, checkR, if_neg (by rw [hcfg]; simp), if_neg (by omega), if_pos (by omega), rows, List.length_map]
    exact VLe.refl _
  refine cl [.ret (rows 3 ((floorsL s).map Flt.row))] ?_ <;> and_intros <;> first | exact hdT | (apply zM; (repeat intro ht); apply zM; (repeat intro hg); apply zM)
  · exact floors_ref s hs hp hpar
  refine C_ret rfl ⟨_, rfl, ?_⟩
  rw [eR, checkR, if_neg (by rw [hcfg]; simp), if_neg (by omega), if_neg (by omega)]
  exact VLe.refl _
end Go.Proofs.T
end
section
namespace Go.Proofs.T
open Go Go.AM Go.Proofs
set_option maxRecDepth 20000
variable {Γ : List (Nat × List AVal)}
theorem flats_nil {f : Nat → List Flt} : ∀ {n : Nat}, (flats f n).length = 0 → ∀ i, i < n → f i = []
  | 0, _, i, h => by omega
  | n + 1, h, i, hi => by
    simp only [flats, List.length_append] at h
    by_cases he : i = n
    · subst he; exact List.eq_nil_of_length_eq_zero (by omega)
    · exact flats_nil (n := n) (by omega) i (by omega)
theorem shapes_nil {s : St} (h : (shapesL s).length = 0) : (s.nk : Int) = s.cpus ∧ (s.nu : Int) = s.cpus ∧ s.ns = s.ng ∧ ∀ g, g < s.ns → (s.nsp g : Int) = s.cpus := by
  unfold shapesL at h
  simp only [List.length_append] at h
  have h1 : (s.nk : Int) = s.cpus := by
    by_cases hc : (s.nk : Int) = s.cpus
    · exact hc
    · rw [if_pos hc] at h; simp at h
  have h2 : (s.nu : Int) = s.cpus := by
    by_cases hc : (s.nu : Int) = s.cpus
    · exact hc
    · rw [if_pos hc] at h; simp at h
  have h3 : s.ns = s.ng := by
    by_cases hc : s.ns = s.ng
    · exact hc
    · rw [if_pos hc] at h; simp at h
  refine ⟨h1, h2, h3, fun g hg => ?_⟩
  rw [if_neg (show ¬ s.ns ≠ s.ng from fun hh => hh h3)] at h
  have := flats_nil (f := shapeAt s) (by omega) g hg
  unfold shapeAt at this
  split at this
  · assumption
  · cases this
theorem rdep_par {par : Nat → Int} {g : Nat} (hg : 1 ≤ g) (h : rdep par 5 g 0 ≤ 4) : 0 ≤ par g ∧ par g < g := by
  rw [rdep, if_neg (by omega)] at h
  by_cases hc : par g < 0 ∨ (g : Int) ≤ par g
  · rw [if_pos hc] at h; omega
  · omega
theorem refCfg_spec {s : St} (h : refCfg s = true) : (1 ≤ s.cpus ∧ s.cpus ≤ 64 ∧ s.credit ≤ 1099511627776 ∧ 1 ≤ s.ng ∧ s.ng ≤ 256 ∧ s.par 0 = 0 ∧ s.wt 0 = 1) ∧ ∀ g, 1 ≤ g → g < s.ng → okR s g = true := by
  simp only [refCfg, Bool.and_eq_true, decide_eq_true_eq, Option.isNone_iff_eq_none] at h
  exact ⟨h.1, fb_none_iff.1 h.2⟩
theorem ref_ok {s : St} (h12 : s.ns ≤ 12) (h : refCfg s = true) (hsh : (shapesL s).length = 0) : PartOk s ∧ ∀ g, 1 ≤ g → g < s.ns → s.par g < g := by
  obtain ⟨⟨h1, h2, h3, h4, h5, h6, h7⟩, hall⟩ := refCfg_spec h
  obtain ⟨k1, k2, k3, k4⟩ := shapes_nil hsh
  refine ⟨⟨k4, k3, by omega, by omega, h2, k2, h12⟩, fun g hg hn => ?_⟩
  have := hall g hg (by omega)
  simp only [okR, Bool.and_eq_true, decide_eq_true_eq] at this
  exact (rdep_par hg this.2).2
end Go.Proofs.T
end
section
namespace Go.Proofs.T
open Go Go.AM Go.Proofs
set_option maxRecDepth 20000
theorem pdep_fuel {par : Nat → Int} : ∀ (F g : Nat), g ≤ F → (∀ j, 1 ≤ j → j ≤ g → 0 ≤ par j ∧ par j < j) → pdep par F g = pdep par g g := by
  intro F
  induction F using Nat.strongRecOn with
  | _ F ih =>
    intro g hg hv
    cases F with
    | zero => have : g = 0 := by omega
              subst this; rfl
    | succ F =>
      cases g with
      | zero => simp [pdep]
      | succ g =>
        obtain ⟨h1, h2⟩ := hv (g + 1) (by omega) (by omega)
        have hv' : ∀ j, 1 ≤ j → j ≤ (par (g + 1)).toNat → 0 ≤ par j ∧ par j < j := fun j h3 h4 => hv j h3 (by omega)
        rw [pdep, pdep, if_neg (by omega), if_neg (by omega), ih F (by omega) _ (by omega) hv', ih g (by omega) _ (by omega) hv']
theorem rdep_pdep {par : Nat → Int} : ∀ (f g n : Nat), (∀ j, 1 ≤ j → j ≤ g → 0 ≤ par j ∧ par j < j) → rdep par f g n = n + min f (pdep par g g)
  | 0, g, n, _ => by simp [rdep]
  | f + 1, 0, n, _ => by simp [rdep, pdep]
  | f + 1, g + 1, n, hv => by
    obtain ⟨h1, h2⟩ := hv (g + 1) (by omega) (by omega)
    have hv' : ∀ j, 1 ≤ j → j ≤ (par (g + 1)).toNat → 0 ≤ par j ∧ par j < j := fun j h3 h4 => hv j h3 (by omega)
    rw [rdep, if_neg (by omega), if_neg (by omega), rdep_pdep f _ _ hv', pdep, if_neg (by omega), pdep_fuel g _ (by omega) hv']
    omega
theorem chk_zero (s : St) : ((chk s).2 == 0) = true ↔ (s.ng ≤ 256 ∧ 1 ≤ s.ng ∧ s.par 0 = 0 ∧ s.wt 0 = 1) ∧ ∀ g, 1 ≤ g → g < s.ng → okG s g = true := by
  unfold chk
  by_cases h1 : 256 < s.ng
  · rw [if_pos h1]; simp; omega
  · rw [if_neg h1]
    by_cases h2 : s.ng = 0 ∨ ¬ (s.par 0 = 0 ∧ s.wt 0 = 1)
    · rw [if_pos h2]
      simp only [Int.reduceBEq, Bool.false_eq_true, false_iff]
      rintro ⟨⟨h3, h4, h5⟩, _⟩
      rcases h2 with h2 | h2
      · omega
      · exact h2 h5
    · rw [if_neg h2]
      have h3 : ¬ s.ng = 0 := fun h => h2 (.inl h)
      have h4 : s.par 0 = 0 ∧ s.wt 0 = 1 := Classical.byContradiction fun h => h2 (.inr h)
      cases hf : fb (okG s) s.ng with
      | none =>
        simp only [beq_self_eq_true, true_iff]
        exact ⟨⟨by omega, by omega, h4⟩, fb_none_iff.1 hf⟩
      | some g =>
        have hne : (chkE s g == 0) = false := by unfold chkE; split <;> (try split) <;> rfl
        simp only [hne, Bool.false_eq_true, false_iff]
        rintro ⟨_, hall⟩
        rw [fb_none_iff.2 hall] at hf
        cases hf
theorem ok_iff (s : St) (n : Nat) : (∀ g, 1 ≤ g → g < n → okG s g = true) ↔ ∀ g, 1 ≤ g → g < n → okR s g = true := by
  constructor
  · intro h g h1 h2
    have hv : ∀ j, 1 ≤ j → j ≤ g → 0 ≤ s.par j ∧ s.par j < j := fun j h3 h4 => by
      have := h j h3 (by omega)
      simp only [okG, okP, Bool.and_eq_true, decide_eq_true_eq] at this
      exact this.1
    have := h g h1 h2
    simp only [okG, Bool.and_eq_true, decide_eq_true_eq] at this
    simp only [okR, Bool.and_eq_true, decide_eq_true_eq]
    refine ⟨this.2.1, ?_⟩
    rw [rdep_pdep 5 g 0 hv]; omega
  · intro h g h1 h2
    have hv : ∀ j, 1 ≤ j → j ≤ g → 0 ≤ s.par j ∧ s.par j < j := fun j h3 h4 => by
      have := h j h3 (by omega)
      simp only [okR, Bool.and_eq_true, decide_eq_true_eq] at this
      exact rdep_par h3 this.2
    have := h g h1 h2
    simp only [okR, Bool.and_eq_true, decide_eq_true_eq] at this
    simp only [okG, okP, Bool.and_eq_true, decide_eq_true_eq]
    have h5 := this.2
    rw [rdep_pdep 5 g 0 hv] at h5
    exact ⟨hv g h1 (Nat.le_refl _), this.1, by omega⟩
theorem cfg_eq (s : St) : modCfg s = refCfg s := by
  rw [Bool.eq_iff_iff]
  simp only [modCfg, refCfg, Bool.and_eq_true, decide_eq_true_eq, Option.isNone_iff_eq_none, fb_none_iff, chk_zero, ok_iff]
  constructor
  · rintro ⟨⟨h1, h2, h3⟩, ⟨h4, h5, h6, h7⟩, h8⟩
    exact ⟨⟨h1, h2, h3, h5, h4, h6, h7⟩, h8⟩
  · rintro ⟨⟨h1, h2, h3, h5, h4, h6, h7⟩, h8⟩
    exact ⟨⟨h1, h2, h3⟩, ⟨h4, h5, h6, h7⟩, h8⟩
end Go.Proofs.T
end
section
namespace Go.Proofs.T
open Go Go.AM Go.Proofs
set_option maxRecDepth 20000
theorem iff1_nil {b : Bool} {f : Flt} : iff1 b f = [] ↔ b = false := by cases b <;> simp [iff1]
theorem shapeA_eq (s : St) : shapeA s = shapesL s := by
  unfold shapeA shapesL iff1
  by_cases h1 : (s.nk : Int) = s.cpus <;> by_cases h2 : (s.nu : Int) = s.cpus <;> by_cases h3 : s.ns = s.ng <;> simp [h1, h2, h3] <;> omega
end Go.Proofs.T
end
section
namespace Go.Proofs
open Go.Shelf
def Tryz.sortF_ren : Go.Shelf.Ren := ⟨fun | 6 => 195 | 15 => 119 | 14 => 247 | 28 => 206 | 29 => 207 | 20 => 276 | 21 => 277 | 22 => 278 | 23 => 279 | 24 => 280 | 25 => 281 | 26 => 282 | 27 => 283 | 46 => 301 | 47 => 249 | 48 => 250 | 49 => 302 | 50 => 303 | 57 => 316 | n => n, fun | 22 => 122 | 24 => 125 | 25 => 258 | 3 => 3 | 39 => 189 | 0 => 0 | 53 => 50 | 55 => 22 | 4 => 4 | 46 => 261 | 45 => 260 | 50 => 204 | 5 => 5 | 9 => 9 | 66 => 300 | 70 => 303 | 76 => 326 | 77 => 285 | n => n, fun | n => n⟩
theorem Tryz.sortF : Go.Proofs.SlLaysF0.n6 Tryz.prog Tryz.sortF_ren := {
  mixed := by kernel_rfl
  f6 := ⟨Tryz.f195.name, by decide, Tryz.func195.trans (congrArg some (by kernel_rfl))⟩
  f14 := ⟨Tryz.f247.name, by decide, Tryz.func247.trans (congrArg some (by kernel_rfl))⟩
  f15 := Tryz.func119.trans (congrArg some (by kernel_rfl))
  f20 := ⟨Tryz.f276.name, by decide, Tryz.func276.trans (congrArg some (by kernel_rfl))⟩
  f21 := ⟨Tryz.f277.name, by decide, Tryz.func277.trans (congrArg some (by kernel_rfl))⟩
  f22 := ⟨Tryz.f278.name, by decide, Tryz.func278.trans (congrArg some (by kernel_rfl))⟩
  f23 := ⟨Tryz.f279.name, by decide, Tryz.func279.trans (congrArg some (by kernel_rfl))⟩
  f24 := ⟨Tryz.f280.name, by decide, Tryz.func280.trans (congrArg some (by kernel_rfl))⟩
  f25 := ⟨Tryz.f281.name, by decide, Tryz.func281.trans (congrArg some (by kernel_rfl))⟩
  f26 := ⟨Tryz.f282.name, by decide, Tryz.func282.trans (congrArg some (by kernel_rfl))⟩
  f27 := ⟨Tryz.f283.name, by decide, Tryz.func283.trans (congrArg some (by kernel_rfl))⟩
  f28 := Tryz.func206.trans (congrArg some (by kernel_rfl))
  f29 := Tryz.func207.trans (congrArg some (by kernel_rfl))
  f46 := ⟨Tryz.f301.name, by decide, Tryz.func301.trans (congrArg some (by kernel_rfl))⟩
  f47 := Tryz.func249.trans (congrArg some (by kernel_rfl))
  f48 := Tryz.func250.trans (congrArg some (by kernel_rfl))
  f49 := ⟨Tryz.f302.name, by decide, Tryz.func302.trans (congrArg some (by kernel_rfl))⟩
  f50 := ⟨Tryz.f303.name, by decide, Tryz.func303.trans (congrArg some (by kernel_rfl))⟩
  f57 := ⟨Tryz.f316.name, by decide, Tryz.func316.trans (congrArg some (by kernel_rfl))⟩
  t0 := Tryz.underlying0
  a0 := Tryz.isAgg0
  z0 := Tryz.sizeOf0
  v0 := Tryz.zeroValue0
  t3 := Tryz.underlying3
  a3 := Tryz.isAgg3
  z3 := Tryz.sizeOf3
  v3 := Tryz.zeroValue3
  t4 := Tryz.underlying4
  a4 := Tryz.isAgg4
  z4 := Tryz.sizeOf4
  v4 := Tryz.zeroValue4
  t5 := Tryz.underlying5
  a5 := Tryz.isAgg5
  z5 := Tryz.sizeOf5
  v5 := Tryz.zeroValue5
  t9 := Tryz.underlying9
  a9 := Tryz.isAgg9
  z9 := Tryz.sizeOf9
  v9 := Tryz.zeroValue9
  t22 := Tryz.underlying122
  a22 := Tryz.isAgg122
  z22 := Tryz.sizeOf122
  v22 := Tryz.zeroValue122
  t25 := Tryz.underlying258
  a25 := Tryz.isAgg258
  z25 := Tryz.sizeOf258
  v25 := Tryz.zeroValue258
  t39 := Tryz.underlying189
  a39 := Tryz.isAgg189
  z39 := Tryz.sizeOf189
  v39 := Tryz.zeroValue189
  t45 := Tryz.underlying260
  a45 := Tryz.isAgg260
  z45 := Tryz.sizeOf260
  v45 := Tryz.zeroValue260
  t46 := Tryz.underlying261
  a46 := Tryz.isAgg261
  z46 := Tryz.sizeOf261
  v46 := Tryz.zeroValue261
  t50 := Tryz.underlying204
  a50 := Tryz.isAgg204
  z50 := Tryz.sizeOf204
  v50 := Tryz.zeroValue204
  t53 := Tryz.underlying50
  a53 := Tryz.isAgg50
  z53 := Tryz.sizeOf50
  v53 := Tryz.zeroValue50
  t55 := Tryz.underlying22
  a55 := Tryz.isAgg22
  z55 := Tryz.sizeOf22
  v55 := Tryz.zeroValue22
  t66 := Tryz.underlying300
  a66 := Tryz.isAgg300
  z66 := Tryz.sizeOf300
  v66 := Tryz.zeroValue300
  t70 := Tryz.underlying303
  a70 := Tryz.isAgg303
  z70 := Tryz.sizeOf303
  v70 := Tryz.zeroValue303
  t76 := Tryz.underlying326
  a76 := Tryz.isAgg326
  z76 := Tryz.sizeOf326
  v76 := Tryz.zeroValue326
  t77 := Tryz.underlying285
  a77 := Tryz.isAgg285
  z77 := Tryz.sizeOf285
  v77 := Tryz.zeroValue285 }
end Go.Proofs
end
section
namespace Go.AM
open Go.Sort Go.Proofs
set_option maxRecDepth 20000
section
variable {Γ : List (Nat × List AVal)} {w w' : World} {G G' : Nat → Prop} {ρ ρ' : Names} {H : Owner}
theorem step_grow (S : Allow) (os : Array Obj) : Step S w G ρ (grow w os) G ρ :=
  ⟨by rw [size_grow]; omega, fun b hb _ => heap_grow_old w os hb, fun b hb => shp_of (heap_grow_old w os hb), fun _ h => h, fun _ h => .inl h, fun _ h => .inl h, fun _ _ => .inr rfl, rfl, rfl, rfl⟩
theorem HRel.grow (h : HRel Γ w G ρ H) (os : Array Obj) : HRel Γ (grow w os) G ρ H :=
  h.after (step_grow (fun _ => True) os) H h.dom (fun id B A hH => by
    obtain ⟨hA, b, hb, hg, _⟩ := h.blk id B A hH
    exact ⟨hA, .inl ⟨A, b, hH, fun _ h => h, fun _ _ => trivial, rfl, hb, heap_grow_old w os (h.owned_lt ⟨id, _, hb⟩), hg⟩⟩) h.inj (fun b hb => by rw [size_grow]; have := h.ro b hb; omega)
theorem HRel.rows {S : Allow} (h : HRel Γ w G ρ H) {id b : Nat} {B B' : Blk} {A : Allow} (hid : H id = some (B, A)) (hb : ρ id = some (b, B.sz)) (hsz : B'.sz = B.sz) {C C' : Array Value} {ty : TypeId} {H' : Owner}
    (hH' : ∀ i, H' i = if i = id then some (B', A) else H i)
    (hC0 : w.heap[b]? = some (.cells C ty (0, 0))) (hC : w'.heap[b]? = some (.cells C' ty (0, 0))) (hcs : C'.size = C.size) (hother : ∀ j, j ≠ b → w'.heap[j]? = w.heap[j]?) (hsize : w'.heap.size = w.heap.size)
    (h1 : w'.os = w.os) (h2 : w'.tape = w.tape) (h3 : w'.output = w.output)
    (hS : ∀ i B A, H i = some (B, A) → ∀ j, A j → S j)
    (hl : ∀ (r : Nat) row, B'.rows[r]? = some row → row.length = B'.sz)
    (hr : ∀ r row c v, B'.rows[r]? = some row → row[c]? = some v → ∃ cv, C'[r * B'.sz + c]? = some cv ∧ V w G noNames noAllow v cv) (hp : B'.pure = true) :
    HRel Γ w' G ρ H' ∧ Step S w G ρ w' G ρ := by
  have hbo : owned ρ b := ⟨id, _, hb⟩
  have hbg := h.owned_not_ro hbo
  have hs : Step S w G ρ w' G ρ := by
    refine ⟨by omega, fun j hj ho => hother j (fun he => ho (he ▸ hbo)), fun j hj => ?_, fun _ h => h, fun _ h => .inl h, fun _ h => .inl h, fun _ _ => .inr rfl, h1, h2, h3⟩
    by_cases he : j = b
    · subst he; unfold shp; rw [hC, hC0]; simp only [Option.map_some, hcs]
    · exact shp_of (hother j he)
  refine ⟨h.after hs _ ?_ ?_ h.inj (fun c hc => by rw [hsize]; exact h.ro c hc), hs⟩
  · intro i hi
    rw [hH'] at hi
    split at hi
    · cases hi
    · exact h.dom i hi
  · intro i B1 A1 hi
    rw [hH'] at hi
    split at hi
    · rename_i he; subst he; cases hi
      obtain ⟨hA, _⟩ := h.blk i B A hid
      refine ⟨hA, .inr ⟨b, by rw [hsz]; exact hb, hbg, ⟨⟨C', _, ⟨hC, .cells⟩, fun r row c v hrow hc => ?_⟩, hl⟩⟩⟩
      obtain ⟨cv, hcv, hv⟩ := hr r row c v hrow hc
      refine ⟨cv, hcv, ?_⟩
      simp only [hp, if_true]
      exact hv.mono hs.g (fun b hb => hs.keep b (h.ro b hb) (fun ho => h.owned_not_ro ho hb)) hs.shape (fun _ h => h) (fun _ h => h.elim)
    · rename_i hne
      obtain ⟨hAid, b1, hb1, hg1, hBR⟩ := h.blk i B1 A1 hi
      exact ⟨hAid, .inl ⟨A1, b1, hi, fun _ h => h, hS i B1 A1 hi, rfl, hb1, hother b1 (by rintro rfl; exact hne (h.inj i id _ _ _ hb1 hb)), hg1⟩⟩
end
end Go.AM
namespace Go.Proofs.T
open Go Go.Proofs Go.Shelf Go.RowKit Go.Lib Go.Sort
def cfI (r a b r' a' b' : Int) : Int := if r = r' then (if a = a' then b - b' else a - a') else r - r'
set_option maxHeartbeats 2000000 in
theorem closure (r a b r' a' b' : Int) (hr : 0 ≤ r ∧ r < 256) (ha : 0 ≤ a ∧ a < 1000000) (hb : 0 ≤ b ∧ b < 1000000) (hr' : 0 ≤ r' ∧ r' < 256) (ha' : 0 ≤ a' ∧ a' < 1000000) (hb' : 0 ≤ b' ∧ b' < 1000000) (W : World) :
    Calls Tryz.prog 196 #[.agg #[.int .u8 r, .int .i64 a, .int .i64 b], .agg #[.int .u8 r', .int .i64 a', .int .i64 b']] W fun e w' => e = .returned (.int .i64 (cfI r a b r' a' b')) ∧ ∃ q os', w' = grow (W.drewN q) os' := by
  by_cases h1 : r = r'
  · by_cases h2 : a = a'
    · have e : cfI r a b r' a' b' = b - b' := by simp [cfI, h1, h2]
      rw [e]; subst h1 h2; clear e
      go_enter Tryz.func196, Tryz.ntmps196
      go_wp2
      go_ret
      exact ⟨rfl, 0, _, by rw [alloc_eq_grow, alloc_eq_grow, grow_grow]; rfl⟩
    · have e : cfI r a b r' a' b' = a - a' := by simp [cfI, h1, h2]
      rw [e]; subst h1; clear e
      go_enter Tryz.func196, Tryz.ntmps196
      go_wp2
      go_ret
      exact ⟨rfl, 0, _, by rw [alloc_eq_grow, alloc_eq_grow, grow_grow]; rfl⟩
  · have e : cfI r a b r' a' b' = r - r' := by simp [cfI, h1]
    rw [e]; clear e
    go_enter Tryz.func196, Tryz.ntmps196
    go_wp2
    go_ret
    exact ⟨rfl, 0, _, by rw [alloc_eq_grow, alloc_eq_grow, grow_grow]; rfl⟩
end Go.Proofs.T
namespace Go.Proofs.T
open Go Go.AM Go.Proofs Go.Shelf Go.RowKit Go.Lib Go.Sort
def Flt.ok (f : Flt) : Prop := (0 ≤ f.r ∧ f.r < 256) ∧ (0 ≤ f.a ∧ f.a < 1000000) ∧ (0 ≤ f.b ∧ f.b < 1000000)
structure BF where
  f : Flt
  h : f.ok
instance : Inhabited BF := ⟨⟨⟨0, 0, 0⟩, by unfold Flt.ok; simp⟩⟩
def encF (x : BF) : List Value := [.int .u8 x.f.r, .int .i64 x.f.a, .int .i64 x.f.b]
def cfF (x y : Flt) : Int := cfI x.r x.a x.b y.r y.a y.b
def cfB (x y : BF) : Int := cfF x.f y.f
theorem ltB_iff (x y : BF) : ltOf cfB x y = true ↔ cfF x.f y.f < 0 := ⟨fun h => of_decide_eq_true h, fun h => decide_eq_true h⟩
theorem ltB_false (x y : BF) : ltOf cfB x y = false ↔ 0 ≤ cfF x.f y.f := ⟨fun h => Int.not_lt.1 (of_decide_eq_false h), fun h => decide_eq_false (Int.not_lt.2 h)⟩
theorem cfF_lt (x y : Flt) : cfF x y < 0 ↔ (x.r < y.r ∨ (x.r = y.r ∧ (x.a < y.a ∨ (x.a = y.a ∧ x.b < y.b)))) := by
  unfold cfF cfI
  split
  · split <;> omega
  · omega
theorem cfF_ge (x y : Flt) : 0 ≤ cfF x y ↔ ¬ (x.r < y.r ∨ (x.r = y.r ∧ (x.a < y.a ∨ (x.a = y.a ∧ x.b < y.b)))) := by
  rw [← cfF_lt]; omega
theorem swoB : SWO (ltOf cfB) where
  irrefl x := by rw [ltB_false, cfF_ge]; omega
  trans x y z h1 h2 := by rw [ltB_iff, cfF_lt] at *; omega
  ntrans x y z h1 h2 := by rw [ltB_false, cfF_ge] at *; omega
theorem totF (x y : Flt) (h1 : 0 ≤ cfF x y) (h2 : 0 ≤ cfF y x) : x = y := by
  rw [cfF_ge] at h1 h2
  cases x; cases y
  simp only [Flt.mk.injEq] at *
  omega
theorem cmpB (blk off size : Nat) (w : World) : CmpLays Tryz.prog 196 #[] encF 3 cfB blk off size w := fun _ _ _ _ x y =>
  closure x.f.r x.f.a x.f.b y.f.r y.f.a y.f.b x.h.1 x.h.2.1 x.h.2.2 y.h.1 y.h.2.1 y.h.2.2 _
def toB (l : List Flt) (hb : ∀ f ∈ l, f.ok) : Array BF := (l.pmap (fun f h => (⟨f, h⟩ : BF)) hb).toArray
theorem toB_size (l : List Flt) (hb : ∀ f ∈ l, f.ok) : (toB l hb).size = l.length := by simp [toB]
theorem toB_get (l : List Flt) (hb : ∀ f ∈ l, f.ok) (i : Nat) (hi : i < l.length) : ((toB l hb)[i]!).f = l[i] := by
  rw [getElem!_pos (toB l hb) i (by rw [toB_size]; exact hi)]
  simp [toB]
theorem getBang_row (x : BF) (c : Nat) (v : AVal) (h : (Flt.row x.f)[c]? = some v) : v = .lit ((encF x)[c]!) := by
  match c with
  | 0 => simp [Flt.row] at h; simp [encF, h]
  | 1 => simp [Flt.row] at h; simp [encF, h]
  | 2 => simp [Flt.row] at h; simp [encF, h]
  | c + 3 => simp [Flt.row] at h
theorem row_some (x : BF) (c : Nat) (hc : c < 3) : (Flt.row x.f)[c]? = some (.lit ((encF x)[c]!)) := by
  match c with
  | 0 => rfl
  | 1 => rfl
  | 2 => rfl
theorem holdsF {w : World} {G : Nat → Prop} {b : Nat} {C : Array Value} {ty : TypeId} (l : List Flt) (hb : ∀ f ∈ l, f.ok) (hC : w.heap[b]? = some (.cells C ty (0, 0)))
    (hr : ∀ r row c v, (l.map Flt.row)[r]? = some row → row[c]? = some v → ∃ cv, C[r * 3 + c]? = some cv ∧ V w G noNames noAllow v cv) : HoldsK encF 3 w b 0 (toB l hb) := by
  intro j hj
  rw [size_flatK, toB_size] at hj
  have hq : j / 3 < l.length := by omega
  refine ⟨?_, ?_⟩
  · rw [get_flatK encF 3 _ j (by rw [toB_size]; exact hj)]
    have h1 : (l.map Flt.row)[j / 3]? = some (Flt.row ((toB l hb)[j / 3]!).f) := by
      rw [List.getElem?_map, List.getElem?_eq_getElem hq, toB_get l hb _ hq]; rfl
    obtain ⟨cv, h3, h4⟩ := hr (j / 3) _ (j % 3) _ h1 (row_some _ (j % 3) (Nat.mod_lt _ (by omega)))
    cases h4
    unfold World.cell?
    simp only [hC]
    rw [show j / 3 * 3 + j % 3 = j by omega] at h3
    simp [h3]
  · unfold World.frozen?
    simp [hC]
theorem toB_sorted (l R : List Flt) (hb : ∀ f ∈ l, f.ok) (hR : ∀ f ∈ R, f.ok) (hp : R.Perm l) (hs : R.Pairwise (fun x y => 0 ≤ cfF y x)) (d : Array BF) (h1 : PermIn 0 (toB l hb).size (toB l hb) d) (h2 : SortedIn (ltOf cfB) 0 (toB l hb).size d) : d = toB R hR := by
  have hT : ∀ x y : BF, ltOf cfB x y = false → ltOf cfB y x = false → x = y := fun x y h3 h4 => by
    rw [ltB_false] at h3 h4
    have := totF _ _ h3 h4
    cases x; cases y; cases this; rfl
  have e1 := sorted_unique_holds swoB hT _ _ h1 h2
  have hsz : (toB R hR).size = (toB l hb).size := by rw [toB_size, toB_size, hp.length_eq]
  have hpm : (toB R hR).toList.Perm (toB l hb).toList := by
    simp only [toB]
    have : ∀ (a b : List Flt) (ha : ∀ f ∈ a, f.ok) (hb : ∀ f ∈ b, f.ok), a.Perm b → (a.pmap (fun f h => (⟨f, h⟩ : BF)) ha).Perm (b.pmap (fun f h => (⟨f, h⟩ : BF)) hb) := fun a b ha hb h => h.pmap _
    exact this _ _ _ _ hp
  have h3 : PermIn 0 (toB l hb).size (toB l hb) (toB R hR) := by
    refine ⟨hsz, fun i hi => ?_, ?_⟩
    · rcases hi with hi | hi
      · omega
      · rw [getElem!_neg _ i (by omega), getElem!_neg _ i (by omega)]
    · rw [Array.extract_size, ← hsz, Array.extract_size]; exact hpm
  have h4 : SortedIn (ltOf cfB) 0 (toB l hb).size (toB R hR) := by
    intro i j _ hij hj
    rw [toB_size, ← hp.length_eq] at hj
    rw [ltB_false, toB_get R hR j hj, toB_get R hR i (by omega)]
    exact List.pairwise_iff_getElem.1 hs i j (by omega) hj hij
  exact Array.ext' (e1.trans (sorted_unique_holds swoB hT _ _ h3 h4).symm)
end Go.Proofs.T
namespace Go.Proofs.T
open Go Go.AM Go.Proofs Go.Shelf Go.RowKit Go.Lib Go.Sort
variable {Γ : List (Nat × List AVal)}
theorem putRow_heap {w : World} {b : Nat} {C : Array Value} {ty : TypeId} (n : Nat) (F : Array Value) (hC : w.heap[b]? = some (.cells C ty (0, 0))) :
    (putRow id (Sort.ahead w n) b 0 F).heap[b]? = some (.cells (putCells id 0 F C) ty (0, 0)) ∧ (∀ j, j ≠ b → (putRow id (Sort.ahead w n) b 0 F).heap[j]? = w.heap[j]?) ∧ (putRow id (Sort.ahead w n) b 0 F).heap.size = w.heap.size := by
  refine ⟨?_, fun j hj => ?_, ?_⟩
  · simp only [putRow, mapBlock, Sort.ahead, Array.getElem?_modify, if_true]; rw [hC]; rfl
  · simp only [putRow, mapBlock, Sort.ahead, Array.getElem?_modify]; rw [if_neg (fun h => hj h.symm)]
  · simp [putRow, mapBlock, Sort.ahead]
theorem putCells_get (F C : Array Value) (j : Nat) (hj : j < F.size) (hC : j < C.size) : (putCells id 0 F C)[j]? = some F[j]! := by
  simp only [putCells, Array.getElem?_mapIdx, Array.getElem?_eq_getElem hC, Option.map_some, Nat.zero_le, Nat.zero_add, hj, and_self, if_true, Nat.sub_zero, id]
theorem sortFunc (k F : Nat) (l R : List Flt) (hb : ∀ f ∈ l, f.ok) (hp : R.Perm l) (hs : R.Pairwise (fun x y => 0 ≤ cfF y x)) (hl : l.length ≤ 100000)
    (hnone : ∀ w, Calls Tryz.prog 195 #[.slice none 0 0, .func (.func 196) #[] #[]] w fun e w' => e = .returned (.tuple #[]) ∧ w' = w) :
    Tr Tryz.prog Γ 195 k [accV F (l.map Flt.row), .fn 196 []] (accH F 3 (l.map Flt.row) []) (fun k1 r1 H1 => k1 = k ∧ r1 = .tup [] ∧ H1 = accH F 3 (R.map Flt.row) []) := by
  intro A hA w G ρ cargs hr hvs
  obtain ⟨hlen, hv⟩ := hvs
  have h0 := hv 0 _ rfl
  have h1 := hv 1 _ rfl
  have hc2 : cargs = #[cargs.getD 0 undef, cargs.getD 1 undef] := by
    have hsz : cargs.size = 2 := hlen.symm
    apply Array.ext
    · simp [hsz]
    · intro i hi1 hi2
      match i with
      | 0 => simp [Array.getD, hsz]
      | 1 => simp [Array.getD, hsz]
      | i + 2 => omega
  obtain ⟨cs, hfn, hcs⟩ : ∃ cs : Array Value, cargs.getD 1 undef = .func (.func 196) #[] cs ∧ cs.size = 0 := by
    generalize cargs.getD 1 undef = x at h1
    cases h1 with
    | fn hl _ => exact ⟨_, rfl, hl.symm⟩
  have hcs' : cs = #[] := Array.eq_empty_of_size_eq_zero hcs
  subst hcs'
  cases l with
  | nil =>
    have hR : R = [] := hp.eq_nil
    subst hR
    have e0 : cargs.getD 0 undef = .slice none 0 0 := by
      generalize cargs.getD 0 undef = x at h0
      cases h0; rfl
    rw [hc2, e0, hfn]
    refine (hnone w).mono ?_
    rintro e w' ⟨rfl, rfl⟩
    refine ⟨.tuple #[], G, ρ, k, .tup [], [], rfl, ⟨rfl, rfl, rfl⟩, Nat.le_refl _, ?_, .tup rfl (fun j v hj => by simp at hj), Step.refl _ _ _ _⟩
    exact ⟨fun id _ => hr.dom id rfl, fun id B A' hid => by simp [ofHeap, AM.look] at hid, hr.inj, hr.ro, hr.glob⟩
  | cons x t =>
    obtain ⟨l, el⟩ : ∃ l, l = x :: t := ⟨_, rfl⟩
    have hne : l.length ≠ 0 := by rw [el]; simp
    have eV : accV F ((x :: t).map Flt.row) = .sl F 0 l.length := by rw [el]; simp [accV]
    have eH : ∀ q : List Flt, q.length ≠ 0 → accH F 3 (q.map Flt.row) [] = [(F, ⟨3, true, q.map Flt.row⟩)] := fun q hq => by
      cases q with
      | nil => simp at hq
      | cons a b => rfl
    rw [eV] at h0
    rw [← el, eH l hne] at hr
    rw [← el] at hb hp hl
    clear eV
    have hRne : R.length ≠ 0 := by rw [hp.length_eq]; exact hne
    rw [eH R hRne]
    have hid : ofHeap [(F, ⟨3, true, l.map Flt.row⟩)] A F = some (⟨3, true, l.map Flt.row⟩, A) := by simp [ofHeap, AM.look]
    obtain ⟨hAF, b, hρ, hgb, hBRF⟩ := hr.blk F _ _ hid
    simp only at hρ
    obtain ⟨cap, e0, sh, hsh⟩ : ∃ cap, cargs.getD 0 undef = .slice (some ⟨b, 0, none⟩) l.length cap ∧ ∃ sh, w.shape? b = some sh := by
      generalize cargs.getD 0 undef = x at h0
      generalize hll : l.length = ll at h0 ⊢
      cases h0 with
      | dangs _ hn => rw [hρ] at hn; cases hn
      | sl0 => exact absurd hll hne
      | sl _ hs hsh _ hnc _ ho =>
        rw [hρ] at hs; cases hs
        rcases ho with ho | ho
        · omega
        · rw [ho, Nat.zero_mul]; exact ⟨_, rfl, _, hsh⟩
    obtain ⟨⟨C, ty, hC, hrow⟩, hrl⟩ := hBRF.old hsh
    simp only [if_true] at hrow
    have hRok : ∀ f ∈ R, f.ok := fun f hf => hb f (hp.mem_iff.1 hf)
    have hblt : b < w.heap.size := hr.owned_lt ⟨F, 3, hρ⟩
    have eg : ∀ args w, (callFunc 196 args).run Tryz.prog w = .ok (.enter 196 args) w := enters_of Tryz.func196 (by kernel_rfl) rfl
    have hcon := AnyQ.slices_SortFunc Tryz.sortF 3 Tryz.isAgg125 Tryz.sizeOf125 encF (fun _ => rfl) (fun x v hv => by simp [encF] at hv; rcases hv with rfl | rfl | rfl <;> rfl) cfB swoB 196 #[] b 0 cap (toB l hb) w eg (cmpB _ _ _ _) (holdsF l hb hC hrow) hblt (by rw [toB_size]; omega)
    change Calls Tryz.prog 195 _ _ _ at hcon
    rw [hc2, e0, hfn]
    rw [toB_size] at hcon
    refine hcon.mono ?_
    rintro e w' ⟨rfl, d', n, os, hpm, hso, rfl⟩
    rw [← toB_size l hb] at hpm hso
    have hd := toB_sorted l R hb hRok hp hs d' hpm hso
    subst hd
    have hF : (flatK encF 3 (toB R hRok)).size = l.length * 3 := by rw [size_flatK, toB_size, hp.length_eq]
    obtain ⟨p1, p2, p3⟩ := putRow_heap n (flatK encF 3 (toB R hRok)) hC
    have hrows : ∀ r row c v, (R.map Flt.row)[r]? = some row → row[c]? = some v → ∃ cv, (putCells id 0 (flatK encF 3 (toB R hRok)) C)[r * 3 + c]? = some cv ∧ V w G noNames noAllow v cv := by
      intro r row c v hrw hcv
      have hrlt : r < R.length := by
        by_cases h : r < R.length
        · exact h
        · rw [List.getElem?_eq_none (by simp; omega)] at hrw; cases hrw
      have hrow' : row = Flt.row ((toB R hRok)[r]!).f := by
        rw [List.getElem?_map, List.getElem?_eq_getElem hrlt, Option.map_some, Option.some.injEq] at hrw
        rw [toB_get R hRok r hrlt]; exact hrw.symm
      subst hrow'
      have hc3 : c < 3 := by
        by_cases h : c < 3
        · exact h
        · rw [List.getElem?_eq_none (by simp [Flt.row]; omega)] at hcv; cases hcv
      have hv' := getBang_row _ c v hcv
      have hll : r < l.length := by rw [← hp.length_eq]; exact hrlt
      have hCs : r * 3 + c < C.size := by
        obtain ⟨cv, hcv1, _⟩ := hrow r _ c _ (by rw [List.getElem?_map, List.getElem?_eq_getElem hll]; rfl) (by rw [List.getElem?_eq_getElem (by simp [Flt.row]; omega)])
        by_cases h : r * 3 + c < C.size
        · exact h
        · rw [Array.getElem?_eq_none (by omega)] at hcv1; cases hcv1
      refine ⟨(encF ((toB R hRok)[r]!))[c]!, ?_, by rw [hv']; exact .lit⟩
      rw [putCells_get _ _ _ (by omega) hCs, get_flatK encF 3 _ _ (by rw [toB_size]; omega)]
      rw [show (r * 3 + c) / 3 = r by omega, show (r * 3 + c) % 3 = c by omega]
    have hHF : ∀ i, ofHeap [(F, (⟨3, true, R.map Flt.row⟩ : Blk))] A i = if i = F then some ((⟨3, true, R.map Flt.row⟩ : Blk), A) else ofHeap [(F, (⟨3, true, l.map Flt.row⟩ : Blk))] A i := fun i => by
      by_cases h : i = F
      · subst h; simp [ofHeap, AM.look]
      · have h' : ¬ F = i := fun e => h e.symm
        rw [if_neg h]; simp [ofHeap, AM.look, h']
    obtain ⟨q1, q2⟩ := HRel.rows (S := below k) (H' := ofHeap [(F, ⟨3, true, R.map Flt.row⟩)] A) (B' := ⟨3, true, R.map Flt.row⟩) hr hid hρ rfl hHF hC p1 (by simp [putCells]) p2 p3 rfl rfl rfl
      (fun i B A' hi j hj => by
        have : A' = A := by
          simp only [ofHeap, AM.look] at hi
          split at hi <;> simp at hi
          exact hi.2.symm
        subst this; exact hA j hj)
      (fun r row hrw => by
        rw [List.getElem?_map] at hrw
        cases hR : R[r]? with
        | none => rw [hR] at hrw; cases hrw
        | some f => rw [hR] at hrw; cases hrw; rfl)
      hrows rfl
    refine ⟨.tuple #[], G, ρ, k, .tup [], [(F, ⟨3, true, R.map Flt.row⟩)], rfl, ⟨rfl, rfl, rfl⟩, Nat.le_refl _, ?_, .tup rfl (fun j v hj => by simp at hj), ?_⟩
    · refine (q1.grow os).allow _ ?_ ?_
      · intro i hi
        simp only [ofHeap, Option.map_eq_none_iff] at hi ⊢; exact hi
      · intro i B A' hi
        simp only [ofHeap] at hi ⊢
        cases hlk : AM.look [(F, (⟨3, true, R.map Flt.row⟩ : Blk))] i with
        | none => rw [hlk] at hi; cases hi
        | some B1 => rw [hlk] at hi; cases hi; exact ⟨A, rfl, fun i hi => .inl hi⟩
    · exact q2.trans (step_grow (below k) os) (fun _ h => h)
end Go.Proofs.T
end
section
namespace Go.Proofs.T
open Go Go.AM Go.Proofs
set_option maxRecDepth 20000
variable {Γ : List (Nat × List AVal)}
theorem sort_none (w : World) : Calls Tryz.prog 195 #[.slice none 0 0, .func (.func 196) #[] #[]] w fun e w' => e = .returned (.tuple #[]) ∧ w' = w :=
  AnyF.slices_SortFunc_none Tryz.sortF none 0 _ w
theorem sorted (k L F : Nat) (s : St) (l R : List Flt) (hL : L < k) (hF : F < k) (hne : L ≠ F) (hb : ∀ f ∈ l, f.ok) (hp : R.Perm l) (hs : R.Pairwise (fun x y => 0 ≤ cfF y x)) (hl : l.length ≤ 100000) :
    Tr Tryz.prog Γ 117 k [.ptr L 0 0] (LK L F s l) (fun k1 r1 H1 => k1 = k ∧ r1 = accV F (R.map Flt.row) ∧ H1 = LK L F s R) := by
  obtain ⟨a1, a2, a3, a4, a5, a6⟩ := old_name hL
  obtain ⟨b1, b2, b3, b4, b5, b6⟩ := old_name hF
  obtain ⟨c1, c2⟩ := two_names hne
  have hV : accV F (l.map Flt.row) = accV F (R.map Flt.row) := by
    cases l with
    | nil => rw [hp.eq_nil]
    | cons a b =>
      cases R with
      | nil => exact absurd hp.length_eq (by simp)
      | cons c d => simp only [List.map_cons, accV, List.length_cons, List.length_map]; rw [show d.length = b.length by have := hp.length_eq; simpa using this]
  refine Tr_at Tryz.func117 rfl 12 rfl (Nat.le_of_ble_eq_true rfl) (W_upM ?_)
  have kp : Kp [0,2] (fun i => i - k) := kpI
  have uU := zA @a1 (zA @a2 (zA @a3 (zA @a4 (zA @a5 (zA @a6 (zA @b1 (zA @b2 (zA @b3 (zA @b4 (zA @b5 (zA @b6 (zA @c1 @c2))))))))))))
  refine wl ?_ <;> and_intros <;> first | exact hdT | (apply zM; (repeat intro ht); apply zM; (repeat intro hg); apply zM)
  refine cl [.gen (.tup []) k (accH F 3 (l.map Flt.row) []) (accH F 3 (R.map Flt.row) [])] ?_ <;> and_intros <;> first | exact hdT | (apply zM; (repeat intro ht); apply zM; (repeat intro hg); apply zM)
  · exact sortFunc k F l R hb hp hs hl sort_none
  refine wl ?_ <;> and_intros <;> first | exact hdT | (apply zM; (repeat intro ht); apply zM; (repeat intro hg); apply zM)
  refine C_ret rfl ?_
  rw [hV]
  refine ⟨k, [(2, accV F (R.map Flt.row))], LK L F s R, ?_, _, rfl, rfl, rfl, rfl⟩
  (have uU := zA @a1 (zA @a2 (zA @a3 (zA @a4 (zA @a5 (zA @a6 (zA @b1 (zA @b2 (zA @b3 (zA @b4 (zA @b5 (zA @b6 (zA @c1 @c2)))))))))))); exact wkU)
def partsA (s : St) : List Flt := clocksA s ++ (tasksA s ++ spotsA s)
def checkA (s : St) : List Flt := if 0 < (shapeA s).length then shapeA s else if 0 < (partsA s).length then partsA s else floorsA s
theorem Mv.impure {kb k : Nat} {fr : Fr} {H : Heap} (id : Nat) {s : Nat} {p : Bool} {rows : List (List AVal)} (hH : AM.look H id = some ⟨s, p, rows⟩) :
    Mv kb k fr H k fr ((id, ⟨s, false, rows⟩) :: del H id) := fun hk => Mv.wk ⟨hk, fun t v h => ⟨v, h, VLe.refl v⟩, fun i B hB => by
  rw [look_cons_del] at hB
  split at hB
  · rename_i he
    subst he
    cases hB
    exact ⟨_, hH, rfl, fun q row hq => ⟨row, hq, rfl, fun c u v hu hv => by rw [hu] at hv; cases hv; exact VLe.refl _⟩, fun h => by cases h⟩
  · exact ⟨B, hB, BLe.refl B⟩, .inl rfl⟩ hk
structure PreOk (s : St) : Prop where
  sm : s.Small
  n12 : s.ns ≤ 12
  p12 : ∀ g, g < s.ns → s.nsp g ≤ 12
theorem shapeA_len (s : St) (h : s.ns ≤ 12) : (shapeA s).length ≤ 100 := by
  have h1 := flats_len (shapeAt_len s) s.ns
  unfold shapeA iff1
  simp only [List.length_append]
  split <;> split <;> split <;> split <;> simp <;> omega
theorem floorsA_len (s : St) (h : s.ns ≤ 12) (hc : s.cpus ≤ 64) : (floorsA s).length ≤ 800 := by
  have := flats_len (f := floorsAt s) (m := 12) (fun i => by have := flats_len (f := floorJ s i) (m := 1) (fun j => stepL_len _ _ _ _) s.ns; unfold floorsAt; omega) s.cpus.toNat
  unfold floorsA; omega
theorem clocksA_len (s : St) (hs : s.Small) : (clocksA s).length ≤ 2000 := by
  have h1 := flats_len (f := clockAt s) (m := 1) (fun i => iff1_len1 _ _) s.nk
  have h2 := flats_len (f := curAt s) (m := 1) (fun i => iff1_len1 _ _) s.nu
  have := hs.nk
  have := hs.nu
  unfold clocksA; rw [List.length_append]; omega
theorem tasksA_len (s : St) (hs : s.Small) : (tasksA s).length ≤ 7000 := by
  have h1 := flats_len (f := taskAt s) (m := 7) (taskAt_len s) s.nt
  have := hs.nt
  unfold tasksA; omega
theorem spotsA_len (s : St) (hs : PreOk s) : (spotsA s).length ≤ 144 := by
  have h1 := flats_len' (f := spotsAt s) (m := 12) s.ns (fun g hg => by have := flats_len (f := spotAt s g) (m := 1) (spotAt_len s g) (s.nsp g); have := hs.p12 g hg; unfold spotsAt; omega)
  have := hs.n12
  unfold spotsA; omega
set_option maxHeartbeats 4000000 in
theorem check (hD : DepthOk Γ) (s : St) (hq : PreOk s) (R : List Flt) (hcfg : modCfg s = false → R = [⟨1, 0, 0⟩])
    (hfl : modCfg s = true → (shapeA s).length = 0 → (partsA s).length = 0 → FloorOk s)
    (hb : modCfg s = true → ∀ f ∈ checkA s, f.ok) (hp : modCfg s = true → R.Perm (checkA s)) (hso : modCfg s = true → R.Pairwise (fun x y => 0 ≤ cfF y x)) :
    Pure Tryz.prog Γ 113 [.agg s.cells] (rows 3 (R.map Flt.row)) := by
  obtain ⟨hs, h12, hp12⟩ := id hq
  obtain ⟨hng, hnk, hnu, hnt, hns, hnsp⟩ := id hs
  refine Pure_at Tryz.func113 rfl 45 rfl (Nat.le_of_ble_eq_true rfl) rfl fun k => ?_
  have kp : Kp [0,1,2,3,4,6,8,15,22,23,24,26,27,28,29,41] (fun i => i - k) := kpI
  refine wl ?_ <;> and_intros <;> first | exact hdT | (apply zM; (repeat intro ht); apply zM; (repeat intro hg); apply zM)
  refine cl [.ret (.lit (.bool (modCfg s)))] ?_ <;> and_intros <;> first | exact hdT | (apply zM; (repeat intro ht); apply zM; (repeat intro hg); apply zM)
  · exact rightConfig hD s
  refine C_cond rfl _ rfl (fun ht => ?_) (fun hf => ?_)
  · refine wl ?_ <;> and_intros <;> first | exact hdT | (apply zM; (repeat intro ht); apply zM; (repeat intro hg); apply zM)
    have ht' : modCfg s = false := by simpa using ht
    rw [hcfg ht']
    refine M_ret rfl (Mv.frz_acc (id := k + 2) (s := 3) (l := [Flt.row ⟨1, 0, 0⟩]) 2 (by simp -dsimp -implicitDefEqProofs only [go_sem, List.map_append, Flt.row, eq_self, ↓reduceIte]) (by simp -dsimp -implicitDefEqProofs only [go_sem, List.map_append, Flt.row, eq_self, ↓reduceIte])) ⟨_, rfl, ?_⟩
    exact VLe.refl _
  · have hcf : modCfg s = true := by simpa using hf
    have hrc := hcf
    rw [cfg_eq] at hrc
    obtain ⟨⟨r1, r2, r3, r4, r5, r6, r7⟩, rall⟩ := refCfg_spec hrc
    refine C_skip rfl ?_; simp -dsimp -implicitDefEqProofs only [go_sem, eq_self, ↓reduceIte]
    refine C_seq rfl ?_
    refine cl [] ?_ <;> and_intros <;> first | exact hdT | (apply zM; (repeat intro ht); apply zM; (repeat intro hg); apply zM)
    refine W_mv (Mv.impure (k + 1) (by simp -dsimp -implicitDefEqProofs only [go_sem, eq_self, ↓reduceIte]; rfl)) ?_
    refine W_mv (Mv.freeze (k + 2) (by simp -dsimp -implicitDefEqProofs only [go_sem, eq_self, ↓reduceIte]; rfl) rfl) ?_; simp -dsimp -implicitDefEqProofs only [frzF, frz_app, go_sem, eq_self, ↓reduceIte]
    refine W_mv (Mv.freeze (k + 3) (by simp -dsimp -implicitDefEqProofs only [go_sem, eq_self, ↓reduceIte]; rfl) rfl) ?_; simp -dsimp -implicitDefEqProofs only [frzF, frz_app, go_sem, eq_self, ↓reduceIte]
    refine W_mv (Mv.freeze (k + 4) (by simp -dsimp -implicitDefEqProofs only [go_sem, eq_self, ↓reduceIte]; rfl) rfl) ?_; simp -dsimp -implicitDefEqProofs only [frzF, frz_app, go_sem, eq_self, ↓reduceIte]
    refine M_midO (X := List Flt) rfl [2, 3] (k + 3) (fun l => []) (fun l => LK (k + 1) (k + 2) s l) (fun l => l = checkA s) ?_ ?_
    · refine C_seq rfl ?_
      refine cl [] ?_ <;> and_intros <;> first | exact hdT | (apply zM; (repeat intro ht); apply zM; (repeat intro hg); apply zM)
      refine W_mv (Mv.wk (fr1 := [(23, .lit (.int .i64 0)), (22, .agg [.rd 1 1 (fun q => ([[AVal.fn 190 []]] : List (List AVal)).getD q []), .rd 1 3 (fun q => ([[AVal.fn 191 []], [AVal.fn 192 []], [AVal.fn 193 []]] : List (List AVal)).getD q []), .rd 1 1 (fun q => ([[AVal.fn 194 []]] : List (List AVal)).getD q [])]), (3, .ptr (k + 1) 0 0), (2, .lit (.slice none 0 0))]) (k1 := k + 3) (H1 := LK (k + 1) (k + 2) s []) (wk_low (by omega) (by simp -dsimp -implicitDefEqProofs only [go_sem, List.map_append, Flt.row, eq_self, ↓reduceIte]) (by simp -dsimp -implicitDefEqProofs only [go_sem, List.map_append, Flt.row, eq_self, ↓reduceIte]) (by simp -dsimp -implicitDefEqProofs only [go_sem, List.map_append, Flt.row, eq_self, ↓reduceIte]) (by simp -dsimp -implicitDefEqProofs only [go_sem, List.map_append, Flt.row, eq_self, ↓reduceIte]))) ?_
      refine rR ?_ <;> first | exact hdT | apply zN
      refine C_block rfl ?_
      refine C_rounds rfl 4 ?_
      refine AM.rounds_succ ?_
      refine wl ?_ <;> and_intros <;> first | exact hdT | (apply zM; (repeat intro ht); apply zM; (repeat intro hg); apply zM)
      refine C_rounds rfl 2 ?_
      refine AM.rounds_succ ?_
      refine wl ?_ <;> and_intros <;> first | exact hdT | (apply zM; (repeat intro ht); apply zM; (repeat intro hg); apply zM)
      obtain ⟨l1, e1, h1⟩ : ∃ x, x = shapeA s ∧ x.length ≤ 100 := ⟨_, rfl, shapeA_len s h12⟩
      refine M_cutO [0,1,2,3,4,6,8,15,22,23,24,26,27,28,29,41] (k + 3) [] (LK (k + 1) (k + 2) s l1) ?_ ?_
      · refine cl [.gen (.tup []) (k + 4) (LK (k + 1) (k + 2) s []) (LK (k + 1) (k + 3) s l1)] ?_ <;> and_intros <;> first | exact hdT | (apply zM; (repeat intro ht); apply zM; (repeat intro hg); apply zM)
        · have h := shape (Γ := Γ) s hs (k + 3) (k + 1) (k + 2) [] (by omega) (by omega) (by omega) (by simp)
          rw [List.nil_append, ← e1] at h
          exact h
        exact Mv.app (k + 3) (k + 2) ⟨by omega, by omega⟩ ⟨by omega, by omega⟩ (wk_low (by omega) (by simp -dsimp -implicitDefEqProofs only [go_sem, List.map_append, Flt.row, eq_self, ↓reduceIte]) (by simp -dsimp -implicitDefEqProofs only [go_sem, List.map_append, Flt.row, eq_self, ↓reduceIte]) (by simp -dsimp -implicitDefEqProofs only [go_sem, List.map_append, Flt.row, eq_self, ↓reduceIte]) (by simp -dsimp -implicitDefEqProofs only [go_sem, List.map_append, Flt.row, eq_self, ↓reduceIte]))
      refine rR ?_ <;> first | exact hdT | apply zN
      refine wl ?_ <;> and_intros <;> first | exact hdT | (apply zM; (repeat intro ht); apply zM; (repeat intro hg); apply zM)
      · refine ⟨l1, by rw [checkA, ← e1, if_pos (by omega)], ?_⟩
        exact wkF
      · obtain rfl : l1 = [] := List.eq_nil_of_length_eq_zero (by omega)
        have hz : (shapeA s).length = 0 := by rw [← e1]; rfl
        have hchk : checkA s = if 0 < (partsA s).length then partsA s else floorsA s := by rw [checkA, if_neg (by omega)]
        obtain ⟨z1, z2, z3, z4⟩ := shapes_nil (s := s) (by rw [← shapeA_eq]; exact hz)
        refine C_rounds rfl 4 ?_
        refine AM.rounds_succ ?_
        refine wl ?_ <;> and_intros <;> first | exact hdT | (apply zM; (repeat intro ht); apply zM; (repeat intro hg); apply zM)
        obtain ⟨p1, f1, g1⟩ : ∃ x, x = clocksA s ∧ x.length ≤ 2000 := ⟨_, rfl, clocksA_len s hs⟩
        refine M_cutO [0,1,2,3,4,6,8,15,22,23,24,26,27,28,29,41] (k + 3) [] (LK (k + 1) (k + 2) s p1) ?_ ?_
        · refine cl [.gen (.tup []) (k + 4) (LK (k + 1) (k + 2) s []) (LK (k + 1) (k + 3) s p1)] ?_ <;> and_intros <;> first | exact hdT | (apply zM; (repeat intro ht); apply zM; (repeat intro hg); apply zM)
          · have h := clocks (Γ := Γ) s hs (k + 3) (k + 1) (k + 2) [] (by omega) (by omega) (by omega) (by simp)
            rw [List.nil_append, ← f1] at h
            exact h
          exact Mv.app (k + 3) (k + 2) ⟨by omega, by omega⟩ ⟨by omega, by omega⟩ (wk_low (by omega) (by simp -dsimp -implicitDefEqProofs only [go_sem, List.map_append, Flt.row, eq_self, ↓reduceIte]) (by simp -dsimp -implicitDefEqProofs only [go_sem, List.map_append, Flt.row, eq_self, ↓reduceIte]) (by simp -dsimp -implicitDefEqProofs only [go_sem, List.map_append, Flt.row, eq_self, ↓reduceIte]) (by simp -dsimp -implicitDefEqProofs only [go_sem, List.map_append, Flt.row, eq_self, ↓reduceIte]))
        refine rR ?_ <;> first | exact hdT | apply zN
        refine wl ?_ <;> and_intros <;> first | exact hdT | (apply zM; (repeat intro ht); apply zM; (repeat intro hg); apply zM)
        obtain ⟨p2, f2, g2⟩ : ∃ x, x = p1 ++ tasksA s ∧ x.length ≤ 9000 := ⟨_, rfl, by have := tasksA_len s hs; rw [List.length_append]; omega⟩
        refine M_cutO [0,1,2,3,4,6,8,15,22,23,24,26,27,28,29,41] (k + 3) [] (LK (k + 1) (k + 2) s p2) ?_ ?_
        · refine cl [.gen (.tup []) (k + 4) (LK (k + 1) (k + 2) s p1) (LK (k + 1) (k + 3) s p2)] ?_ <;> and_intros <;> first | exact hdT | (apply zM; (repeat intro ht); apply zM; (repeat intro hg); apply zM)
          · have h := tasks (Γ := Γ) s hs (by omega) (k + 3) (k + 1) (k + 2) p1 (by omega) (by omega) (by omega) (by omega)
            rw [← f2] at h
            exact h
          exact Mv.app (k + 3) (k + 2) ⟨by omega, by omega⟩ ⟨by omega, by omega⟩ (wk_low (by omega) (by simp -dsimp -implicitDefEqProofs only [go_sem, List.map_append, Flt.row, eq_self, ↓reduceIte]) (by simp -dsimp -implicitDefEqProofs only [go_sem, List.map_append, Flt.row, eq_self, ↓reduceIte]) (by simp -dsimp -implicitDefEqProofs only [go_sem, List.map_append, Flt.row, eq_self, ↓reduceIte]) (by simp -dsimp -implicitDefEqProofs only [go_sem, List.map_append, Flt.row, eq_self, ↓reduceIte]))
        refine rR ?_ <;> first | exact hdT | apply zN
        refine wl ?_ <;> and_intros <;> first | exact hdT | (apply zM; (repeat intro ht); apply zM; (repeat intro hg); apply zM)
        obtain ⟨p3, f3, g3⟩ : ∃ x, x = p2 ++ spotsA s ∧ x.length ≤ 9144 := ⟨_, rfl, by have := spotsA_len s hq; rw [List.length_append]; omega⟩
        refine M_cutO [0,1,2,3,4,6,8,15,22,23,24,26,27,28,29,41] (k + 3) [] (LK (k + 1) (k + 2) s p3) ?_ ?_
        · refine cl [.gen (.tup []) (k + 4) (LK (k + 1) (k + 2) s p2) (LK (k + 1) (k + 3) s p3)] ?_ <;> and_intros <;> first | exact hdT | (apply zM; (repeat intro ht); apply zM; (repeat intro hg); apply zM)
          · have h := spots (Γ := Γ) s hs (by omega) h12 hp12 (k + 3) (k + 1) (k + 2) p2 (by omega) (by omega) (by omega) (by omega)
            rw [← f3] at h
            exact h
          exact Mv.app (k + 3) (k + 2) ⟨by omega, by omega⟩ ⟨by omega, by omega⟩ (wk_low (by omega) (by simp -dsimp -implicitDefEqProofs only [go_sem, List.map_append, Flt.row, eq_self, ↓reduceIte]) (by simp -dsimp -implicitDefEqProofs only [go_sem, List.map_append, Flt.row, eq_self, ↓reduceIte]) (by simp -dsimp -implicitDefEqProofs only [go_sem, List.map_append, Flt.row, eq_self, ↓reduceIte]) (by simp -dsimp -implicitDefEqProofs only [go_sem, List.map_append, Flt.row, eq_self, ↓reduceIte]))
        refine rR ?_ <;> first | exact hdT | apply zN
        have f3' : p3 = partsA s := by rw [f3, f2, f1, partsA, List.append_assoc]
        clear f3 f2 f1
        refine wl ?_ <;> and_intros <;> first | exact hdT | (apply zM; (repeat intro ht); apply zM; (repeat intro hg); apply zM)
        · refine ⟨p3, by rw [hchk, ← f3', if_pos (by omega)], ?_⟩
          exact wkF
        · obtain rfl : p3 = [] := List.eq_nil_of_length_eq_zero (by omega)
          have hz2 : (partsA s).length = 0 := by rw [← f3']; rfl
          refine C_rounds rfl 2 ?_
          refine AM.rounds_succ ?_
          refine wl ?_ <;> and_intros <;> first | exact hdT | (apply zM; (repeat intro ht); apply zM; (repeat intro hg); apply zM)
          obtain ⟨q1, u1, v1⟩ : ∃ x, x = floorsA s ∧ x.length ≤ 800 := ⟨_, rfl, floorsA_len s h12 r2⟩
          refine M_cutO [0,1,2,3,4,6,8,15,22,23,24,26,27,28,29,41] (k + 3) [] (LK (k + 1) (k + 2) s q1) ?_ ?_
          · refine cl [.gen (.tup []) (k + 4) (LK (k + 1) (k + 2) s []) (LK (k + 1) (k + 3) s q1)] ?_ <;> and_intros <;> first | exact hdT | (apply zM; (repeat intro ht); apply zM; (repeat intro hg); apply zM)
            · have h := floors (Γ := Γ) s hs (hfl hcf hz hz2) (k + 3) (k + 1) (k + 2) [] (by omega) (by omega) (by omega) (by simp)
              rw [List.nil_append, ← u1] at h
              exact h
            exact Mv.app (k + 3) (k + 2) ⟨by omega, by omega⟩ ⟨by omega, by omega⟩ (wk_low (by omega) (by simp -dsimp -implicitDefEqProofs only [go_sem, List.map_append, Flt.row, eq_self, ↓reduceIte]) (by simp -dsimp -implicitDefEqProofs only [go_sem, List.map_append, Flt.row, eq_self, ↓reduceIte]) (by simp -dsimp -implicitDefEqProofs only [go_sem, List.map_append, Flt.row, eq_self, ↓reduceIte]) (by simp -dsimp -implicitDefEqProofs only [go_sem, List.map_append, Flt.row, eq_self, ↓reduceIte]))
          refine rR ?_ <;> first | exact hdT | apply zN
          refine wl ?_ <;> and_intros <;> first | exact hdT | (apply zM; (repeat intro ht); apply zM; (repeat intro hg); apply zM)
          · refine ⟨q1, by rw [hchk, if_neg (by omega)]; exact u1, ?_⟩
            exact wkF
          · refine ⟨q1, by rw [hchk, if_neg (by omega)]; exact u1, ?_⟩
            exact wkF
    · intro l hl
      have hb' := hb hcf
      have hp' := hp hcf
      rw [← hl] at hb' hp'
      have hll : l.length ≤ 100000 := by
        rw [hl]
        have h1 := shapeA_len s h12
        have h2 := clocksA_len s hs
        have h3 := tasksA_len s hs
        have h4 := spotsA_len s hq
        have h5 := floorsA_len s h12 r2
        unfold checkA partsA
        split
        · omega
        · split
          · simp only [List.length_append]; omega
          · omega
      refine rR ?_ <;> first | exact hdT | apply zN
      refine wl ?_ <;> and_intros <;> first | exact hdT | (apply zM; (repeat intro ht); apply zM; (repeat intro hg); apply zM)
      refine cl [.gen (accV (k + 2) (R.map Flt.row)) (k + 3) (LK (k + 1) (k + 2) s l) (LK (k + 1) (k + 2) s R)] ?_ <;> and_intros <;> first | exact hdT | (apply zM; (repeat intro ht); apply zM; (repeat intro hg); apply zM)
      · exact sorted (k + 3) (k + 1) (k + 2) s l R (by omega) (by omega) (by omega) hb' hp' (hso hcf) hll
      refine M_racc rfl (id := k + 2) (s := 3) (l := List.map Flt.row R) 2 (by simp -dsimp -implicitDefEqProofs only [go_sem, List.map_append, Flt.row, eq_self, ↓reduceIte]) (by simp -dsimp -implicitDefEqProofs only [go_sem, List.map_append, Flt.row, eq_self, ↓reduceIte]) ?_
      exact ⟨_, rfl, VLe.refl _⟩
end Go.Proofs.T
end
section
namespace Go.Proofs.T
open Go Go.AM Go.Proofs
set_option maxRecDepth 20000
theorem flats_congr {f g : Nat → List Flt} : ∀ {n : Nat}, (∀ i, i < n → f i = g i) → flats f n = flats g n
  | 0, _ => rfl
  | n + 1, h => by rw [flats_succ, flats_succ, flats_congr (fun i hi => h i (by omega)), h n (by omega)]
theorem flats_perm {f g : Nat → List Flt} : ∀ {n : Nat}, (∀ i, i < n → (f i).Perm (g i)) → (flats f n).Perm (flats g n)
  | 0, _ => List.Perm.refl _
  | n + 1, h => (flats_perm (fun i hi => h i (by omega))).append (h n (by omega))
theorem flats_empty {n : Nat} : flats (fun _ => []) n = [] := by
  induction n with
  | zero => rfl
  | succ n ih => rw [flats_succ, ih]; rfl
theorem perm_four {α : Type} (a b c d : List α) : ((a ++ b) ++ (c ++ d)).Perm ((a ++ c) ++ (b ++ d)) := by
  rw [List.append_assoc, List.append_assoc]
  refine List.Perm.append_left a ?_
  rw [← List.append_assoc, ← List.append_assoc]
  exact List.Perm.append_right d List.perm_append_comm
theorem flats_add {f g : Nat → List Flt} : ∀ {n : Nat}, (flats (fun i => f i ++ g i) n).Perm (flats f n ++ flats g n)
  | 0 => List.Perm.refl _
  | n + 1 => ((flats_add (f := f) (g := g) (n := n)).append_right _).trans (perm_four _ _ _ _)
theorem flats_comm {f : Nat → Nat → List Flt} {m : Nat} : ∀ {n : Nat}, (flats (fun i => flats (f i) m) n).Perm (flats (fun j => flats (fun i => f i j) n) m)
  | 0 => by
    show List.Perm [] (flats (fun j => []) m)
    rw [flats_empty]
  | n + 1 => by
    rw [flats_succ]
    exact ((flats_comm (f := f) (m := m) (n := n)).append_right _).trans (flats_add (f := fun j => flats (fun i => f i j) n) (g := f n)).symm
theorem flats_front {f : Nat → List Flt} : ∀ {n : Nat}, flats f (n + 1) = f 0 ++ flats (fun i => f (i + 1)) n
  | 0 => by simp [flats]
  | n + 1 => by rw [flats_succ, flats_front, flats_succ, List.append_assoc]
theorem flats_rev {f : Nat → List Flt} : ∀ {n : Nat}, (flats (fun j => f (n - 1 - j)) n).Perm (flats f n)
  | 0 => List.Perm.refl _
  | n + 1 => by
    rw [flats_front, flats_succ]
    have : flats (fun i => f (n + 1 - 1 - (i + 1))) n = flats (fun j => f (n - 1 - j)) n := flats_congr fun i hi => by
      show f _ = f _
      congr 1; omega
    rw [this]
    exact ((flats_rev (f := f) (n := n)).append_left _).trans List.perm_append_comm
theorem mem_flats {f : Nat → List Flt} {x : Flt} : ∀ {n : Nat}, x ∈ flats f n ↔ ∃ i, i < n ∧ x ∈ f i
  | 0 => by simp [flats]
  | n + 1 => by
    rw [flats_succ, List.mem_append, mem_flats]
    constructor
    · rintro (⟨i, h1, h2⟩ | h)
      · exact ⟨i, by omega, h2⟩
      · exact ⟨n, by omega, h⟩
    · rintro ⟨i, h1, h2⟩
      by_cases he : i = n
      · subst he; exact .inr h2
      · exact .inl ⟨i, by omega, h2⟩
theorem mem_iff1 {b : Bool} {f x : Flt} : x ∈ iff1 b f ↔ b = true ∧ x = f := by cases b <;> simp [iff1]
theorem flats_sorted {R : Flt → Flt → Prop} {f : Nat → List Flt} : ∀ {n : Nat}, (∀ i, i < n → (f i).Pairwise R) → (∀ i j, i < j → j < n → ∀ x ∈ f i, ∀ y ∈ f j, R x y) → (flats f n).Pairwise R
  | 0, _, _ => List.Pairwise.nil
  | n + 1, h1, h2 => by
    rw [flats_succ, List.pairwise_append]
    refine ⟨flats_sorted (fun i hi => h1 i (by omega)) (fun i j hij hj => h2 i j hij (by omega)), h1 n (by omega), fun x hx y hy => ?_⟩
    obtain ⟨i, hi, hx⟩ := mem_flats.1 hx
    exact h2 i n hi (by omega) x hx y hy
theorem iff1_sorted {R : Flt → Flt → Prop} {b : Bool} {f : Flt} : (iff1 b f).Pairwise R := by cases b <;> simp [iff1]
def leF (x y : Flt) : Prop := ¬ (y.r < x.r ∨ (y.r = x.r ∧ (y.a < x.a ∨ (y.a = x.a ∧ y.b < x.b))))
theorem mask_wide (m : Nat) (c : Nat) (hm : m < 2 ^ 64) (hc : c ≤ 64) : 0 < m / 2 ^ c ↔ ∃ i, i < 64 ∧ c ≤ i ∧ m / 2 ^ i % 2 = 1 := by
  constructor
  · intro h
    obtain ⟨i, hi⟩ := Nat.exists_testBit_of_ne_zero (x := m / 2 ^ c) (by omega)
    rw [Nat.testBit_div_two_pow] at hi
    have hlt : i + c < 64 := by
      rcases Nat.lt_or_ge (i + c) 64 with h | h
      · exact h
      · rw [Nat.testBit_lt_two_pow (Nat.lt_of_lt_of_le hm (Nat.pow_le_pow_right (by omega) h))] at hi
        cases hi
    refine ⟨i + c, hlt, by omega, ?_⟩
    rw [Nat.testBit_eq_decide_div_mod_eq] at hi
    exact of_decide_eq_true hi
  · rintro ⟨i, h1, h2, h3⟩
    have h4 : 2 ^ c ≤ 2 ^ i := Nat.pow_le_pow_right (by omega) h2
    have h5 : m / 2 ^ i ≤ m / 2 ^ c := Nat.div_le_div_left h4 (Nat.two_pow_pos c)
    have h6 : m / 2 ^ i ≠ 0 := fun h => by rw [h] at h3; cases h3
    exact Nat.lt_of_lt_of_le (Nat.pos_of_ne_zero h6) h5
theorem div_nat (m c : Nat) : ((m : Int) / 2 ^ c) = ((m / 2 ^ c : Nat) : Int) := by
  have : ((2 : Int) ^ c) = ((2 ^ c : Nat) : Int) := by simp
  rw [this]; rfl
theorem bitB_nat (m c : Nat) : bitB (m : Int) c = decide (m / 2 ^ c % 2 = 1) := by
  unfold bitB
  rw [div_nat]
  congr 1
  apply propext
  omega
theorem fdiv_nat (m c : Nat) : ((m : Int).fdiv (2 ^ c)) = ((m / 2 ^ c : Nat) : Int) := by
  rw [Int.fdiv_eq_ediv_of_nonneg _ (by have : ((2 : Int) ^ c) = ((2 ^ c : Nat) : Int) := by simp
                                       rw [this]; exact Int.natCast_nonneg _), div_nat]
theorem t8_eq (s : St) (hw : Wf s) (i : Nat) (h0 : 0 ≤ s.cpus) (h1 : s.cpus ≤ 64) : t8 s i = r8 s i := by
  obtain ⟨m, hm⟩ := Int.eq_ofNat_of_zero_le (hw.mask0 i)
  obtain ⟨n, hn⟩ := Int.eq_ofNat_of_zero_le h0
  have hb := hw.mask1 i
  have key := mask_wide m n (by omega) (by omega)
  have hmin : min (n : Int).toNat 64 = n := by omega
  rw [Bool.eq_iff_iff]
  unfold t8 r8 shr
  rw [anyB_iff, hm, hn, hmin, fdiv_nat]
  simp only [wideB, Bool.and_eq_true, decide_eq_true_eq, hm, hn, bitB_nat]
  constructor
  · rintro ⟨h2, h3⟩
    obtain ⟨j, j1, j2, j3⟩ := key.1 (by omega)
    exact ⟨j, j1, by omega, j3⟩
  · rintro ⟨j, j1, j2, j3⟩
    have := key.2 ⟨j, j1, by omega, j3⟩
    exact ⟨by omega, by omega⟩
theorem and1_nat (m : Nat) (hm : m < 2 ^ 64) : and1 (m : Int) = ((m % 2 : Nat) : Int) := by
  unfold and1
  have h1 : (BitVec.ofInt IntKind.u64.bits (m : Int) &&& BitVec.ofInt IntKind.u64.bits 1).toNat = m % 2 := by
    show (BitVec.ofInt 64 (m : Int) &&& BitVec.ofInt 64 1).toNat = m % 2
    rw [BitVec.toNat_and, BitVec.ofInt_natCast, BitVec.toNat_ofNat, Nat.mod_eq_of_lt hm]
    show m &&& 1 = m % 2
    exact Nat.and_one_is_mod m
  rw [h1]
  exact wrap_u64 (by omega) (by omega)
theorem t9_eq (s : St) (hw : Wf s) (i : Nat) (h1 : s.cpus ≤ 64) : t9 s i = r9 s i := by
  unfold t9 r9
  by_cases ho : onB s i = true
  · rw [ho, Bool.true_and, Bool.true_and]
    have ho' : 0 ≤ (s.tsk i).cpu ∧ (s.tsk i).cpu < s.cpus := by simpa [onB] using ho
    obtain ⟨m, hm⟩ := Int.eq_ofNat_of_zero_le (hw.mask0 i)
    obtain ⟨n, hn⟩ := Int.eq_ofNat_of_zero_le ho'.1
    have hb := hw.mask1 i
    have e1 : max0 (n : Int) = n := by unfold max0; rw [if_neg (by omega)]
    have e2 : min (n : Int).toNat 64 = n := by omega
    unfold shr
    rw [hm, hn, e1, e2, fdiv_nat, and1_nat _ (Nat.lt_of_le_of_lt (Nat.div_le_self _ _) (by omega)), Int.toNat_natCast, bitB_nat]
    rcases Nat.mod_two_eq_zero_or_one (m / 2 ^ n) with h | h <;> rw [h] <;> rfl
  · rw [Bool.not_eq_true] at ho
    rw [ho]; rfl
end Go.Proofs.T
end
