import Derived.Test.YtkiadljldlppbaaGreatDoorZAM
import Derived.Shelf.SlGeneric
import Derived.Shelf.SlLaysF0
import Derived.Ground.SlsfProg
import Derived.Test.YtkiadljldlppbaaGreatDoorProg
import Derived.Shelf.SlSortCmp.WholeK
import Derived.WalkKit
import Derived.KernelRfl
import Derived.Shelf.SlSortCmp.NoneTotal
set_option linter.unusedVariables false
set_option linter.unusedSimpArgs false
section
namespace Go.Proofs.T
open Go Go.AM Go.Proofs
set_option maxRecDepth 20000
variable {Γ : List (Nat × List AVal)}
def onB (s : St) (i : Nat) : Bool := decide (0 ≤ (s.tsk i).cpu ∧ (s.tsk i).cpu < s.cpus)
def max0 (x : Int) : Int := if 0 > x then 0 else x
def shr (m c : Int) : Int := m.fdiv (2 ^ min c.toNat 64)
def and1 (m : Int) : Int := IntKind.u64.wrap (BitVec.ofInt IntKind.u64.bits m &&& BitVec.ofInt IntKind.u64.bits 1).toNat
def t4 (s : St) (i : Nat) : Bool := decide (0 < (i : Int)) && decide ((s.tsk i).id ≤ (s.tsk (i - 1)).id)
def t5 (s : St) (i : Nat) : Bool := decide ((s.tsk i).id < 1 ∨ 65535 < (s.tsk i).id)
def t6 (s : St) (i : Nat) : Bool := decide ((s.tsk i).group < 0 ∨ (s.ng : Int) ≤ (s.tsk i).group)
def t7 (s : St) (i : Nat) : Bool := !(onB s i)
def t8 (s : St) (i : Nat) : Bool := decide (s.cpus < 64) && decide (0 < shr (s.tsk i).mask s.cpus)
def t9 (s : St) (i : Nat) : Bool := onB s i && (and1 (shr (s.tsk i).mask (max0 (s.tsk i).cpu)) == 0)
def t10 (s : St) (i : Nat) : Bool := !(ent (s.tsk i).v (s.tsk i).r (s.tsk i).weight)
def taskAt (s : St) (i : Nat) : List Flt := iff1 (t4 s i) ⟨4, (i : Int), 0⟩ ++ (iff1 (t5 s i) ⟨5, (i : Int), 0⟩ ++ (iff1 (t6 s i) ⟨6, (i : Int), 0⟩ ++ (iff1 (t7 s i) ⟨7, (i : Int), 0⟩ ++ (iff1 (t8 s i) ⟨8, (i : Int), 0⟩ ++ (iff1 (t9 s i) ⟨9, (i : Int), 0⟩ ++ iff1 (t10 s i) ⟨10, (i : Int), 0⟩)))))
theorem taskAt_len (s : St) (i : Nat) : (taskAt s i).length ≤ 7 := by
  have h := fun b f => iff1_len1 b f
  simp only [taskAt, List.length_append]
  have := h (t4 s i) ⟨4, (i : Int), 0⟩; have := h (t5 s i) ⟨5, (i : Int), 0⟩; have := h (t6 s i) ⟨6, (i : Int), 0⟩; have := h (t7 s i) ⟨7, (i : Int), 0⟩
  have := h (t8 s i) ⟨8, (i : Int), 0⟩; have := h (t9 s i) ⟨9, (i : Int), 0⟩; have := h (t10 s i) ⟨10, (i : Int), 0⟩
  omega
def tasksA (s : St) : List Flt := flats (taskAt s) s.nt
set_option maxHeartbeats 4000000 in
theorem tasks (s : St) (hs : s.Small) (hc : 0 ≤ s.cpus) : Adds Γ 47 s (tasksA s) := by
  obtain ⟨hng, hnk, hnu, hnt, hns, hnsp⟩ := id hs
  intro k L F l hL hF hne hl
  obtain ⟨a1, a2, a3, a4, a5, a6⟩ := old_name hL
  obtain ⟨b1, b2, b3, b4, b5, b6⟩ := old_name hF
  obtain ⟨c1, c2⟩ := two_names hne
  refine Tr_at Tryz.func47 rfl 125 rfl (Nat.le_of_ble_eq_true rfl) (W_upM ?_)
  refine W_mv (Mv.fresh F (by omega)) ?_
  have uU := zA @a1 (zA @a2 (zA @a3 (zA @a4 (zA @a5 (zA @a6 (zA @b1 (zA @b2 (zA @b3 (zA @b4 (zA @b5 (zA @b6 (zA @c1 @c2))))))))))))
  refine rR ?_; apply zN
  have kp : Kp [0,2,3,4,5,16,17,18,19] (fun i => if i = L then 0 else i - k + 1) := kpI
  refine wl ?_; refine zq1 ⟨⟨⟨?_⟩⟩⟩
  refine M_forO (X := Nat) rfl [0,2,3,4,5,16,17,18,19] (k + 1) (fun i => [(18, .lit (.int .i64 (i : Int)))]) (fun i => LK L k s (l ++ flats (taskAt s) i)) (fun i => i ≤ s.nt) (fun i => s.nt - i) 0 ?_ (Nat.zero_le _) ?_
  · rw [flats_zero, List.append_nil]
    refine rR ?_; apply zN
    (have uU := zA @a1 (zA @a2 (zA @a3 (zA @a4 (zA @a5 (zA @a6 (zA @b1 (zA @b2 (zA @b3 (zA @b4 (zA @b5 (zA @b6 (zA @c1 @c2)))))))))))); exact wkU)
  intro i hi
  have hfl := flats_len (taskAt_len s) i
  obtain ⟨l0, e0, h0⟩ : ∃ x, x = l ++ flats (taskAt s) i ∧ x.length ≤ l.length + i * 7 := ⟨_, rfl, by simp; omega⟩
  rw [← e0]
  refine rR ?_; apply zN
  refine wl ?_; refine zq3 ⟨fun ht => ⟨fun hg => ⟨?_⟩⟩⟩ ⟨fun ht => ⟨fun hg => ⟨?_⟩⟩⟩ ⟨fun ht => ⟨⟨?_⟩⟩⟩
  rotate_right
  · have hi' : i = s.nt := by omega
    subst hi'
    refine ⟨k + 1, [], LK L k s l0, ?_, _, rfl, rfl, rfl, by rw [e0]; rfl⟩
    (have uU := zA @a1 (zA @a2 (zA @a3 (zA @a4 (zA @a5 (zA @a6 (zA @b1 (zA @b2 (zA @b3 (zA @b4 (zA @b5 (zA @b6 (zA @c1 @c2)))))))))))); exact wkU)
  all_goals
    have hq := hg
    have hw1 : IntKind.i64.wrap ((i : Int) - 1) = (i : Int) - 1 := wrap_i64 (by omega) (by omega)
    have hmx : (if (0 : Int) > (i : Int) - 1 then (0 : Int) else (i : Int) - 1) = ((i - 1 : Nat) : Int) := by split <;> omega
    obtain ⟨l1, e_l1, h_l1⟩ : ∃ x, x = l0 ++ iff1 (decide (0 < (i : Int)) && decide ((s.tsk i).id ≤ (s.tsk (i - 1)).id)) ⟨4, (i : Int), 0⟩ ∧ x.length ≤ (l0).length + 1 := ⟨_, rfl, iff1_len _ _ _⟩
    refine M_cutO [0,2,3,4,5,16,17,18,19] (k + 3) [] ((L, ⟨8, false, [lkRow (k + 2) s (l1)]⟩) :: accH (k + 2) 3 ((l1).map Flt.row) [(k + 1, ⟨8, true, [tf s i]⟩)]) ?_ ?_
    · have uU := zA @a1 (zA @a2 (zA @a3 (zA @a4 (zA @a5 (zA @a6 (zA @b1 (zA @b2 (zA @b3 (zA @b4 (zA @b5 (zA @b6 (zA @c1 (zA @c2 (zA @hw1 @hmx))))))))))))))
      refine dl [.gen (.tup []) (k + 3) (LK (L) (k) s (l0)) (LK (L) (k + 2) s (l1))] ?_; refine zq4 ⟨⟨fun hg => ⟨?_⟩⟩⟩ ⟨⟨fun hg => ⟨?_⟩⟩⟩ ⟨⟨fun hg => ⟨?_⟩⟩⟩ ⟨⟨fun hg => ⟨?_⟩⟩⟩
      all_goals (first | (exact found' (k + 2) (L) (k) s (l0) (l1) _ (decide (0 < (i : Int)) && decide ((s.tsk i).id ≤ (s.tsk (i - 1)).id)) _ _ _ (by first | rfl | (rw [Bool.eq_iff_iff]; simp only [beq_iff_eq, bne_iff_ne, ne_eq, decide_eq_true_eq, decide_eq_false_iff_not, Bool.and_eq_true, Bool.or_eq_true, Bool.not_eq_true', beq_eq_false_iff_ne, Bool.false_eq_true, Bool.true_eq_false, true_iff, false_iff, iff_true, iff_false]; omega) | (simp [hg]; done) | (simp [hg, hq]; done) | (simp_all; done) | (simp_all; omega)) e_l1 (by omega) (by omega) (by omega) (by omega)) | ((have uU := zA @a1 (zA @a2 (zA @a3 (zA @a4 (zA @a5 (zA @a6 (zA @b1 (zA @b2 (zA @b3 (zA @b4 (zA @b5 (zA @b6 (zA @c1 (zA @c2 (zA @hw1 @hmx)))))))))))))); exact wkU)))
    have uU := zA @a1 (zA @a2 (zA @a3 (zA @a4 (zA @a5 (zA @a6 (zA @b1 (zA @b2 (zA @b3 (zA @b4 (zA @b5 (zA @b6 (zA @c1 (zA @c2 (zA @hw1 @hmx))))))))))))))
    refine rR ?_; apply zN
    have hcn : (s.cpus < 0) = False := by simp; omega
    have hm0 : (if (0 : Int) > (s.tsk i).cpu then (0 : Int) else (s.tsk i).cpu) = max0 (s.tsk i).cpu := rfl
    have hm1 : (max0 (s.tsk i).cpu < 0) = False := by simp [max0]; split <;> omega
    refine C_seq rfl ?_
    obtain ⟨l2, e_l2, h_l2⟩ : ∃ x, x = l1 ++ iff1 (decide ((s.tsk i).id < 1 ∨ 65535 < (s.tsk i).id)) ⟨5, (i : Int), 0⟩ ∧ x.length ≤ (l1).length + 1 := ⟨_, rfl, iff1_len _ _ _⟩
    refine M_cutO [0,2,3,4,5,16,17,18,19] (k + 4) [] ((L, ⟨8, false, [lkRow (k + 3) s (l2)]⟩) :: accH (k + 3) 3 ((l2).map Flt.row) [(k + 1, ⟨8, true, [tf s i]⟩)]) ?_ ?_
    · have uU := zA @a1 (zA @a2 (zA @a3 (zA @a4 (zA @a5 (zA @a6 (zA @b1 (zA @b2 (zA @b3 (zA @b4 (zA @b5 (zA @b6 (zA @c1 (zA @c2 (zA @hcn (zA @hm0 @hm1)))))))))))))))
      refine cl [.gen (.tup []) (k + 4) (LK (L) (k + 2) s (l1)) (LK (L) (k + 3) s (l2))] ?_; refine zq4 ⟨⟨fun hg => ⟨?_⟩⟩⟩ ⟨⟨fun hg => ⟨?_⟩⟩⟩ ⟨⟨fun hg => ⟨?_⟩⟩⟩ ⟨⟨fun hg => ⟨?_⟩⟩⟩
      all_goals (first | (exact found' (k + 3) (L) (k + 2) s (l1) (l2) _ (decide ((s.tsk i).id < 1 ∨ 65535 < (s.tsk i).id)) _ _ _ (by first | rfl | (rw [Bool.eq_iff_iff]; simp only [beq_iff_eq, bne_iff_ne, ne_eq, decide_eq_true_eq, decide_eq_false_iff_not, Bool.and_eq_true, Bool.or_eq_true, Bool.not_eq_true', beq_eq_false_iff_ne, Bool.false_eq_true, Bool.true_eq_false, true_iff, false_iff, iff_true, iff_false]; omega) | (simp [hg]; done) | (simp [hg, hq]; done) | (simp_all; done) | (simp_all; omega)) e_l2 (by omega) (by omega) (by omega) (by omega)) | ((have uU := zA @a1 (zA @a2 (zA @a3 (zA @a4 (zA @a5 (zA @a6 (zA @b1 (zA @b2 (zA @b3 (zA @b4 (zA @b5 (zA @b6 (zA @c1 (zA @c2 (zA @hcn (zA @hm0 @hm1))))))))))))))); exact wkU)))
    have uU := zA @a1 (zA @a2 (zA @a3 (zA @a4 (zA @a5 (zA @a6 (zA @b1 (zA @b2 (zA @b3 (zA @b4 (zA @b5 (zA @b6 (zA @c1 (zA @c2 (zA @hcn (zA @hm0 @hm1)))))))))))))))
    refine rR ?_; apply zN
    refine C_seq rfl ?_
    obtain ⟨l3, e_l3, h_l3⟩ : ∃ x, x = l2 ++ iff1 (decide ((s.tsk i).group < 0 ∨ (s.ng : Int) ≤ (s.tsk i).group)) ⟨6, (i : Int), 0⟩ ∧ x.length ≤ (l2).length + 1 := ⟨_, rfl, iff1_len _ _ _⟩
    refine M_cutO [0,2,3,4,5,16,17,18,19] (k + 5) [] ((L, ⟨8, false, [lkRow (k + 4) s (l3)]⟩) :: accH (k + 4) 3 ((l3).map Flt.row) [(k + 1, ⟨8, true, [tf s i]⟩)]) ?_ ?_
    · refine dl [.gen (.tup []) (k + 5) (LK (L) (k + 3) s (l2)) (LK (L) (k + 4) s (l3))] ?_; refine zq4 ⟨⟨fun hg => ⟨?_⟩⟩⟩ ⟨⟨fun hg => ⟨?_⟩⟩⟩ ⟨⟨fun hg => ⟨?_⟩⟩⟩ ⟨⟨fun hg => ⟨?_⟩⟩⟩
      all_goals (first | (exact found' (k + 4) (L) (k + 3) s (l2) (l3) _ (decide ((s.tsk i).group < 0 ∨ (s.ng : Int) ≤ (s.tsk i).group)) _ _ _ (by first | rfl | (rw [Bool.eq_iff_iff]; simp only [beq_iff_eq, bne_iff_ne, ne_eq, decide_eq_true_eq, decide_eq_false_iff_not, Bool.and_eq_true, Bool.or_eq_true, Bool.not_eq_true', beq_eq_false_iff_ne, Bool.false_eq_true, Bool.true_eq_false, true_iff, false_iff, iff_true, iff_false]; omega) | (simp [hg]; done) | (simp [hg, hq]; done) | (simp_all; done) | (simp_all; omega)) e_l3 (by omega) (by omega) (by omega) (by omega)) | ((have uU := zA @a1 (zA @a2 (zA @a3 (zA @a4 (zA @a5 (zA @a6 (zA @b1 (zA @b2 (zA @b3 (zA @b4 (zA @b5 (zA @b6 (zA @c1 (zA @c2 (zA @hcn (zA @hm0 @hm1))))))))))))))); exact wkU)))
    refine rR ?_; apply zN
    refine C_seq rfl ?_
    obtain ⟨l4, e_l4, h_l4⟩ : ∃ x, x = l3 ++ iff1 (!(decide (0 ≤ (s.tsk i).cpu ∧ (s.tsk i).cpu < s.cpus))) ⟨7, (i : Int), 0⟩ ∧ x.length ≤ (l3).length + 1 := ⟨_, rfl, iff1_len _ _ _⟩
    refine M_cutO [0,2,3,4,5,16,17,18,19] (k + 6) [] ((L, ⟨8, false, [lkRow (k + 5) s (l4)]⟩) :: accH (k + 5) 3 ((l4).map Flt.row) [(k + 1, ⟨8, true, [tf s i]⟩)]) ?_ ?_
    · refine cl [.gen (.tup []) (k + 6) (LK (L) (k + 4) s (l3)) (LK (L) (k + 5) s (l4))] ?_; refine zq2 ⟨⟨⟨?_⟩⟩⟩ ⟨⟨⟨?_⟩⟩⟩
      all_goals (first | (exact found' (k + 5) (L) (k + 4) s (l3) (l4) _ (!(decide (0 ≤ (s.tsk i).cpu ∧ (s.tsk i).cpu < s.cpus))) _ _ _ (by first | rfl | (rw [Bool.eq_iff_iff]; simp only [beq_iff_eq, bne_iff_ne, ne_eq, decide_eq_true_eq, decide_eq_false_iff_not, Bool.and_eq_true, Bool.or_eq_true, Bool.not_eq_true', beq_eq_false_iff_ne, Bool.false_eq_true, Bool.true_eq_false, true_iff, false_iff, iff_true, iff_false]; omega) | (simp [hg]; done) | (simp [hg, hq]; done) | (simp_all; done) | (simp_all; omega)) e_l4 (by omega) (by omega) (by omega) (by omega)) | ((have uU := zA @a1 (zA @a2 (zA @a3 (zA @a4 (zA @a5 (zA @a6 (zA @b1 (zA @b2 (zA @b3 (zA @b4 (zA @b5 (zA @b6 (zA @c1 (zA @c2 (zA @hcn (zA @hm0 @hm1))))))))))))))); exact wkU)))
    refine rR ?_; apply zN
    refine C_seq rfl ?_
    obtain ⟨l5, e_l5, h_l5⟩ : ∃ x, x = l4 ++ iff1 (decide (s.cpus < 64) && decide (0 < (s.tsk i).mask.fdiv (2 ^ min s.cpus.toNat 64))) ⟨8, (i : Int), 0⟩ ∧ x.length ≤ (l4).length + 1 := ⟨_, rfl, iff1_len _ _ _⟩
    refine M_cutO [0,2,3,4,5,16,17,18,19] (k + 7) [] ((L, ⟨8, false, [lkRow (k + 6) s (l5)]⟩) :: accH (k + 6) 3 ((l5).map Flt.row) [(k + 1, ⟨8, true, [tf s i]⟩)]) ?_ ?_
    · refine cl [.gen (.tup []) (k + 7) (LK (L) (k + 5) s (l4)) (LK (L) (k + 6) s (l5))] ?_; refine zq4 ⟨⟨fun hg => ⟨?_⟩⟩⟩ ⟨⟨fun hg => ⟨?_⟩⟩⟩ ⟨⟨fun hg => ⟨?_⟩⟩⟩ ⟨⟨fun hg => ⟨?_⟩⟩⟩
      all_goals (first | (exact found' (k + 6) (L) (k + 5) s (l4) (l5) _ (decide (s.cpus < 64) && decide (0 < (s.tsk i).mask.fdiv (2 ^ min s.cpus.toNat 64))) _ _ _ (by first | rfl | (rw [Bool.eq_iff_iff]; simp only [beq_iff_eq, bne_iff_ne, ne_eq, decide_eq_true_eq, decide_eq_false_iff_not, Bool.and_eq_true, Bool.or_eq_true, Bool.not_eq_true', beq_eq_false_iff_ne, Bool.false_eq_true, Bool.true_eq_false, true_iff, false_iff, iff_true, iff_false]; omega) | (simp [hg]; done) | (simp [hg, hq]; done) | (simp_all; done) | (simp_all; omega)) e_l5 (by omega) (by omega) (by omega) (by omega)) | ((have uU := zA @a1 (zA @a2 (zA @a3 (zA @a4 (zA @a5 (zA @a6 (zA @b1 (zA @b2 (zA @b3 (zA @b4 (zA @b5 (zA @b6 (zA @c1 (zA @c2 (zA @hcn (zA @hm0 @hm1))))))))))))))); exact wkU)))
    refine rR ?_; apply zN
    refine C_seq rfl ?_
    obtain ⟨l6, e_l6, h_l6⟩ : ∃ x, x = l5 ++ iff1 (decide (0 ≤ (s.tsk i).cpu ∧ (s.tsk i).cpu < s.cpus) && (IntKind.u64.wrap (BitVec.ofInt IntKind.u64.bits ((s.tsk i).mask.fdiv (2 ^ min (max0 (s.tsk i).cpu).toNat 64)) &&& BitVec.ofInt IntKind.u64.bits 1).toNat == 0)) ⟨9, (i : Int), 0⟩ ∧ x.length ≤ (l5).length + 1 := ⟨_, rfl, iff1_len _ _ _⟩
    refine M_cutO [0,2,3,4,16,17,18,19] (k + 8) [] ((L, ⟨8, false, [lkRow (k + 7) s (l6)]⟩) :: accH (k + 7) 3 ((l6).map Flt.row) [(k + 1, ⟨8, true, [tf s i]⟩)]) ?_ ?_
    · refine cl [.gen (.tup []) (k + 8) (LK (L) (k + 6) s (l5)) (LK (L) (k + 7) s (l6))] ?_ <;> and_intros <;> first | exact hdT | (apply zM; (repeat intro ht); apply zM; (repeat intro hg); apply zM)
      all_goals (first | (exact found' (k + 7) (L) (k + 6) s (l5) (l6) _ (decide (0 ≤ (s.tsk i).cpu ∧ (s.tsk i).cpu < s.cpus) && (IntKind.u64.wrap (BitVec.ofInt IntKind.u64.bits ((s.tsk i).mask.fdiv (2 ^ min (max0 (s.tsk i).cpu).toNat 64)) &&& BitVec.ofInt IntKind.u64.bits 1).toNat == 0)) _ _ _ (by first | rfl | (rw [Bool.eq_iff_iff]; simp only [beq_iff_eq, bne_iff_ne, ne_eq, decide_eq_true_eq, decide_eq_false_iff_not, Bool.and_eq_true, Bool.or_eq_true, Bool.not_eq_true', beq_eq_false_iff_ne, Bool.false_eq_true, Bool.true_eq_false, true_iff, false_iff, iff_true, iff_false]; omega) | (simp [hg]; done) | (simp [hg, hq]; done) | (simp_all; done) | (simp_all; omega)) e_l6 (by omega) (by omega) (by omega) (by omega)) | ((have uU := zA @a1 (zA @a2 (zA @a3 (zA @a4 (zA @a5 (zA @a6 (zA @b1 (zA @b2 (zA @b3 (zA @b4 (zA @b5 (zA @b6 (zA @c1 (zA @c2 (zA @hcn (zA @hm0 @hm1))))))))))))))); exact wkU)))
    refine rR ?_; apply zN
    obtain ⟨l7, e_l7, h_l7⟩ : ∃ x, x = l6 ++ iff1 (!(ent (s.tsk i).v (s.tsk i).r (s.tsk i).weight)) ⟨10, (i : Int), 0⟩ ∧ x.length ≤ (l6).length + 1 := ⟨_, rfl, iff1_len _ _ _⟩
    refine M_cutO [0,2,3,4,5,16,17,18,19] (k + 9) [] ((L, ⟨8, false, [lkRow (k + 8) s (l7)]⟩) :: accH (k + 8) 3 ((l7).map Flt.row) [(k + 1, ⟨8, true, [tf s i]⟩)]) ?_ ?_
    · refine cl [.ret (.lit (.bool (ent (s.tsk i).v (s.tsk i).r (s.tsk i).weight))), .gen (.tup []) (k + 9) (LK (L) (k + 7) s (l6)) (LK (L) (k + 8) s (l7))] ?_; refine zq3 ⟨⟨⟨?_⟩⟩⟩ ⟨⟨⟨?_⟩⟩⟩ ⟨⟨⟨?_⟩⟩⟩
      all_goals (first | (exact found' (k + 8) (L) (k + 7) s (l6) (l7) _ (!(ent (s.tsk i).v (s.tsk i).r (s.tsk i).weight)) _ _ _ (by first | rfl | (rw [Bool.eq_iff_iff]; simp only [beq_iff_eq, bne_iff_ne, ne_eq, decide_eq_true_eq, decide_eq_false_iff_not, Bool.and_eq_true, Bool.or_eq_true, Bool.not_eq_true', beq_eq_false_iff_ne, Bool.false_eq_true, Bool.true_eq_false, true_iff, false_iff, iff_true, iff_false]; omega) | (simp [hg]; done) | (simp [hg, hq]; done) | (simp_all; done) | (simp_all; omega)) e_l7 (by omega) (by omega) (by omega) (by omega)) | (exact entity (s.tsk i).v (s.tsk i).r (s.tsk i).weight) | ((have uU := zA @a1 (zA @a2 (zA @a3 (zA @a4 (zA @a5 (zA @a6 (zA @b1 (zA @b2 (zA @b3 (zA @b4 (zA @b5 (zA @b6 (zA @c1 (zA @c2 (zA @hcn (zA @hm0 @hm1))))))))))))))); exact wkU)))
    refine rR ?_; apply zN
    refine wl ?_; refine zq1 ⟨⟨⟨?_⟩⟩⟩
    refine ⟨i + 1, by omega, by omega, ?_⟩
    rw [show l ++ flats (taskAt s) (i + 1) = l7 by
      rw [flats_succ, ← List.append_assoc, ← e0, e_l7, e_l6, e_l5, e_l4, e_l3, e_l2, e_l1]
      simp only [List.append_assoc]
      rfl]
    refine rR ?_; apply zN
    exact Mv.app (k + 8) (k) ⟨by omega, by omega⟩ ⟨by omega, by omega⟩ (wk_low (by omega) (by simp -dsimp -implicitDefEqProofs only [go_sem, a1, a2, a3, a4, a5, a6, b1, b2, b3, b4, b5, b6, c1, c2, hcn, hm0, hm1, List.map_append, Flt.row, eq_self, ↓reduceIte]) (by simp -dsimp -implicitDefEqProofs only [go_sem, a1, a2, a3, a4, a5, a6, b1, b2, b3, b4, b5, b6, c1, c2, hcn, hm0, hm1, List.map_append, Flt.row, eq_self, ↓reduceIte]) (by simp -dsimp -implicitDefEqProofs only [go_sem, a1, a2, a3, a4, a5, a6, b1, b2, b3, b4, b5, b6, c1, c2, hcn, hm0, hm1, List.map_append, Flt.row, eq_self, ↓reduceIte]) (by simp -dsimp -implicitDefEqProofs only [go_sem, a1, a2, a3, a4, a5, a6, b1, b2, b3, b4, b5, b6, c1, c2, hcn, hm0, hm1, List.map_append, Flt.row, eq_self, ↓reduceIte]))
end Go.Proofs.T
end
section
namespace Go.Proofs.T
open Go Go.AM Go.Proofs
set_option maxRecDepth 20000
variable {Γ : List (Nat × List AVal)}
def spotAt (s : St) (g c : Nat) : List Flt := if g = 0 then iff1 (decide ((s.sp g c).v ≠ 0 ∨ (s.sp g c).r ≠ 0)) ⟨12, (c : Int), 0⟩ else iff1 (!(ent (s.sp g c).v (s.sp g c).r (s.wt g))) ⟨11, (g : Int), (c : Int)⟩
theorem spotAt_len (s : St) (g c : Nat) : (spotAt s g c).length ≤ 1 := by unfold spotAt; split <;> exact iff1_len1 _ _
def spotsAt (s : St) (g : Nat) : List Flt := flats (spotAt s g) (s.nsp g)
def spotsA (s : St) : List Flt := flats (spotsAt s) s.ns
theorem flats_len' {f : Nat → List Flt} {m : Nat} : ∀ n, (∀ i, i < n → (f i).length ≤ m) → (flats f n).length ≤ n * m
  | 0, _ => by simp [flats]
  | n + 1, h => by have := flats_len' n (fun i hi => h i (by omega)); have := h n (by omega); simp only [flats, List.length_append, Nat.add_mul, Nat.one_mul]; omega
theorem spots (s : St) (hs : s.Small) (hg : s.ns ≤ s.ng) (h12 : s.ns ≤ 12) (hp12 : ∀ g, g < s.ns → s.nsp g ≤ 12) : Adds Γ 48 s (spotsA s) := by
  obtain ⟨hng, hnk, hnu, hnt, hns, hnsp⟩ := id hs
  intro k L F l hL hF hne hl
  obtain ⟨a1, a2, a3, a4, a5, a6⟩ := old_name hL
  obtain ⟨b1, b2, b3, b4, b5, b6⟩ := old_name hF
  obtain ⟨c1, c2⟩ := two_names hne
  refine Tr_at Tryz.func48 rfl 59 rfl (Nat.le_of_ble_eq_true rfl) (W_upM ?_)
  refine W_mv (Mv.fresh F (by omega)) ?_
  have uU := zA @a1 (zA @a2 (zA @a3 (zA @a4 (zA @a5 (zA @a6 (zA @b1 (zA @b2 (zA @b3 (zA @b4 (zA @b5 (zA @b6 (zA @c1 @c2))))))))))))
  refine rR ?_; apply zN
  have kp : Kp [0,2,3,4,5,10,11,12,13,17,18,19,20,25] (fun i => if i = L then 0 else i - k + 1) := kpI
  refine wl ?_; refine zq1 ⟨⟨⟨?_⟩⟩⟩
  refine M_forO (X := Nat) rfl [0,2,3,4,5,10,11,12,13,17,18,19,20,25] (k + 1) (fun i => [(12, .lit (.int .i64 (i : Int)))]) (fun i => LK L k s (l ++ flats (spotsAt s) i)) (fun i => i ≤ s.ns) (fun i => s.ns - i) 0 ?_ (Nat.zero_le _) ?_
  · rw [flats_zero, List.append_nil]
    refine rR ?_; apply zN
    (have uU := zA @a1 (zA @a2 (zA @a3 (zA @a4 (zA @a5 (zA @a6 (zA @b1 (zA @b2 (zA @b3 (zA @b4 (zA @b5 (zA @b6 (zA @c1 @c2)))))))))))); exact wkU)
  intro g hg2
  have hfl := flats_len' (f := spotsAt s) (m := 12) g (fun i hi => by have := flats_len (spotAt_len s i) (s.nsp i); have := hp12 i (by omega); unfold spotsAt; omega)
  obtain ⟨l0, e0, h0⟩ : ∃ x, x = l ++ flats (spotsAt s) g ∧ x.length ≤ l.length + g * 12 := ⟨_, rfl, by simp; omega⟩
  rw [← e0]
  refine rR ?_; apply zN
  refine wl ?_; refine zq2 ⟨fun ht => ⟨⟨?_⟩⟩⟩ ⟨fun ht => ⟨⟨?_⟩⟩⟩
  · have hpg : s.nsp g ≤ 12 := hp12 g (by omega)
    refine M_forO (X := Nat) rfl [0,2,3,4,5,10,11,12,13,17,18,19,20,25] (k + 1) (fun c => [(19, .lit (.int .i64 (c : Int)))]) (fun c => LK L k s (l0 ++ flats (spotAt s g) c)) (fun c => c ≤ s.nsp g) (fun c => s.nsp g - c) 0 ?_ (Nat.zero_le _) ?_
    · rw [flats_zero, List.append_nil]
      refine rR ?_; apply zN
      (have uU := zA @a1 (zA @a2 (zA @a3 (zA @a4 (zA @a5 (zA @a6 (zA @b1 (zA @b2 (zA @b3 (zA @b4 (zA @b5 (zA @b6 (zA @c1 @c2)))))))))))); exact wkU)
    intro c hc
    have hfc := flats_len (spotAt_len s g) c
    obtain ⟨l1, e1, h1⟩ : ∃ x, x = l0 ++ flats (spotAt s g) c ∧ x.length ≤ l0.length + c := ⟨_, rfl, by simp; omega⟩
    rw [← e1]
    refine rR ?_; apply zN
    refine wl ?_; refine zq3 ⟨fun ht ht => ⟨⟨?_⟩⟩⟩ ⟨fun ht ht => ⟨⟨?_⟩⟩⟩ ⟨fun ht => ⟨⟨?_⟩⟩⟩
    · have hg0 : g = 0 := by omega
      obtain ⟨l2, e_l2, h_l2⟩ : ∃ x, x = l1 ++ iff1 (decide ((s.sp g c).v ≠ 0 ∨ (s.sp g c).r ≠ 0)) ⟨12, (c : Int), 0⟩ ∧ x.length ≤ (l1).length + 1 := ⟨_, rfl, iff1_len _ _ _⟩
      refine M_cutO [0,2,3,4,5,10,11,12,13,17,18,19,20,25] (k + 3) [] ((L, ⟨8, false, [lkRow (k + 2) s (l2)]⟩) :: accH (k + 2) 3 ((l2).map Flt.row) [(k + 1, ⟨3, true, [sf s g c]⟩)]) ?_ ?_
      · refine cl [.gen (.tup []) (k + 3) (LK (L) (k) s (l1)) (LK (L) (k + 2) s (l2))] ?_; refine zq4 ⟨⟨fun hg => ⟨?_⟩⟩⟩ ⟨⟨fun hg => ⟨?_⟩⟩⟩ ⟨⟨fun hg => ⟨?_⟩⟩⟩ ⟨⟨fun hg => ⟨?_⟩⟩⟩
        all_goals (first | (exact found' (k + 2) (L) (k) s (l1) (l2) _ (decide ((s.sp g c).v ≠ 0 ∨ (s.sp g c).r ≠ 0)) _ _ _ (by first | rfl | (rw [Bool.eq_iff_iff]; simp only [beq_iff_eq, bne_iff_ne, ne_eq, decide_eq_true_eq, decide_eq_false_iff_not, Bool.and_eq_true, Bool.or_eq_true, Bool.not_eq_true', beq_eq_false_iff_ne, Bool.false_eq_true, Bool.true_eq_false, true_iff, false_iff, iff_true, iff_false]; omega) | (simp [hg]; done) | (simp [hg, hq]; done) | (simp_all; done) | (simp_all; omega)) e_l2 (by omega) (by omega) (by omega) (by omega)) | ((have uU := zA @a1 (zA @a2 (zA @a3 (zA @a4 (zA @a5 (zA @a6 (zA @b1 (zA @b2 (zA @b3 (zA @b4 (zA @b5 (zA @b6 (zA @c1 @c2)))))))))))); exact wkU)))
      refine rR ?_; apply zN
      refine wl ?_; refine zq1 ⟨⟨⟨?_⟩⟩⟩
      refine ⟨c + 1, by omega, by omega, ?_⟩
      rw [show l0 ++ flats (spotAt s g) (c + 1) = l2 by
        rw [flats_succ, ← List.append_assoc, ← e1, e_l2, spotAt, if_pos hg0]]
      refine rR ?_; apply zN
      exact Mv.app (k + 2) (k) ⟨by omega, by omega⟩ ⟨by omega, by omega⟩ (wk_low (by omega) (by simp -dsimp -implicitDefEqProofs only [go_sem, a1, a2, a3, a4, a5, a6, b1, b2, b3, b4, b5, b6, c1, c2, List.map_append, Flt.row, eq_self, ↓reduceIte]) (by simp -dsimp -implicitDefEqProofs only [go_sem, a1, a2, a3, a4, a5, a6, b1, b2, b3, b4, b5, b6, c1, c2, List.map_append, Flt.row, eq_self, ↓reduceIte]) (by simp -dsimp -implicitDefEqProofs only [go_sem, a1, a2, a3, a4, a5, a6, b1, b2, b3, b4, b5, b6, c1, c2, List.map_append, Flt.row, eq_self, ↓reduceIte]) (by simp -dsimp -implicitDefEqProofs only [go_sem, a1, a2, a3, a4, a5, a6, b1, b2, b3, b4, b5, b6, c1, c2, List.map_append, Flt.row, eq_self, ↓reduceIte]))
    · have hg0 : ¬ g = 0 := by omega
      obtain ⟨l2, e_l2, h_l2⟩ : ∃ x, x = l1 ++ iff1 (!(ent (s.sp g c).v (s.sp g c).r (s.wt g))) ⟨11, (g : Int), (c : Int)⟩ ∧ x.length ≤ (l1).length + 1 := ⟨_, rfl, iff1_len _ _ _⟩
      refine M_cutO [0,2,3,4,5,10,11,12,13,17,18,19,20,25] (k + 3) [] ((L, ⟨8, false, [lkRow (k + 2) s (l2)]⟩) :: accH (k + 2) 3 ((l2).map Flt.row) [(k + 1, ⟨3, true, [sf s g c]⟩)]) ?_ ?_
      · refine dl [.ret (.lit (.bool (ent (s.sp g c).v (s.sp g c).r (s.wt g)))), .gen (.tup []) (k + 3) (LK (L) (k) s (l1)) (LK (L) (k + 2) s (l2))] ?_; refine zq3 ⟨⟨⟨?_⟩⟩⟩ ⟨⟨⟨?_⟩⟩⟩ ⟨⟨⟨?_⟩⟩⟩
        all_goals (first | (exact found' (k + 2) (L) (k) s (l1) (l2) _ (!(ent (s.sp g c).v (s.sp g c).r (s.wt g))) _ _ _ (by first | rfl | (rw [Bool.eq_iff_iff]; simp only [beq_iff_eq, bne_iff_ne, ne_eq, decide_eq_true_eq, decide_eq_false_iff_not, Bool.and_eq_true, Bool.or_eq_true, Bool.not_eq_true', beq_eq_false_iff_ne, Bool.false_eq_true, Bool.true_eq_false, true_iff, false_iff, iff_true, iff_false]; omega) | (simp [hg]; done) | (simp [hg, hq]; done) | (simp_all; done) | (simp_all; omega)) e_l2 (by omega) (by omega) (by omega) (by omega)) | (exact entity (s.sp g c).v (s.sp g c).r (s.wt g)) | ((have uU := zA @a1 (zA @a2 (zA @a3 (zA @a4 (zA @a5 (zA @a6 (zA @b1 (zA @b2 (zA @b3 (zA @b4 (zA @b5 (zA @b6 (zA @c1 @c2)))))))))))); exact wkU)))
      refine rR ?_; apply zN
      refine wl ?_; refine zq1 ⟨⟨⟨?_⟩⟩⟩
      refine ⟨c + 1, by omega, by omega, ?_⟩
      rw [show l0 ++ flats (spotAt s g) (c + 1) = l2 by
        rw [flats_succ, ← List.append_assoc, ← e1, e_l2, spotAt, if_neg hg0]]
      refine rR ?_; apply zN
      exact Mv.app (k + 2) (k) ⟨by omega, by omega⟩ ⟨by omega, by omega⟩ (wk_low (by omega) (by simp -dsimp -implicitDefEqProofs only [go_sem, a1, a2, a3, a4, a5, a6, b1, b2, b3, b4, b5, b6, c1, c2, List.map_append, Flt.row, eq_self, ↓reduceIte]) (by simp -dsimp -implicitDefEqProofs only [go_sem, a1, a2, a3, a4, a5, a6, b1, b2, b3, b4, b5, b6, c1, c2, List.map_append, Flt.row, eq_self, ↓reduceIte]) (by simp -dsimp -implicitDefEqProofs only [go_sem, a1, a2, a3, a4, a5, a6, b1, b2, b3, b4, b5, b6, c1, c2, List.map_append, Flt.row, eq_self, ↓reduceIte]) (by simp -dsimp -implicitDefEqProofs only [go_sem, a1, a2, a3, a4, a5, a6, b1, b2, b3, b4, b5, b6, c1, c2, List.map_append, Flt.row, eq_self, ↓reduceIte]))
    · have hc' : c = s.nsp g := by omega
      refine ⟨g + 1, by omega, by omega, ?_⟩
      rw [show l ++ flats (spotsAt s) (g + 1) = l1 by
        rw [flats_succ, ← List.append_assoc, ← e0, e1, hc']; rfl]
      refine rR ?_; apply zN
      (have uU := zA @a1 (zA @a2 (zA @a3 (zA @a4 (zA @a5 (zA @a6 (zA @b1 (zA @b2 (zA @b3 (zA @b4 (zA @b5 (zA @b6 (zA @c1 @c2)))))))))))); exact wkU)
  · have hi' : g = s.ns := by omega
    subst hi'
    refine ⟨k + 1, [], LK L k s l0, ?_, _, rfl, rfl, rfl, by rw [e0]; rfl⟩
    (have uU := zA @a1 (zA @a2 (zA @a3 (zA @a4 (zA @a5 (zA @a6 (zA @b1 (zA @b2 (zA @b3 (zA @b4 (zA @b5 (zA @b6 (zA @c1 @c2)))))))))))); exact wkU)
end Go.Proofs.T
end
section
namespace Go.Proofs.T
open Go Go.AM Go.Proofs
set_option maxRecDepth 20000
variable {Γ : List (Nat × List AVal)}
def optP : Option Int → AVal
  | none => .lit (.pointer none)
  | some v => .rp [.lit (.int .u64 v)]
theorem optP_clean (x : Option Int) : clean (optP x) = true := by cases x <;> rfl
theorem optP_none : optP none = .lit (.pointer none) := rfl
theorem optP_some (v : Int) : optP (some v) = .rp [.lit (.int .u64 v)] := rfl
def rowsP (f : Nat → Option Int) (n : Nat) : List (List AVal) := (List.range n).map fun i => [optP (f i)]
theorem rowsP_len (f : Nat → Option Int) (n : Nat) : (rowsP f n).length = n := by simp [rowsP]
theorem rowsP_get (f : Nat → Option Int) (n g : Nat) (h : g < n) : (rowsP f n)[g]? = some [optP (f g)] := by simp [rowsP, h]
theorem rowsP_clean (f : Nat → Option Int) (n : Nat) : ((rowsP f n).all fun row => row.all clean) = true := all_clean fun i => by simp [optP_clean]
def put (f : Nat → Option Int) (g : Nat) (v : Int) : Nat → Option Int := fun i => if i = g then some v else f i
theorem rowsP_set (f : Nat → Option Int) (n g : Nat) (v : Int) : (rowsP f n).set g [.rp [.lit (.int .u64 v)]] = rowsP (put f g v) n := by
  apply List.ext_getElem?
  intro j
  rw [List.getElem?_set]
  by_cases hj : j < n
  · rw [rowsP_get _ n j hj, rowsP_get _ n j hj, rowsP_len]
    by_cases he : g = j
    · subst he; simp [put, hj, optP]
    · have : ¬ j = g := fun e => he e.symm
      simp [he, put, this]
  · have h1 : (rowsP f n)[j]? = none := by simp [rowsP, hj]
    have h2 : (rowsP (put f g v) n)[j]? = none := by simp [rowsP, hj]
    rw [h1, h2, rowsP_len]
    split
    · rename_i he; subst he; simp [hj]
    · rfl
def low (f : Nat → Option Int) (g : Nat) (v : Int) : Nat → Option Int := match f g with
  | none => put f g v
  | some u => if v < u then put f g v else f
def LW (T B n : Nat) (f : Nat → Option Int) : Heap := [(T, ⟨1, false, [[.sl B 0 n]]⟩), (B, ⟨1, true, rowsP f n⟩)]
attribute [go_sem] LW rowsP_len
theorem lower (k T B n : Nat) (f : Nat → Option Int) (g : Nat) (v : Int) (hT : T < k) (hB : B < k) (hne : T ≠ B) (hg : g < n) :
    Tr Tryz.prog Γ 90 k [.lit (.int .i64 (g : Int)), .lit (.int .u64 v), .ptr T 0 0] (LW T B n f) (fun k1 r1 H1 => k1 = k ∧ r1 = .tup [] ∧ H1 = LW T B n (low f g v)) := by
  obtain ⟨a1, a2, a3, a4, a5, a6⟩ := old_name hT
  obtain ⟨b1, b2, b3, b4, b5, b6⟩ := old_name hB
  obtain ⟨c1, c2⟩ := two_names hne
  have hget := rowsP_get f n g hg
  refine Tr_at Tryz.func90 rfl 23 rfl (Nat.le_of_ble_eq_true rfl) (W_upM ?_)
  cases hf : f g with
  | none =>
    rw [hf, optP_none] at hget
    have kp : Kp [0,1,2,4,19] (fun i => if i = T then 0 else if i = B then 1 else i - k + 2) := kpI
    have uU := zA @a1 (zA @a2 (zA @a3 (zA @a4 (zA @a5 (zA @a6 (zA @b1 (zA @b2 (zA @b3 (zA @b4 (zA @b5 (zA @b6 (zA @c1 (zA @c2 @hget)))))))))))))
    refine wl ?_; refine zq1 ⟨fun ht => ⟨⟨?_⟩⟩⟩
    refine ⟨k, [], LW T B n (put f g v), ?_, _, rfl, rfl, rfl, by rw [show low f g v = put f g v by simp only [low, hf]]; rfl⟩
    refine Mv.trans (Mv.freeze k (by simp -dsimp -implicitDefEqProofs only [go_sem, a1, a2, a3, a4, a5, a6, b1, b2, b3, b4, b5, b6, c1, c2, hget, eq_self, ↓reduceIte]; rfl) rfl) ?_
    simp -dsimp -implicitDefEqProofs only [frzF, frz_app, go_sem, a1, a2, a3, a4, a5, a6, b1, b2, b3, b4, b5, b6, c1, c2, List.map_set, frz_rows (rowsP_clean f n), rowsP_set, eq_self, ↓reduceIte]
    refine Mv.trans (Mv.pure B (by simp -dsimp -implicitDefEqProofs only [go_sem, a1, a2, a3, a4, a5, a6, b1, b2, b3, b4, b5, b6, c1, c2, List.map_set, frz_rows (rowsP_clean f n), rowsP_set, eq_self, ↓reduceIte]; rfl) (rowsP_clean _ _)) ?_
    exact Mv.wk (wk_low (by omega) (by simp -dsimp -implicitDefEqProofs only [go_sem, a1, a2, a3, a4, a5, a6, b1, b2, b3, b4, b5, b6, c1, c2, List.map_set, frz_rows (rowsP_clean f n), rowsP_set, List.map_append, Flt.row, eq_self, ↓reduceIte]) (by simp -dsimp -implicitDefEqProofs only [go_sem, a1, a2, a3, a4, a5, a6, b1, b2, b3, b4, b5, b6, c1, c2, List.map_set, frz_rows (rowsP_clean f n), rowsP_set, List.map_append, Flt.row, eq_self, ↓reduceIte]) (by simp -dsimp -implicitDefEqProofs only [go_sem, a1, a2, a3, a4, a5, a6, b1, b2, b3, b4, b5, b6, c1, c2, List.map_set, frz_rows (rowsP_clean f n), rowsP_set, List.map_append, Flt.row, eq_self, ↓reduceIte]) (by simp -dsimp -implicitDefEqProofs only [go_sem, a1, a2, a3, a4, a5, a6, b1, b2, b3, b4, b5, b6, c1, c2, List.map_set, frz_rows (rowsP_clean f n), rowsP_set, List.map_append, Flt.row, eq_self, ↓reduceIte]))
  | some u =>
    rw [hf, optP_some] at hget
    have kp : Kp [0,1,2,4,19] (fun i => if i = T then 0 else if i = B then 1 else i - k + 2) := kpI
    have uU := zA @a1 (zA @a2 (zA @a3 (zA @a4 (zA @a5 (zA @a6 (zA @b1 (zA @b2 (zA @b3 (zA @b4 (zA @b5 (zA @b6 (zA @c1 (zA @c2 @hget)))))))))))))
    refine wl ?_; refine zq2 ⟨fun ht => ⟨⟨?_⟩⟩⟩ ⟨fun ht => ⟨⟨?_⟩⟩⟩
    · refine ⟨k, [], LW T B n (put f g v), ?_, _, rfl, rfl, rfl, by rw [show low f g v = put f g v by simp only [low, hf, if_pos ht]]; rfl⟩
      refine Mv.trans (Mv.freeze k (by simp -dsimp -implicitDefEqProofs only [go_sem, a1, a2, a3, a4, a5, a6, b1, b2, b3, b4, b5, b6, c1, c2, hget, eq_self, ↓reduceIte]; rfl) rfl) ?_
      simp -dsimp -implicitDefEqProofs only [frzF, frz_app, go_sem, a1, a2, a3, a4, a5, a6, b1, b2, b3, b4, b5, b6, c1, c2, List.map_set, frz_rows (rowsP_clean f n), rowsP_set, eq_self, ↓reduceIte]
      refine Mv.trans (Mv.pure B (by simp -dsimp -implicitDefEqProofs only [go_sem, a1, a2, a3, a4, a5, a6, b1, b2, b3, b4, b5, b6, c1, c2, List.map_set, frz_rows (rowsP_clean f n), rowsP_set, eq_self, ↓reduceIte]; rfl) (rowsP_clean _ _)) ?_
      exact Mv.wk (wk_low (by omega) (by simp -dsimp -implicitDefEqProofs only [go_sem, a1, a2, a3, a4, a5, a6, b1, b2, b3, b4, b5, b6, c1, c2, List.map_set, frz_rows (rowsP_clean f n), rowsP_set, List.map_append, Flt.row, eq_self, ↓reduceIte]) (by simp -dsimp -implicitDefEqProofs only [go_sem, a1, a2, a3, a4, a5, a6, b1, b2, b3, b4, b5, b6, c1, c2, List.map_set, frz_rows (rowsP_clean f n), rowsP_set, List.map_append, Flt.row, eq_self, ↓reduceIte]) (by simp -dsimp -implicitDefEqProofs only [go_sem, a1, a2, a3, a4, a5, a6, b1, b2, b3, b4, b5, b6, c1, c2, List.map_set, frz_rows (rowsP_clean f n), rowsP_set, List.map_append, Flt.row, eq_self, ↓reduceIte]) (by simp -dsimp -implicitDefEqProofs only [go_sem, a1, a2, a3, a4, a5, a6, b1, b2, b3, b4, b5, b6, c1, c2, List.map_set, frz_rows (rowsP_clean f n), rowsP_set, List.map_append, Flt.row, eq_self, ↓reduceIte]))
    · refine ⟨k, [], LW T B n f, ?_, _, rfl, rfl, rfl, by rw [show low f g v = f by simp only [low, hf, if_neg (Int.not_lt.2 ht)]]; rfl⟩
      (have uU := zA @a1 (zA @a2 (zA @a3 (zA @a4 (zA @a5 (zA @a6 (zA @b1 (zA @b2 (zA @b3 (zA @b4 (zA @b5 (zA @b6 (zA @c1 (zA @c2 @hget))))))))))))); exact wkU)
end Go.Proofs.T
end
section
namespace Go.Proofs.T
open Go Go.AM Go.Proofs
set_option maxRecDepth 20000
variable {Γ : List (Nat × List AVal)}
def takes (s : St) (c : Int) (i : Nat) : Bool := (s.tsk i).ready && decide ((s.tsk i).cpu = c)
def fT (s : St) (c : Int) : Nat → Nat → Option Int
  | 0 => fun _ => none
  | i + 1 => if takes s c i = true then low (fT s c i) (s.tsk i).group.toNat (s.tsk i).v else fT s c i
def stepF (s : St) (c g : Nat) (f : Nat → Option Int) : Nat → Option Int := match f g with
  | none => f
  | some _ => if 0 < g then low f (s.par g).toNat (s.sp g c).v else f
def stepL (s : St) (c g : Nat) (f : Nat → Option Int) : List Flt := match f g with
  | none => []
  | some m => iff1 (decide ((s.sp g c).floor < m)) ⟨14, (g : Int), (c : Int)⟩
theorem stepL_len (s : St) (c g : Nat) (f : Nat → Option Int) : (stepL s c g f).length ≤ 1 := by
  unfold stepL; split
  · simp
  · exact iff1_len1 _ _
def dF (s : St) (c : Nat) : Nat → Nat → Option Int
  | 0 => fT s c s.nt
  | j + 1 => stepF s c (s.ns - 1 - j) (dF s c j)
def floorJ (s : St) (c j : Nat) : List Flt := stepL s c (s.ns - 1 - j) (dF s c j)
def floorsAt (s : St) (c : Nat) : List Flt := flats (floorJ s c) s.ns
def floorsA (s : St) : List Flt := flats (floorsAt s) s.cpus.toNat
structure FloorOk (s : St) : Prop where
  grp : ∀ i, i < s.nt → 0 ≤ (s.tsk i).group ∧ (s.tsk i).group < s.ns
  par : ∀ g, 1 ≤ g → g < s.ns → 0 ≤ s.par g ∧ s.par g < g
  sp : ∀ g, g < s.ns → (s.nsp g : Int) = s.cpus
  ng : s.ns ≤ s.ng
  c0 : 0 ≤ s.cpus
  c1 : s.cpus ≤ 64
  n12 : s.ns ≤ 12
theorem rowsP_nil (n : Nat) : List.replicate n [AVal.lit (.pointer none)] = rowsP (fun _ => none) n := by
  apply List.ext_getElem?
  intro j
  by_cases hj : j < n
  · rw [rowsP_get _ n j hj, List.getElem?_replicate, if_pos hj]; rfl
  · rw [List.getElem?_replicate, if_neg hj]; simp [rowsP, hj]
set_option maxHeartbeats 4000000 in
theorem floors (s : St) (hs : s.Small) (hk : FloorOk s) : Adds Γ 49 s (floorsA s) := by
  obtain ⟨hng, hnk, hnu, hnt, hns, hnsp⟩ := id hs
  obtain ⟨kgrp, kpar, ksp, kng, kc0, kc1, k12⟩ := hk
  intro k L F l hL hF hne hl
  obtain ⟨a1, a2, a3, a4, a5, a6⟩ := old_name hL
  obtain ⟨b1, b2, b3, b4, b5, b6⟩ := old_name hF
  obtain ⟨c1, c2⟩ := two_names hne
  refine Tr_at Tryz.func49 rfl 112 rfl (Nat.le_of_ble_eq_true rfl) (W_upM ?_)
  refine W_mv (Mv.fresh F (by omega)) ?_
  have uU := zA @a1 (zA @a2 (zA @a3 (zA @a4 (zA @a5 (zA @a6 (zA @b1 (zA @b2 (zA @b3 (zA @b4 (zA @b5 (zA @b6 (zA @c1 @c2))))))))))))
  refine rR ?_; apply zN
  have kp : Kp [0,2,3,4,6,7,13,14,15,29,30,31,32,42,54,61,86] (fun i => if i = L then 0 else i - k + 1) := kpI
  refine wl ?_; refine zq1 ⟨⟨⟨?_⟩⟩⟩
  refine M_forO (X := Nat) rfl [0,2,3,4,6,7,13,14,15,29,30,31,32,42,54,61,86] (k + 1) (fun i => [(14, .lit (.int .i64 (i : Int)))]) (fun i => LK L k s (l ++ flats (floorsAt s) i)) (fun i => i ≤ s.cpus.toNat) (fun i => s.cpus.toNat - i) 0 ?_ (Nat.zero_le _) ?_
  · rw [flats_zero, List.append_nil]
    refine rR ?_; apply zN
    (have uU := zA @a1 (zA @a2 (zA @a3 (zA @a4 (zA @a5 (zA @a6 (zA @b1 (zA @b2 (zA @b3 (zA @b4 (zA @b5 (zA @b6 (zA @c1 @c2)))))))))))); exact wkU)
  intro c hc
  have hfl := flats_len (f := floorsAt s) (m := 12) (fun i => by have := flats_len (f := floorJ s i) (m := 1) (fun j => stepL_len _ _ _ _) s.ns; unfold floorsAt; omega) c
  obtain ⟨l0, e0, h0⟩ : ∃ x, x = l ++ flats (floorsAt s) c ∧ x.length ≤ l.length + c * 12 := ⟨_, rfl, by simp; omega⟩
  rw [← e0]
  have uU := zA @a1 (zA @a2 (zA @a3 (zA @a4 (zA @a5 (zA @a6 (zA @b1 (zA @b2 (zA @b3 (zA @b4 (zA @b5 (zA @b6 (zA @c1 (zA @c2 @rowsP_nil)))))))))))))
  refine rR ?_; apply zN
  refine wl ?_; refine zq2 ⟨fun ht => ⟨⟨?_⟩⟩⟩ ⟨fun ht => ⟨⟨?_⟩⟩⟩
  · refine M_forO (X := Nat) rfl [0,2,3,4,6,7,13,14,15,29,30,31,32,42,54,61,86] (k + 3) (fun i => [(31, .lit (.int .i64 (i : Int)))]) (fun i => LW (k + 2) (k + 1) s.ns (fT s c i) ++ LK L k s l0) (fun i => i ≤ s.nt) (fun i => s.nt - i) 0 ?_ (Nat.zero_le _) ?_
    · rw [fT]
      refine rR ?_; apply zN
      (have uU := zA @a1 (zA @a2 (zA @a3 (zA @a4 (zA @a5 (zA @a6 (zA @b1 (zA @b2 (zA @b3 (zA @b4 (zA @b5 (zA @b6 (zA @c1 (zA @c2 @rowsP_nil))))))))))))); exact wkU)
    intro i hi
    obtain ⟨f, ef⟩ : ∃ f, f = fT s c i := ⟨_, rfl⟩
    rw [← ef]
    have hstep : fT s c (i + 1) = if takes s c i = true then low f (s.tsk i).group.toNat (s.tsk i).v else f := by rw [ef]; rfl
    refine rR ?_; apply zN
    refine wl ?_; refine zq4 ⟨fun ht ht => ⟨fun hg => ⟨?_⟩⟩⟩ ⟨fun ht ht => ⟨fun hg => ⟨?_⟩⟩⟩ ⟨fun ht ht => ⟨fun hg => ⟨?_⟩⟩⟩ ⟨fun ht => ⟨⟨?_⟩⟩⟩
    · obtain ⟨hg1, hg2⟩ := kgrp i (by omega)
      have htk : takes s c i = true := by simp [takes, hg, ht]
      obtain ⟨f1, ef1⟩ : ∃ f1, f1 = low f (s.tsk i).group.toNat (s.tsk i).v := ⟨_, rfl⟩
      refine cl [.gen (.tup []) (k + 4) (LW (k + 2) (k + 1) s.ns f) (LW (k + 2) (k + 1) s.ns f1)] ?_; refine zq2 ⟨⟨⟨?_⟩⟩⟩ ⟨⟨⟨?_⟩⟩⟩
      · have h := lower (Γ := Γ) (k + 4) (k + 2) (k + 1) s.ns f (s.tsk i).group.toNat (s.tsk i).v (by omega) (by omega) (by omega) (by omega)
        rw [Int.toNat_of_nonneg hg1, ← ef1] at h
        exact h
      refine wl ?_; refine zq1 ⟨⟨⟨?_⟩⟩⟩
      refine ⟨i + 1, by omega, by omega, ?_⟩
      rw [hstep, if_pos htk, ← ef1]
      refine rR ?_; apply zN
      (have uU := zA @a1 (zA @a2 (zA @a3 (zA @a4 (zA @a5 (zA @a6 (zA @b1 (zA @b2 (zA @b3 (zA @b4 (zA @b5 (zA @b6 (zA @c1 (zA @c2 @rowsP_nil))))))))))))); exact wkU)
    · refine ⟨i + 1, by omega, by omega, ?_⟩
      rw [hstep, if_neg (by simp [takes, ht])]
      refine rR ?_; apply zN
      (have uU := zA @a1 (zA @a2 (zA @a3 (zA @a4 (zA @a5 (zA @a6 (zA @b1 (zA @b2 (zA @b3 (zA @b4 (zA @b5 (zA @b6 (zA @c1 (zA @c2 @rowsP_nil))))))))))))); exact wkU)
    · refine ⟨i + 1, by omega, by omega, ?_⟩
      rw [hstep, if_neg (by simp [takes, hg])]
      refine rR ?_; apply zN
      (have uU := zA @a1 (zA @a2 (zA @a3 (zA @a4 (zA @a5 (zA @a6 (zA @b1 (zA @b2 (zA @b3 (zA @b4 (zA @b5 (zA @b6 (zA @c1 (zA @c2 @rowsP_nil))))))))))))); exact wkU)
    · have hi' : i = s.nt := by omega
      subst hi'
      clear hstep
      refine M_forO (X := Nat) rfl [0,2,3,4,6,7,13,14,15,29,30,31,32,42,54,61,86] (k + 3) (fun j => [(7, .lit (.int .i64 ((s.ns : Int) - 1 - j)))]) (fun j => LW (k + 2) (k + 1) s.ns (dF s c j) ++ LK L k s (l0 ++ flats (floorJ s c) j)) (fun j => j ≤ s.ns) (fun j => s.ns - j) 0 ?_ (Nat.zero_le _) ?_
      · rw [flats_zero, List.append_nil, dF, ← ef, show ((s.ns : Int) - 1 - ((0 : Nat) : Int)) = (s.ns : Int) - 1 by omega]
        refine rR ?_; apply zN
        (have uU := zA @a1 (zA @a2 (zA @a3 (zA @a4 (zA @a5 (zA @a6 (zA @b1 (zA @b2 (zA @b3 (zA @b4 (zA @b5 (zA @b6 (zA @c1 (zA @c2 @rowsP_nil))))))))))))); exact wkU)
      clear ef f
      intro j hj
      have hfj := flats_len (f := floorJ s c) (m := 1) (fun j => stepL_len _ _ _ _) j
      obtain ⟨l1, e1, h1⟩ : ∃ x, x = l0 ++ flats (floorJ s c) j ∧ x.length ≤ l0.length + j := ⟨_, rfl, by simp; omega⟩
      obtain ⟨f, ef⟩ : ∃ f, f = dF s c j := ⟨_, rfl⟩
      rw [← e1, ← ef]
      refine rR ?_; apply zN
      by_cases hlt : j < s.ns
      · obtain ⟨g, eg, hgn⟩ : ∃ g : Nat, (s.ns : Int) - 1 - j = (g : Int) ∧ g = s.ns - 1 - j := ⟨s.ns - 1 - j, by omega, rfl⟩
        rw [eg]
        have hF : dF s c (j + 1) = stepF s c g f := by rw [ef, hgn]; rfl
        have hLj : floorJ s c j = stepL s c g f := by rw [ef, hgn]; rfl
        have hget := rowsP_get f s.ns g (by omega)
        cases hf : f g with
        | none =>
          rw [hf, optP_none] at hget
          have uU := zA @a1 (zA @a2 (zA @a3 (zA @a4 (zA @a5 (zA @a6 (zA @b1 (zA @b2 (zA @b3 (zA @b4 (zA @b5 (zA @b6 (zA @c1 (zA @c2 @hget)))))))))))))
          refine wl ?_; refine zq1 ⟨fun ht ht => ⟨⟨?_⟩⟩⟩
          refine ⟨j + 1, by omega, by omega, ?_⟩
          rw [hF, show stepF s c g f = f by simp only [stepF, hf], flats_succ, hLj, show stepL s c g f = [] by simp only [stepL, hf], List.append_nil, ← e1, show ((s.ns : Int) - 1 - ((j + 1 : Nat) : Int)) = (g : Int) - 1 by omega]
          (have uU := zA @a1 (zA @a2 (zA @a3 (zA @a4 (zA @a5 (zA @a6 (zA @b1 (zA @b2 (zA @b3 (zA @b4 (zA @b5 (zA @b6 (zA @c1 (zA @c2 @hget))))))))))))); exact wkU)
        | some m =>
          rw [hf, optP_some] at hget
          have hspg := ksp g (by omega)
          have hnn := eg
          have uU := zA @a1 (zA @a2 (zA @a3 (zA @a4 (zA @a5 (zA @a6 (zA @b1 (zA @b2 (zA @b3 (zA @b4 (zA @b5 (zA @b6 (zA @c1 (zA @c2 @hget)))))))))))))
          refine wl ?_; refine zq1 ⟨fun ht ht => ⟨⟨?_⟩⟩⟩
          obtain ⟨l2, e_l2, h_l2⟩ : ∃ x, x = l1 ++ iff1 (decide ((s.sp g c).floor < m)) ⟨14, (g : Int), (c : Int)⟩ ∧ x.length ≤ (l1).length + 1 := ⟨_, rfl, iff1_len _ _ _⟩
          refine M_cutO [0,2,3,4,6,7,13,14,15,29,30,31,32,42,54,61,86] (k + 4) [] ((L, ⟨8, false, [lkRow (k + 3) s (l2)]⟩) :: accH (k + 3) 3 ((l2).map Flt.row) (LW (k + 2) (k + 1) s.ns f)) ?_ ?_
          · refine dl [.gen (.tup []) (k + 4) (LK (L) (k) s (l1)) (LK (L) (k + 3) s (l2))] ?_; refine zq2 ⟨⟨⟨?_⟩⟩⟩ ⟨⟨⟨?_⟩⟩⟩
            all_goals (first | (exact found' (k + 3) (L) (k) s (l1) (l2) _ (decide ((s.sp g c).floor < m)) _ _ _ (by first | rfl | (rw [Bool.eq_iff_iff]; simp only [beq_iff_eq, bne_iff_ne, ne_eq, decide_eq_true_eq, decide_eq_false_iff_not, Bool.and_eq_true, Bool.or_eq_true, Bool.not_eq_true', beq_eq_false_iff_ne, Bool.false_eq_true, Bool.true_eq_false, true_iff, false_iff, iff_true, iff_false]; omega) | (simp [hg]; done) | (simp [hg, hq]; done) | (simp_all; done) | (simp_all; omega)) e_l2 (by omega) (by omega) (by omega) (by omega)) | ((have uU := zA @a1 (zA @a2 (zA @a3 (zA @a4 (zA @a5 (zA @a6 (zA @b1 (zA @b2 (zA @b3 (zA @b4 (zA @b5 (zA @b6 (zA @c1 (zA @c2 @hget))))))))))))); exact wkU)))
          refine rR ?_; apply zN
          have hl2 : l0 ++ flats (floorJ s c) (j + 1) = l2 := by
            rw [flats_succ, ← List.append_assoc, ← e1, hLj, e_l2]
            simp only [stepL, hf]
          refine wl ?_; refine zq2 ⟨fun ht => ⟨⟨?_⟩⟩⟩ ⟨fun ht => ⟨⟨?_⟩⟩⟩
          · obtain ⟨hp1, hp2⟩ := kpar g (by omega) (by omega)
            obtain ⟨f1, ef1⟩ : ∃ f1, f1 = low f (s.par g).toNat (s.sp g c).v := ⟨_, rfl⟩
            refine dl [.gen (.tup []) (k + 4) (LW (k + 2) (k + 1) s.ns f) (LW (k + 2) (k + 1) s.ns f1)] ?_; refine zq2 ⟨⟨⟨?_⟩⟩⟩ ⟨⟨⟨?_⟩⟩⟩
            · have h := lower (Γ := Γ) (k + 4) (k + 2) (k + 1) s.ns f (s.par g).toNat (s.sp g c).v (by omega) (by omega) (by omega) (by omega)
              rw [Int.toNat_of_nonneg hp1, ← ef1] at h
              exact h
            refine wl ?_; refine zq1 ⟨⟨⟨?_⟩⟩⟩
            refine ⟨j + 1, by omega, by omega, ?_⟩
            rw [hF, show stepF s c g f = f1 by simp only [stepF, hf]; rw [if_pos (by omega), ef1], hl2, show ((s.ns : Int) - 1 - ((j + 1 : Nat) : Int)) = (g : Int) - 1 by omega]
            exact Mv.app (k + 3) (k) ⟨by omega, by omega⟩ ⟨by omega, by omega⟩ (wk_low (by omega) (by simp -dsimp -implicitDefEqProofs only [go_sem, a1, a2, a3, a4, a5, a6, b1, b2, b3, b4, b5, b6, c1, c2, hget, List.map_append, Flt.row, eq_self, ↓reduceIte]) (by simp -dsimp -implicitDefEqProofs only [go_sem, a1, a2, a3, a4, a5, a6, b1, b2, b3, b4, b5, b6, c1, c2, hget, List.map_append, Flt.row, eq_self, ↓reduceIte]) (by simp -dsimp -implicitDefEqProofs only [go_sem, a1, a2, a3, a4, a5, a6, b1, b2, b3, b4, b5, b6, c1, c2, hget, List.map_append, Flt.row, eq_self, ↓reduceIte]) (by simp -dsimp -implicitDefEqProofs only [go_sem, a1, a2, a3, a4, a5, a6, b1, b2, b3, b4, b5, b6, c1, c2, hget, List.map_append, Flt.row, eq_self, ↓reduceIte]))
          · refine ⟨j + 1, by omega, by omega, ?_⟩
            rw [hF, show stepF s c g f = f by simp only [stepF, hf]; rw [if_neg (by omega)], hl2, show ((s.ns : Int) - 1 - ((j + 1 : Nat) : Int)) = (g : Int) - 1 by omega]
            exact Mv.app (k + 3) (k) ⟨by omega, by omega⟩ ⟨by omega, by omega⟩ (wk_low (by omega) (by simp -dsimp -implicitDefEqProofs only [go_sem, a1, a2, a3, a4, a5, a6, b1, b2, b3, b4, b5, b6, c1, c2, hget, List.map_append, Flt.row, eq_self, ↓reduceIte]) (by simp -dsimp -implicitDefEqProofs only [go_sem, a1, a2, a3, a4, a5, a6, b1, b2, b3, b4, b5, b6, c1, c2, hget, List.map_append, Flt.row, eq_self, ↓reduceIte]) (by simp -dsimp -implicitDefEqProofs only [go_sem, a1, a2, a3, a4, a5, a6, b1, b2, b3, b4, b5, b6, c1, c2, hget, List.map_append, Flt.row, eq_self, ↓reduceIte]) (by simp -dsimp -implicitDefEqProofs only [go_sem, a1, a2, a3, a4, a5, a6, b1, b2, b3, b4, b5, b6, c1, c2, hget, List.map_append, Flt.row, eq_self, ↓reduceIte]))
      · have uU := zA @a1 (zA @a2 (zA @a3 (zA @a4 (zA @a5 (zA @a6 (zA @b1 (zA @b2 (zA @b3 (zA @b4 (zA @b5 (zA @b6 (zA @c1 @c2))))))))))))
        refine wl ?_; refine zq1 ⟨fun ht => ⟨⟨?_⟩⟩⟩
        have hj' : j = s.ns := by omega
        refine ⟨c + 1, by omega, by omega, ?_⟩
        rw [show l ++ flats (floorsAt s) (c + 1) = l1 by
          rw [flats_succ, ← List.append_assoc, ← e0, e1, hj']; rfl]
        refine rR ?_; apply zN
        (have uU := zA @a1 (zA @a2 (zA @a3 (zA @a4 (zA @a5 (zA @a6 (zA @b1 (zA @b2 (zA @b3 (zA @b4 (zA @b5 (zA @b6 (zA @c1 @c2)))))))))))); exact wkU)
  · have hi' : c = s.cpus.toNat := by omega
    refine ⟨k + 1, [], LK L k s l0, ?_, _, rfl, rfl, rfl, by rw [e0, hi']; rfl⟩
    (have uU := zA @a1 (zA @a2 (zA @a3 (zA @a4 (zA @a5 (zA @a6 (zA @b1 (zA @b2 (zA @b3 (zA @b4 (zA @b5 (zA @b6 (zA @c1 @c2)))))))))))); exact wkU)
end Go.Proofs.T
end
section
namespace Go.Proofs.T
open Go Go.AM Go.Proofs
set_option maxRecDepth 20000
variable {Γ : List (Nat × List AVal)}
structure Wf (s : St) : Prop where
  mask0 : ∀ i, 0 ≤ (s.tsk i).mask
  mask1 : ∀ i, (s.tsk i).mask < 18446744073709551616
  tv : ∀ i, (s.tsk i).v ≤ 18446744073709551615
  tr : ∀ i, 0 ≤ (s.tsk i).r
  sv : ∀ g c, (s.sp g c).v ≤ 18446744073709551615
  sr : ∀ g c, 0 ≤ (s.sp g c).r
def wideB (s : St) (i : Nat) (c : Nat) : Bool := decide (s.cpus ≤ (c : Int)) && bitB (s.tsk i).mask c
def r8 (s : St) (i : Nat) : Bool := anyB (wideB s i) 64
def r9 (s : St) (i : Nat) : Bool := onB s i && !(bitB (s.tsk i).mask (s.tsk i).cpu.toNat)
def brk (s : St) (i : Nat) (r : Int) : Bool := if r = 4 then t4 s i else if r = 5 then t5 s i else if r = 6 then t6 s i else if r = 7 then t7 s i else if r = 8 then r8 s i else if r = 9 then r9 s i else t10 s i
theorem brk4 {s : St} {i : Nat} {r : Int} (h : r = 4) : brk s i r = t4 s i := by subst h; rfl
theorem brk5 {s : St} {i : Nat} {r : Int} (h : r = 5) : brk s i r = t5 s i := by subst h; rfl
theorem brk6 {s : St} {i : Nat} {r : Int} (h : r = 6) : brk s i r = t6 s i := by subst h; rfl
theorem brk7 {s : St} {i : Nat} {r : Int} (h : r = 7) : brk s i r = t7 s i := by subst h; rfl
theorem brk8 {s : St} {i : Nat} {r : Int} (h : r = 8) : brk s i r = r8 s i := by subst h; rfl
theorem brk9 {s : St} {i : Nat} {r : Int} (h : r = 9) : brk s i r = r9 s i := by subst h; rfl
theorem brk10 {s : St} {i : Nat} {r : Int} (h4 : ¬ r = 4) (h5 : ¬ r = 5) (h6 : ¬ r = 6) (h7 : ¬ r = 7) (h8 : ¬ r = 8) (h9 : ¬ r = 9) : brk s i r = t10 s i := by simp [brk, h4, h5, h6, h7, h8, h9]
theorem anyB_false {f : Nat → Bool} : ∀ {n : Nat}, (∀ j, j < n → f j = false) → anyB f n = false
  | 0, _ => rfl
  | n + 1, h => by rw [anyB, anyB_false (fun j hj => h j (by omega)), h n (by omega)]; rfl
end Go.Proofs.T
end
section
namespace Go.Proofs.T
open Go Go.AM Go.Proofs
set_option maxRecDepth 20000
variable {Γ : List (Nat × List AVal)}
def brkAt (s : St) (r i : Nat) : List Flt := iff1 (brk s i (r + 4)) ⟨((r : Int) + 4), (i : Int), 0⟩
def brkR (s : St) (r : Nat) : List Flt := flats (brkAt s r) s.nt
def sptAt (s : St) (g c : Nat) : List Flt := iff1 (!(ent (s.sp g c).v (s.sp g c).r (s.wt g))) ⟨11, (g : Int), (c : Int)⟩
def sptR (s : St) (g : Nat) : List Flt := if g = 0 then [] else flats (sptAt s g) (s.nsp g)
def rootAt (s : St) (c : Nat) : List Flt := iff1 (decide (0 < (s.sp 0 c).v ∨ 0 < (s.sp 0 c).r)) ⟨12, (c : Int), 0⟩
def partsL (s : St) : List Flt := flats (clockAt s) s.nk ++ (flats (brkR s) 7 ++ (flats (sptR s) s.ns ++ (flats (rootAt s) s.cpus.toNat ++ flats (curAt s) s.cpus.toNat)))
structure PartOk (s : St) : Prop where
  sp : ∀ g, g < s.ns → (s.nsp g : Int) = s.cpus
  ng : s.ns = s.ng
  ns1 : 1 ≤ s.ns
  c0 : 0 ≤ s.cpus
  c1 : s.cpus ≤ 64
  nu : (s.nu : Int) = s.cpus
  n12 : s.ns ≤ 12
end Go.Proofs.T
end
section
namespace Go.Proofs.T
open Go Go.AM Go.Proofs
set_option maxRecDepth 20000
variable {Γ : List (Nat × List AVal)}
structure Mem where
  v : Int
  a : Int
  b : Int
def Mem.row (m : Mem) : List AVal := [.lit (.int .u64 m.v), .lit (.int .i64 m.a), .lit (.int .i64 m.b)]
attribute [go_sem] Mem.row
def flatM (f : Nat → List Mem) : Nat → List Mem
  | 0 => []
  | n + 1 => flatM f n ++ f n
theorem flatM_succ {f : Nat → List Mem} {n : Nat} : flatM f (n + 1) = flatM f n ++ f n := rfl
def ifM (b : Bool) (m : Mem) : List Mem := if b = true then [m] else []
def inQ (s : St) (g c : Int) (i : Nat) : Bool := (s.tsk i).ready && (decide ((s.tsk i).group = g) && decide ((s.tsk i).cpu = c))
def memT (s : St) (g c i : Nat) : List Mem := ifM (inQ s g c i) ⟨(s.tsk i).v, 0, (s.tsk i).id⟩
def memF (s : St) (c : Nat) : Nat → Nat → List Mem
  | 0, g => flatM (memT s g c) s.nt
  | f + 1, g => flatM (memT s g c) s.nt ++ flatM (fun h => ifM (decide (1 ≤ h ∧ s.par h = (g : Int)) && !(memF s c f h).isEmpty) ⟨(s.sp h c).v, 1, (h : Int)⟩) s.ns
def memS (s : St) (c g : Nat) (sub : Nat → List Mem) (h : Nat) : List Mem := ifM (decide (1 ≤ h ∧ s.par h = (g : Int)) && !(sub h).isEmpty) ⟨(s.sp h c).v, 1, (h : Int)⟩
theorem memF_succ (s : St) (c f g : Nat) : memF s c (f + 1) g = flatM (memT s g c) s.nt ++ flatM (memS s c g (memF s c f)) s.ns := rfl
end Go.Proofs.T
end
section
namespace Go.Proofs.T
open Go Go.AM Go.Proofs
set_option maxRecDepth 20000
variable {Γ : List (Nat × List AVal)}
def cntB (f : Nat → Bool) : Nat → Nat
  | 0 => 0
  | n + 1 => cntB f n + (if f n = true then 1 else 0)
theorem cntB_le (f : Nat → Bool) : ∀ n, cntB f n ≤ n
  | 0 => Nat.le_refl _
  | n + 1 => by have := cntB_le f n; simp only [cntB]; split <;> omega
def memV (l : List Mem) (i : Nat) : Int := (l.getD i ⟨0, 0, 0⟩).v
def belowB (s : St) (g c : Nat) (l : List Mem) (i : Nat) : Bool := decide ((s.sp g c).floor < memV l i)
def flrAt (s : St) (g c : Nat) : List Flt := iff1 (decide (0 < (memF s c s.ns g).length ∧ cntB (belowB s g c (memF s c s.ns g)) (memF s c s.ns g).length = (memF s c s.ns g).length)) ⟨14, (g : Int), (c : Int)⟩
def flrR (s : St) (g : Nat) : List Flt := flats (flrAt s g) s.cpus.toNat
def floorsL (s : St) : List Flt := flats (flrR s) s.ns
end Go.Proofs.T
end
section
namespace Go.Proofs.T
open Go Go.AM Go.Proofs
set_option maxRecDepth 20000
variable {Γ : List (Nat × List AVal)}
def checkR (s : St) : List Flt := if refCfg s = false then [⟨1, 0, 0⟩] else if 0 < (shapesL s).length then shapesL s else if 0 < (partsL s).length then partsL s else floorsL s
end Go.Proofs.T
end
section
namespace Go.Proofs.T
open Go Go.AM Go.Proofs
set_option maxRecDepth 20000
variable {Γ : List (Nat × List AVal)}
theorem flats_nil {f : Nat → List Flt} : ∀ {n : Nat}, (flats f n).length = 0 → ∀ i, i < n → f i = []
  | 0, _, i, h => by omega
  | n + 1, h, i, hi => by
    simp only [flats, List.length_append] at h
    by_cases he : i = n
    · subst he; exact List.eq_nil_of_length_eq_zero (by omega)
    · exact flats_nil (n := n) (by omega) i (by omega)
theorem shapes_nil {s : St} (h : (shapesL s).length = 0) : (s.nk : Int) = s.cpus ∧ (s.nu : Int) = s.cpus ∧ s.ns = s.ng ∧ ∀ g, g < s.ns → (s.nsp g : Int) = s.cpus := by
  unfold shapesL at h
  simp only [List.length_append] at h
  have h1 : (s.nk : Int) = s.cpus := by
    by_cases hc : (s.nk : Int) = s.cpus
    · exact hc
    · rw [if_pos hc] at h; simp at h
  have h2 : (s.nu : Int) = s.cpus := by
    by_cases hc : (s.nu : Int) = s.cpus
    · exact hc
    · rw [if_pos hc] at h; simp at h
  have h3 : s.ns = s.ng := by
    by_cases hc : s.ns = s.ng
    · exact hc
    · rw [if_pos hc] at h; simp at h
  refine ⟨h1, h2, h3, fun g hg => ?_⟩
  rw [if_neg (show ¬ s.ns ≠ s.ng from fun hh => hh h3)] at h
  have := flats_nil (f := shapeAt s) (by omega) g hg
  unfold shapeAt at this
  split at this
  · assumption
  · cases this
theorem rdep_par {par : Nat → Int} {g : Nat} (hg : 1 ≤ g) (h : rdep par 5 g 0 ≤ 4) : 0 ≤ par g ∧ par g < g := by
  rw [rdep, if_neg (by omega)] at h
  by_cases hc : par g < 0 ∨ (g : Int) ≤ par g
  · rw [if_pos hc] at h; omega
  · omega
theorem refCfg_spec {s : St} (h : refCfg s = true) : (1 ≤ s.cpus ∧ s.cpus ≤ 64 ∧ s.credit ≤ 1099511627776 ∧ 1 ≤ s.ng ∧ s.ng ≤ 256 ∧ s.par 0 = 0 ∧ s.wt 0 = 1) ∧ ∀ g, 1 ≤ g → g < s.ng → okR s g = true := by
  simp only [refCfg, Bool.and_eq_true, decide_eq_true_eq, Option.isNone_iff_eq_none] at h
  exact ⟨h.1, fb_none_iff.1 h.2⟩
theorem ref_ok {s : St} (h12 : s.ns ≤ 12) (h : refCfg s = true) (hsh : (shapesL s).length = 0) : PartOk s ∧ ∀ g, 1 ≤ g → g < s.ns → s.par g < g := by
  obtain ⟨⟨h1, h2, h3, h4, h5, h6, h7⟩, hall⟩ := refCfg_spec h
  obtain ⟨k1, k2, k3, k4⟩ := shapes_nil hsh
  refine ⟨⟨k4, k3, by omega, by omega, h2, k2, h12⟩, fun g hg hn => ?_⟩
  have := hall g hg (by omega)
  simp only [okR, Bool.and_eq_true, decide_eq_true_eq] at this
  exact (rdep_par hg this.2).2
end Go.Proofs.T
end
section
namespace Go.Proofs.T
open Go Go.AM Go.Proofs
set_option maxRecDepth 20000
theorem pdep_fuel {par : Nat → Int} : ∀ (F g : Nat), g ≤ F → (∀ j, 1 ≤ j → j ≤ g → 0 ≤ par j ∧ par j < j) → pdep par F g = pdep par g g := by
  intro F
  induction F using Nat.strongRecOn with
  | _ F ih =>
    intro g hg hv
    cases F with
    | zero => have : g = 0 := by omega
              subst this; rfl
    | succ F =>
      cases g with
      | zero => simp [pdep]
      | succ g =>
        obtain ⟨h1, h2⟩ := hv (g + 1) (by omega) (by omega)
        have hv' : ∀ j, 1 ≤ j → j ≤ (par (g + 1)).toNat → 0 ≤ par j ∧ par j < j := fun j h3 h4 => hv j h3 (by omega)
        rw [pdep, pdep, if_neg (by omega), if_neg (by omega), ih F (by omega) _ (by omega) hv', ih g (by omega) _ (by omega) hv']
theorem rdep_pdep {par : Nat → Int} : ∀ (f g n : Nat), (∀ j, 1 ≤ j → j ≤ g → 0 ≤ par j ∧ par j < j) → rdep par f g n = n + min f (pdep par g g)
  | 0, g, n, _ => by simp [rdep]
  | f + 1, 0, n, _ => by simp [rdep, pdep]
  | f + 1, g + 1, n, hv => by
    obtain ⟨h1, h2⟩ := hv (g + 1) (by omega) (by omega)
    have hv' : ∀ j, 1 ≤ j → j ≤ (par (g + 1)).toNat → 0 ≤ par j ∧ par j < j := fun j h3 h4 => hv j h3 (by omega)
    rw [rdep, if_neg (by omega), if_neg (by omega), rdep_pdep f _ _ hv', pdep, if_neg (by omega), pdep_fuel g _ (by omega) hv']
    omega
theorem chk_zero (s : St) : ((chk s).2 == 0) = true ↔ (s.ng ≤ 256 ∧ 1 ≤ s.ng ∧ s.par 0 = 0 ∧ s.wt 0 = 1) ∧ ∀ g, 1 ≤ g → g < s.ng → okG s g = true := by
  unfold chk
  by_cases h1 : 256 < s.ng
  · rw [if_pos h1]; simp; omega
  · rw [if_neg h1]
    by_cases h2 : s.ng = 0 ∨ ¬ (s.par 0 = 0 ∧ s.wt 0 = 1)
    · rw [if_pos h2]
      simp only [Int.reduceBEq, Bool.false_eq_true, false_iff]
      rintro ⟨⟨h3, h4, h5⟩, _⟩
      rcases h2 with h2 | h2
      · omega
      · exact h2 h5
    · rw [if_neg h2]
      have h3 : ¬ s.ng = 0 := fun h => h2 (.inl h)
      have h4 : s.par 0 = 0 ∧ s.wt 0 = 1 := Classical.byContradiction fun h => h2 (.inr h)
      cases hf : fb (okG s) s.ng with
      | none =>
        simp only [beq_self_eq_true, true_iff]
        exact ⟨⟨by omega, by omega, h4⟩, fb_none_iff.1 hf⟩
      | some g =>
        have hne : (chkE s g == 0) = false := by unfold chkE; split <;> (try split) <;> rfl
        simp only [hne, Bool.false_eq_true, false_iff]
        rintro ⟨_, hall⟩
        rw [fb_none_iff.2 hall] at hf
        cases hf
theorem ok_iff (s : St) (n : Nat) : (∀ g, 1 ≤ g → g < n → okG s g = true) ↔ ∀ g, 1 ≤ g → g < n → okR s g = true := by
  constructor
  · intro h g h1 h2
    have hv : ∀ j, 1 ≤ j → j ≤ g → 0 ≤ s.par j ∧ s.par j < j := fun j h3 h4 => by
      have := h j h3 (by omega)
      simp only [okG, okP, Bool.and_eq_true, decide_eq_true_eq] at this
      exact this.1
    have := h g h1 h2
    simp only [okG, Bool.and_eq_true, decide_eq_true_eq] at this
    simp only [okR, Bool.and_eq_true, decide_eq_true_eq]
    refine ⟨this.2.1, ?_⟩
    rw [rdep_pdep 5 g 0 hv]; omega
  · intro h g h1 h2
    have hv : ∀ j, 1 ≤ j → j ≤ g → 0 ≤ s.par j ∧ s.par j < j := fun j h3 h4 => by
      have := h j h3 (by omega)
      simp only [okR, Bool.and_eq_true, decide_eq_true_eq] at this
      exact rdep_par h3 this.2
    have := h g h1 h2
    simp only [okR, Bool.and_eq_true, decide_eq_true_eq] at this
    simp only [okG, okP, Bool.and_eq_true, decide_eq_true_eq]
    have h5 := this.2
    rw [rdep_pdep 5 g 0 hv] at h5
    exact ⟨hv g h1 (Nat.le_refl _), this.1, by omega⟩
theorem cfg_eq (s : St) : modCfg s = refCfg s := by
  rw [Bool.eq_iff_iff]
  simp only [modCfg, refCfg, Bool.and_eq_true, decide_eq_true_eq, Option.isNone_iff_eq_none, fb_none_iff, chk_zero, ok_iff]
  constructor
  · rintro ⟨⟨h1, h2, h3⟩, ⟨h4, h5, h6, h7⟩, h8⟩
    exact ⟨⟨h1, h2, h3, h5, h4, h6, h7⟩, h8⟩
  · rintro ⟨⟨h1, h2, h3, h5, h4, h6, h7⟩, h8⟩
    exact ⟨⟨h1, h2, h3⟩, ⟨h4, h5, h6, h7⟩, h8⟩
end Go.Proofs.T
end
section
namespace Go.Proofs.T
open Go Go.AM Go.Proofs
set_option maxRecDepth 20000
theorem iff1_nil {b : Bool} {f : Flt} : iff1 b f = [] ↔ b = false := by cases b <;> simp [iff1]
theorem shapeA_eq (s : St) : shapeA s = shapesL s := by
  unfold shapeA shapesL iff1
  by_cases h1 : (s.nk : Int) = s.cpus <;> by_cases h2 : (s.nu : Int) = s.cpus <;> by_cases h3 : s.ns = s.ng <;> simp [h1, h2, h3] <;> omega
end Go.Proofs.T
end
section
namespace Go.Proofs
open Go.Shelf
def Tryz.sortF_ren : Go.Shelf.Ren := ⟨fun | 6 => 85 | 15 => 115 | 14 => 114 | 28 => 140 | 29 => 141 | 20 => 132 | 21 => 133 | 22 => 134 | 23 => 135 | 24 => 136 | 25 => 137 | 26 => 138 | 27 => 139 | 46 => 156 | 47 => 157 | 48 => 158 | 49 => 159 | 50 => 160 | 57 => 173 | n => n, fun | 22 => 52 | 24 => 59 | 25 => 145 | 3 => 3 | 39 => 164 | 0 => 0 | 53 => 22 | 55 => 36 | 4 => 4 | 46 => 187 | 45 => 186 | 50 => 154 | 5 => 5 | 9 => 9 | 66 => 213 | 70 => 216 | 76 => 227 | 77 => 228 | n => n, fun | n => n⟩
theorem Tryz.sortF : Go.Proofs.SlLaysF0.n6 Tryz.prog Tryz.sortF_ren := {
  mixed := by kernel_rfl
  f6 := ⟨Tryz.f85.name, by decide, Tryz.func85.trans (congrArg some (by kernel_rfl))⟩
  f14 := ⟨Tryz.f114.name, by decide, Tryz.func114.trans (congrArg some (by kernel_rfl))⟩
  f15 := Tryz.func115.trans (congrArg some (by kernel_rfl))
  f20 := ⟨Tryz.f132.name, by decide, Tryz.func132.trans (congrArg some (by kernel_rfl))⟩
  f21 := ⟨Tryz.f133.name, by decide, Tryz.func133.trans (congrArg some (by kernel_rfl))⟩
  f22 := ⟨Tryz.f134.name, by decide, Tryz.func134.trans (congrArg some (by kernel_rfl))⟩
  f23 := ⟨Tryz.f135.name, by decide, Tryz.func135.trans (congrArg some (by kernel_rfl))⟩
  f24 := ⟨Tryz.f136.name, by decide, Tryz.func136.trans (congrArg some (by kernel_rfl))⟩
  f25 := ⟨Tryz.f137.name, by decide, Tryz.func137.trans (congrArg some (by kernel_rfl))⟩
  f26 := ⟨Tryz.f138.name, by decide, Tryz.func138.trans (congrArg some (by kernel_rfl))⟩
  f27 := ⟨Tryz.f139.name, by decide, Tryz.func139.trans (congrArg some (by kernel_rfl))⟩
  f28 := Tryz.func140.trans (congrArg some (by kernel_rfl))
  f29 := Tryz.func141.trans (congrArg some (by kernel_rfl))
  f46 := ⟨Tryz.f156.name, by decide, Tryz.func156.trans (congrArg some (by kernel_rfl))⟩
  f47 := Tryz.func157.trans (congrArg some (by kernel_rfl))
  f48 := Tryz.func158.trans (congrArg some (by kernel_rfl))
  f49 := ⟨Tryz.f159.name, by decide, Tryz.func159.trans (congrArg some (by kernel_rfl))⟩
  f50 := ⟨Tryz.f160.name, by decide, Tryz.func160.trans (congrArg some (by kernel_rfl))⟩
  f57 := ⟨Tryz.f173.name, by decide, Tryz.func173.trans (congrArg some (by kernel_rfl))⟩
  t0 := Tryz.underlying0
  a0 := Tryz.isAgg0
  z0 := Tryz.sizeOf0
  v0 := Tryz.zeroValue0
  t3 := Tryz.underlying3
  a3 := Tryz.isAgg3
  z3 := Tryz.sizeOf3
  v3 := Tryz.zeroValue3
  t4 := Tryz.underlying4
  a4 := Tryz.isAgg4
  z4 := Tryz.sizeOf4
  v4 := Tryz.zeroValue4
  t5 := Tryz.underlying5
  a5 := Tryz.isAgg5
  z5 := Tryz.sizeOf5
  v5 := Tryz.zeroValue5
  t9 := Tryz.underlying9
  a9 := Tryz.isAgg9
  z9 := Tryz.sizeOf9
  v9 := Tryz.zeroValue9
  t22 := Tryz.underlying52
  a22 := Tryz.isAgg52
  z22 := Tryz.sizeOf52
  v22 := Tryz.zeroValue52
  t25 := Tryz.underlying145
  a25 := Tryz.isAgg145
  z25 := Tryz.sizeOf145
  v25 := Tryz.zeroValue145
  t39 := Tryz.underlying164
  a39 := Tryz.isAgg164
  z39 := Tryz.sizeOf164
  v39 := Tryz.zeroValue164
  t45 := Tryz.underlying186
  a45 := Tryz.isAgg186
  z45 := Tryz.sizeOf186
  v45 := Tryz.zeroValue186
  t46 := Tryz.underlying187
  a46 := Tryz.isAgg187
  z46 := Tryz.sizeOf187
  v46 := Tryz.zeroValue187
  t50 := Tryz.underlying154
  a50 := Tryz.isAgg154
  z50 := Tryz.sizeOf154
  v50 := Tryz.zeroValue154
  t53 := Tryz.underlying22
  a53 := Tryz.isAgg22
  z53 := Tryz.sizeOf22
  v53 := Tryz.zeroValue22
  t55 := Tryz.underlying36
  a55 := Tryz.isAgg36
  z55 := Tryz.sizeOf36
  v55 := Tryz.zeroValue36
  t66 := Tryz.underlying213
  a66 := Tryz.isAgg213
  z66 := Tryz.sizeOf213
  v66 := Tryz.zeroValue213
  t70 := Tryz.underlying216
  a70 := Tryz.isAgg216
  z70 := Tryz.sizeOf216
  v70 := Tryz.zeroValue216
  t76 := Tryz.underlying227
  a76 := Tryz.isAgg227
  z76 := Tryz.sizeOf227
  v76 := Tryz.zeroValue227
  t77 := Tryz.underlying228
  a77 := Tryz.isAgg228
  z77 := Tryz.sizeOf228
  v77 := Tryz.zeroValue228 }
end Go.Proofs
end
section
namespace Go.AM
open Go.Sort Go.Proofs
set_option maxRecDepth 20000
section
variable {Γ : List (Nat × List AVal)} {w w' : World} {G G' : Nat → Prop} {ρ ρ' : Names} {H : Owner}
theorem step_grow (S : Allow) (os : Array Obj) : Step S w G ρ (grow w os) G ρ :=
  ⟨by rw [size_grow]; omega, fun b hb _ => heap_grow_old w os hb, fun b hb => by unfold World.shape?; rw [heap_grow_old w os hb], fun _ h => h, fun _ h => .inl h, fun _ h => .inl h, fun _ _ => .inr rfl, rfl, rfl, rfl⟩
theorem HRel.grow (h : HRel Γ w G ρ H) (os : Array Obj) : HRel Γ (grow w os) G ρ H :=
  h.after (step_grow (fun _ => True) os) H h.dom (fun id B A hH => by
    obtain ⟨hA, b, hb, hg, _⟩ := h.blk id B A hH
    exact ⟨hA, .inl ⟨A, b, hH, fun _ h => h, fun _ _ => trivial, rfl, hb, heap_grow_old w os (h.owned_lt ⟨id, _, hb⟩), hg⟩⟩) h.inj (fun b hb => by rw [size_grow]; have := h.ro b hb; omega)
theorem HRel.rows {S : Allow} (h : HRel Γ w G ρ H) {id b : Nat} {B B' : Blk} {A : Allow} (hid : H id = some (B, A)) (hb : ρ id = some (b, B.sz)) (hsz : B'.sz = B.sz) {C C' : Array Value} {ty : TypeId} {H' : Owner}
    (hH' : ∀ i, H' i = if i = id then some (B', A) else H i)
    (hC0 : w.heap[b]? = some (.cells C ty (0, 0))) (hC : w'.heap[b]? = some (.cells C' ty (0, 0))) (hcs : C'.size = C.size) (hother : ∀ j, j ≠ b → w'.heap[j]? = w.heap[j]?) (hsize : w'.heap.size = w.heap.size)
    (h1 : w'.os = w.os) (h2 : w'.tape = w.tape) (h3 : w'.output = w.output)
    (hS : ∀ i B A, H i = some (B, A) → ∀ j, A j → S j)
    (hl : ∀ (r : Nat) row, B'.rows[r]? = some row → row.length = B'.sz)
    (hr : ∀ r row c v, B'.rows[r]? = some row → row[c]? = some v → ∃ cv, C'[r * B'.sz + c]? = some cv ∧ V w G noNames noAllow v cv) (hp : B'.pure = true) :
    HRel Γ w' G ρ H' ∧ Step S w G ρ w' G ρ := by
  have hbo : owned ρ b := ⟨id, _, hb⟩
  have hbg := h.owned_not_ro hbo
  have hs : Step S w G ρ w' G ρ := by
    refine ⟨by omega, fun j hj ho => hother j (fun he => ho (he ▸ hbo)), fun j hj => ?_, fun _ h => h, fun _ h => .inl h, fun _ h => .inl h, fun _ _ => .inr rfl, h1, h2, h3⟩
    by_cases he : j = b
    · subst he; unfold World.shape?; rw [hC, hC0]; simp only [hcs]
    · unfold World.shape?; rw [hother j he]
  refine ⟨h.after hs _ ?_ ?_ h.inj (fun c hc => by rw [hsize]; exact h.ro c hc), hs⟩
  · intro i hi
    rw [hH'] at hi
    split at hi
    · cases hi
    · exact h.dom i hi
  · intro i B1 A1 hi
    rw [hH'] at hi
    split at hi
    · rename_i he; subst he; cases hi
      obtain ⟨hA, _⟩ := h.blk i B A hid
      refine ⟨hA, .inr ⟨b, by rw [hsz]; exact hb, hbg, ⟨⟨C', ty, hC, fun r row c v hrow hc => ?_⟩, hl⟩⟩⟩
      obtain ⟨cv, hcv, hv⟩ := hr r row c v hrow hc
      refine ⟨cv, hcv, ?_⟩
      simp only [hp, if_true]
      exact hv.mono hs.g (fun b hb => hs.keep b (h.ro b hb) (fun ho => h.owned_not_ro ho hb)) hs.shape (fun _ h => h) (fun _ h => h.elim)
    · rename_i hne
      obtain ⟨hAid, b1, hb1, hg1, hBR⟩ := h.blk i B1 A1 hi
      exact ⟨hAid, .inl ⟨A1, b1, hi, fun _ h => h, hS i B1 A1 hi, rfl, hb1, hother b1 (by rintro rfl; exact hne (h.inj i id _ _ _ hb1 hb)), hg1⟩⟩
end
end Go.AM
namespace Go.Proofs.T
open Go Go.Proofs Go.Shelf Go.RowKit Go.Lib Go.Sort
def cfI (r a b r' a' b' : Int) : Int := if r = r' then (if a = a' then b - b' else a - a') else r - r'
set_option maxHeartbeats 2000000 in
theorem closure (r a b r' a' b' : Int) (hr : 0 ≤ r ∧ r < 256) (ha : 0 ≤ a ∧ a < 1000000) (hb : 0 ≤ b ∧ b < 1000000) (hr' : 0 ≤ r' ∧ r' < 256) (ha' : 0 ≤ a' ∧ a' < 1000000) (hb' : 0 ≤ b' ∧ b' < 1000000) (W : World) :
    Calls Tryz.prog 86 #[.agg #[.int .u8 r, .int .i64 a, .int .i64 b], .agg #[.int .u8 r', .int .i64 a', .int .i64 b']] W fun e w' => e = .returned (.int .i64 (cfI r a b r' a' b')) ∧ ∃ q os', w' = grow (W.drewN q) os' := by
  by_cases h1 : r = r'
  · by_cases h2 : a = a'
    · have e : cfI r a b r' a' b' = b - b' := by simp [cfI, h1, h2]
      rw [e]; subst h1 h2; clear e
      go_enter Tryz.func86, Tryz.ntmps86
      go_wp2
      go_ret
      exact ⟨rfl, 0, _, by rw [alloc_eq_grow, alloc_eq_grow, grow_grow]; rfl⟩
    · have e : cfI r a b r' a' b' = a - a' := by simp [cfI, h1, h2]
      rw [e]; subst h1; clear e
      go_enter Tryz.func86, Tryz.ntmps86
      go_wp2
      go_ret
      exact ⟨rfl, 0, _, by rw [alloc_eq_grow, alloc_eq_grow, grow_grow]; rfl⟩
  · have e : cfI r a b r' a' b' = r - r' := by simp [cfI, h1]
    rw [e]; clear e
    go_enter Tryz.func86, Tryz.ntmps86
    go_wp2
    go_ret
    exact ⟨rfl, 0, _, by rw [alloc_eq_grow, alloc_eq_grow, grow_grow]; rfl⟩
end Go.Proofs.T
namespace Go.Proofs.T
open Go Go.AM Go.Proofs Go.Shelf Go.RowKit Go.Lib Go.Sort
def Flt.ok (f : Flt) : Prop := (0 ≤ f.r ∧ f.r < 256) ∧ (0 ≤ f.a ∧ f.a < 1000000) ∧ (0 ≤ f.b ∧ f.b < 1000000)
structure BF where
  f : Flt
  h : f.ok
instance : Inhabited BF := ⟨⟨⟨0, 0, 0⟩, by unfold Flt.ok; simp⟩⟩
def encF (x : BF) : List Value := [.int .u8 x.f.r, .int .i64 x.f.a, .int .i64 x.f.b]
def cfF (x y : Flt) : Int := cfI x.r x.a x.b y.r y.a y.b
def cfB (x y : BF) : Int := cfF x.f y.f
theorem ltB_iff (x y : BF) : ltOf cfB x y = true ↔ cfF x.f y.f < 0 := ⟨fun h => of_decide_eq_true h, fun h => decide_eq_true h⟩
theorem ltB_false (x y : BF) : ltOf cfB x y = false ↔ 0 ≤ cfF x.f y.f := ⟨fun h => Int.not_lt.1 (of_decide_eq_false h), fun h => decide_eq_false (Int.not_lt.2 h)⟩
theorem cfF_lt (x y : Flt) : cfF x y < 0 ↔ (x.r < y.r ∨ (x.r = y.r ∧ (x.a < y.a ∨ (x.a = y.a ∧ x.b < y.b)))) := by
  unfold cfF cfI
  split
  · split <;> omega
  · omega
theorem cfF_ge (x y : Flt) : 0 ≤ cfF x y ↔ ¬ (x.r < y.r ∨ (x.r = y.r ∧ (x.a < y.a ∨ (x.a = y.a ∧ x.b < y.b)))) := by
  rw [← cfF_lt]; omega
theorem swoB : SWO (ltOf cfB) where
  irrefl x := by rw [ltB_false, cfF_ge]; omega
  trans x y z h1 h2 := by rw [ltB_iff, cfF_lt] at *; omega
  ntrans x y z h1 h2 := by rw [ltB_false, cfF_ge] at *; omega
theorem totF (x y : Flt) (h1 : 0 ≤ cfF x y) (h2 : 0 ≤ cfF y x) : x = y := by
  rw [cfF_ge] at h1 h2
  cases x; cases y
  simp only [Flt.mk.injEq] at *
  omega
theorem cmpB (blk off size : Nat) (w : World) : CmpLays Tryz.prog 86 #[] encF 3 cfB blk off size w := fun _ _ _ _ x y =>
  closure x.f.r x.f.a x.f.b y.f.r y.f.a y.f.b x.h.1 x.h.2.1 x.h.2.2 y.h.1 y.h.2.1 y.h.2.2 _
def toB (l : List Flt) (hb : ∀ f ∈ l, f.ok) : Array BF := (l.pmap (fun f h => (⟨f, h⟩ : BF)) hb).toArray
theorem toB_size (l : List Flt) (hb : ∀ f ∈ l, f.ok) : (toB l hb).size = l.length := by simp [toB]
theorem toB_get (l : List Flt) (hb : ∀ f ∈ l, f.ok) (i : Nat) (hi : i < l.length) : ((toB l hb)[i]!).f = l[i] := by
  rw [getElem!_pos (toB l hb) i (by rw [toB_size]; exact hi)]
  simp [toB]
theorem getBang_row (x : BF) (c : Nat) (v : AVal) (h : (Flt.row x.f)[c]? = some v) : v = .lit ((encF x)[c]!) := by
  match c with
  | 0 => simp [Flt.row] at h; simp [encF, h]
  | 1 => simp [Flt.row] at h; simp [encF, h]
  | 2 => simp [Flt.row] at h; simp [encF, h]
  | c + 3 => simp [Flt.row] at h
theorem row_some (x : BF) (c : Nat) (hc : c < 3) : (Flt.row x.f)[c]? = some (.lit ((encF x)[c]!)) := by
  match c with
  | 0 => rfl
  | 1 => rfl
  | 2 => rfl
theorem holdsF {w : World} {G : Nat → Prop} {b : Nat} {C : Array Value} {ty : TypeId} (l : List Flt) (hb : ∀ f ∈ l, f.ok) (hC : w.heap[b]? = some (.cells C ty (0, 0)))
    (hr : ∀ r row c v, (l.map Flt.row)[r]? = some row → row[c]? = some v → ∃ cv, C[r * 3 + c]? = some cv ∧ V w G noNames noAllow v cv) : HoldsK encF 3 w b 0 (toB l hb) := by
  intro j hj
  rw [size_flatK, toB_size] at hj
  have hq : j / 3 < l.length := by omega
  refine ⟨?_, ?_⟩
  · rw [get_flatK encF 3 _ j (by rw [toB_size]; exact hj)]
    have h1 : (l.map Flt.row)[j / 3]? = some (Flt.row ((toB l hb)[j / 3]!).f) := by
      rw [List.getElem?_map, List.getElem?_eq_getElem hq, toB_get l hb _ hq]; rfl
    obtain ⟨cv, h3, h4⟩ := hr (j / 3) _ (j % 3) _ h1 (row_some _ (j % 3) (Nat.mod_lt _ (by omega)))
    cases h4
    unfold World.cell?
    simp only [hC]
    rw [show j / 3 * 3 + j % 3 = j by omega] at h3
    simp [h3]
  · unfold World.frozen?
    simp [hC]
theorem toB_sorted (l R : List Flt) (hb : ∀ f ∈ l, f.ok) (hR : ∀ f ∈ R, f.ok) (hp : R.Perm l) (hs : R.Pairwise (fun x y => 0 ≤ cfF y x)) (d : Array BF) (h1 : PermIn 0 (toB l hb).size (toB l hb) d) (h2 : SortedIn (ltOf cfB) 0 (toB l hb).size d) : d = toB R hR := by
  have hT : ∀ x y : BF, ltOf cfB x y = false → ltOf cfB y x = false → x = y := fun x y h3 h4 => by
    rw [ltB_false] at h3 h4
    have := totF _ _ h3 h4
    cases x; cases y; cases this; rfl
  have e1 := sorted_unique_holds swoB hT _ _ h1 h2
  have hsz : (toB R hR).size = (toB l hb).size := by rw [toB_size, toB_size, hp.length_eq]
  have hpm : (toB R hR).toList.Perm (toB l hb).toList := by
    simp only [toB]
    have : ∀ (a b : List Flt) (ha : ∀ f ∈ a, f.ok) (hb : ∀ f ∈ b, f.ok), a.Perm b → (a.pmap (fun f h => (⟨f, h⟩ : BF)) ha).Perm (b.pmap (fun f h => (⟨f, h⟩ : BF)) hb) := fun a b ha hb h => h.pmap _
    exact this _ _ _ _ hp
  have h3 : PermIn 0 (toB l hb).size (toB l hb) (toB R hR) := by
    refine ⟨hsz, fun i hi => ?_, ?_⟩
    · rcases hi with hi | hi
      · omega
      · rw [getElem!_neg _ i (by omega), getElem!_neg _ i (by omega)]
    · rw [Array.extract_size, ← hsz, Array.extract_size]; exact hpm
  have h4 : SortedIn (ltOf cfB) 0 (toB l hb).size (toB R hR) := by
    intro i j _ hij hj
    rw [toB_size, ← hp.length_eq] at hj
    rw [ltB_false, toB_get R hR j hj, toB_get R hR i (by omega)]
    exact List.pairwise_iff_getElem.1 hs i j (by omega) hj hij
  exact Array.ext' (e1.trans (sorted_unique_holds swoB hT _ _ h3 h4).symm)
end Go.Proofs.T
namespace Go.Proofs.T
open Go Go.AM Go.Proofs Go.Shelf Go.RowKit Go.Lib Go.Sort
variable {Γ : List (Nat × List AVal)}
theorem putRow_heap {w : World} {b : Nat} {C : Array Value} {ty : TypeId} (n : Nat) (F : Array Value) (hC : w.heap[b]? = some (.cells C ty (0, 0))) :
    (putRow id (Sort.ahead w n) b 0 F).heap[b]? = some (.cells (putCells id 0 F C) ty (0, 0)) ∧ (∀ j, j ≠ b → (putRow id (Sort.ahead w n) b 0 F).heap[j]? = w.heap[j]?) ∧ (putRow id (Sort.ahead w n) b 0 F).heap.size = w.heap.size := by
  refine ⟨?_, fun j hj => ?_, ?_⟩
  · simp only [putRow, mapBlock, Sort.ahead, Array.getElem?_modify, if_true]; rw [hC]; rfl
  · simp only [putRow, mapBlock, Sort.ahead, Array.getElem?_modify]; rw [if_neg (fun h => hj h.symm)]
  · simp [putRow, mapBlock, Sort.ahead]
theorem putCells_get (F C : Array Value) (j : Nat) (hj : j < F.size) (hC : j < C.size) : (putCells id 0 F C)[j]? = some F[j]! := by
  simp only [putCells, Array.getElem?_mapIdx, Array.getElem?_eq_getElem hC, Option.map_some, Nat.zero_le, Nat.zero_add, hj, and_self, if_true, Nat.sub_zero, id]
theorem sortFunc (k F : Nat) (l R : List Flt) (hb : ∀ f ∈ l, f.ok) (hp : R.Perm l) (hs : R.Pairwise (fun x y => 0 ≤ cfF y x)) (hl : l.length ≤ 100000)
    (hnone : ∀ w, Calls Tryz.prog 85 #[.slice none 0 0, .func (.func 86) #[] #[]] w fun e w' => e = .returned (.tuple #[]) ∧ w' = w) :
    Tr Tryz.prog Γ 85 k [accV F (l.map Flt.row), .fn 86 []] (accH F 3 (l.map Flt.row) []) (fun k1 r1 H1 => k1 = k ∧ r1 = .tup [] ∧ H1 = accH F 3 (R.map Flt.row) []) := by
  intro A hA w G ρ cargs hr hvs
  obtain ⟨hlen, hv⟩ := hvs
  have h0 := hv 0 _ rfl
  have h1 := hv 1 _ rfl
  have hc2 : cargs = #[cargs.getD 0 undef, cargs.getD 1 undef] := by
    have hsz : cargs.size = 2 := hlen.symm
    apply Array.ext
    · simp [hsz]
    · intro i hi1 hi2
      match i with
      | 0 => simp [Array.getD, hsz]
      | 1 => simp [Array.getD, hsz]
      | i + 2 => omega
  obtain ⟨cs, hfn, hcs⟩ : ∃ cs : Array Value, cargs.getD 1 undef = .func (.func 86) #[] cs ∧ cs.size = 0 := by
    generalize cargs.getD 1 undef = x at h1
    cases h1 with
    | fn hl _ => exact ⟨_, rfl, hl.symm⟩
  have hcs' : cs = #[] := Array.eq_empty_of_size_eq_zero hcs
  subst hcs'
  cases l with
  | nil =>
    have hR : R = [] := hp.eq_nil
    subst hR
    have e0 : cargs.getD 0 undef = .slice none 0 0 := by
      generalize cargs.getD 0 undef = x at h0
      cases h0; rfl
    rw [hc2, e0, hfn]
    refine (hnone w).mono ?_
    rintro e w' ⟨rfl, rfl⟩
    refine ⟨.tuple #[], G, ρ, k, .tup [], [], rfl, ⟨rfl, rfl, rfl⟩, Nat.le_refl _, ?_, .tup rfl (fun j v hj => by simp at hj), Step.refl _ _ _ _⟩
    exact ⟨fun id _ => hr.dom id rfl, fun id B A' hid => by simp [ofHeap, AM.look] at hid, hr.inj, hr.ro, hr.glob⟩
  | cons x t =>
    obtain ⟨l, el⟩ : ∃ l, l = x :: t := ⟨_, rfl⟩
    have hne : l.length ≠ 0 := by rw [el]; simp
    have eV : accV F ((x :: t).map Flt.row) = .sl F 0 l.length := by rw [el]; simp [accV]
    have eH : ∀ q : List Flt, q.length ≠ 0 → accH F 3 (q.map Flt.row) [] = [(F, ⟨3, true, q.map Flt.row⟩)] := fun q hq => by
      cases q with
      | nil => simp at hq
      | cons a b => rfl
    rw [eV] at h0
    rw [← el, eH l hne] at hr
    rw [← el] at hb hp hl
    clear eV
    have hRne : R.length ≠ 0 := by rw [hp.length_eq]; exact hne
    rw [eH R hRne]
    have hid : ofHeap [(F, ⟨3, true, l.map Flt.row⟩)] A F = some (⟨3, true, l.map Flt.row⟩, A) := by simp [ofHeap, AM.look]
    obtain ⟨hAF, b, hρ, hgb, ⟨⟨C, ty, hC, hrow⟩, hrl⟩⟩ := hr.blk F _ _ hid
    simp only [if_true] at hrow hρ
    obtain ⟨cap, e0⟩ : ∃ cap, cargs.getD 0 undef = .slice (some ⟨b, 0, none⟩) l.length cap := by
      generalize cargs.getD 0 undef = x at h0
      generalize hll : l.length = ll at h0 ⊢
      cases h0 with
      | dangs _ hn => rw [hρ] at hn; cases hn
      | sl0 => exact absurd hll hne
      | sl _ hs _ _ hnc _ ho =>
        rw [hρ] at hs; cases hs
        rcases ho with ho | ho
        · omega
        · rw [ho, Nat.zero_mul]; exact ⟨_, rfl⟩
    have hRok : ∀ f ∈ R, f.ok := fun f hf => hb f (hp.mem_iff.1 hf)
    have hblt : b < w.heap.size := hr.owned_lt ⟨F, 3, hρ⟩
    have eg : ∀ args w, (callFunc 86 args).run Tryz.prog w = .ok (.enter 86 args) w := enters_of Tryz.func86 (by kernel_rfl) rfl
    have hcon := AnyQ.slices_SortFunc Tryz.sortF 3 Tryz.isAgg59 Tryz.sizeOf59 encF (fun _ => rfl) (fun x v hv => by simp [encF] at hv; rcases hv with rfl | rfl | rfl <;> rfl) cfB swoB 86 #[] b 0 cap (toB l hb) w eg (cmpB _ _ _ _) (holdsF l hb hC hrow) hblt (by rw [toB_size]; omega)
    change Calls Tryz.prog 85 _ _ _ at hcon
    rw [hc2, e0, hfn]
    rw [toB_size] at hcon
    refine hcon.mono ?_
    rintro e w' ⟨rfl, d', n, os, hpm, hso, rfl⟩
    rw [← toB_size l hb] at hpm hso
    have hd := toB_sorted l R hb hRok hp hs d' hpm hso
    subst hd
    have hF : (flatK encF 3 (toB R hRok)).size = l.length * 3 := by rw [size_flatK, toB_size, hp.length_eq]
    obtain ⟨p1, p2, p3⟩ := putRow_heap n (flatK encF 3 (toB R hRok)) hC
    have hrows : ∀ r row c v, (R.map Flt.row)[r]? = some row → row[c]? = some v → ∃ cv, (putCells id 0 (flatK encF 3 (toB R hRok)) C)[r * 3 + c]? = some cv ∧ V w G noNames noAllow v cv := by
      intro r row c v hrw hcv
      have hrlt : r < R.length := by
        by_cases h : r < R.length
        · exact h
        · rw [List.getElem?_eq_none (by simp; omega)] at hrw; cases hrw
      have hrow' : row = Flt.row ((toB R hRok)[r]!).f := by
        rw [List.getElem?_map, List.getElem?_eq_getElem hrlt, Option.map_some, Option.some.injEq] at hrw
        rw [toB_get R hRok r hrlt]; exact hrw.symm
      subst hrow'
      have hc3 : c < 3 := by
        by_cases h : c < 3
        · exact h
        · rw [List.getElem?_eq_none (by simp [Flt.row]; omega)] at hcv; cases hcv
      have hv' := getBang_row _ c v hcv
      have hll : r < l.length := by rw [← hp.length_eq]; exact hrlt
      have hCs : r * 3 + c < C.size := by
        obtain ⟨cv, hcv1, _⟩ := hrow r _ c _ (by rw [List.getElem?_map, List.getElem?_eq_getElem hll]; rfl) (by rw [List.getElem?_eq_getElem (by simp [Flt.row]; omega)])
        by_cases h : r * 3 + c < C.size
        · exact h
        · rw [Array.getElem?_eq_none (by omega)] at hcv1; cases hcv1
      refine ⟨(encF ((toB R hRok)[r]!))[c]!, ?_, by rw [hv']; exact .lit⟩
      rw [putCells_get _ _ _ (by omega) hCs, get_flatK encF 3 _ _ (by rw [toB_size]; omega)]
      rw [show (r * 3 + c) / 3 = r by omega, show (r * 3 + c) % 3 = c by omega]
    have hHF : ∀ i, ofHeap [(F, (⟨3, true, R.map Flt.row⟩ : Blk))] A i = if i = F then some ((⟨3, true, R.map Flt.row⟩ : Blk), A) else ofHeap [(F, (⟨3, true, l.map Flt.row⟩ : Blk))] A i := fun i => by
      by_cases h : i = F
      · subst h; simp [ofHeap, AM.look]
      · have h' : ¬ F = i := fun e => h e.symm
        rw [if_neg h]; simp [ofHeap, AM.look, h']
    obtain ⟨q1, q2⟩ := HRel.rows (S := below k) (H' := ofHeap [(F, ⟨3, true, R.map Flt.row⟩)] A) (B' := ⟨3, true, R.map Flt.row⟩) hr hid hρ rfl hHF hC p1 (by simp [putCells]) p2 p3 rfl rfl rfl
      (fun i B A' hi j hj => by
        have : A' = A := by
          simp only [ofHeap, AM.look] at hi
          split at hi <;> simp at hi
          exact hi.2.symm
        subst this; exact hA j hj)
      (fun r row hrw => by
        rw [List.getElem?_map] at hrw
        cases hR : R[r]? with
        | none => rw [hR] at hrw; cases hrw
        | some f => rw [hR] at hrw; cases hrw; rfl)
      hrows rfl
    refine ⟨.tuple #[], G, ρ, k, .tup [], [(F, ⟨3, true, R.map Flt.row⟩)], rfl, ⟨rfl, rfl, rfl⟩, Nat.le_refl _, ?_, .tup rfl (fun j v hj => by simp at hj), ?_⟩
    · refine (q1.grow os).allow _ ?_ ?_
      · intro i hi
        simp only [ofHeap, Option.map_eq_none_iff] at hi ⊢; exact hi
      · intro i B A' hi
        simp only [ofHeap] at hi ⊢
        cases hlk : AM.look [(F, (⟨3, true, R.map Flt.row⟩ : Blk))] i with
        | none => rw [hlk] at hi; cases hi
        | some B1 => rw [hlk] at hi; cases hi; exact ⟨A, rfl, fun i hi => .inl hi⟩
    · exact q2.trans (step_grow (below k) os) (fun _ h => h)
end Go.Proofs.T
end
section
namespace Go.Proofs.T
open Go Go.AM Go.Proofs
set_option maxRecDepth 20000
variable {Γ : List (Nat × List AVal)}
theorem sort_none (w : World) : Calls Tryz.prog 85 #[.slice none 0 0, .func (.func 86) #[] #[]] w fun e w' => e = .returned (.tuple #[]) ∧ w' = w :=
  AnyF.slices_SortFunc_none Tryz.sortF none 0 _ w
theorem sorted (k L F : Nat) (s : St) (l R : List Flt) (hL : L < k) (hF : F < k) (hne : L ≠ F) (hb : ∀ f ∈ l, f.ok) (hp : R.Perm l) (hs : R.Pairwise (fun x y => 0 ≤ cfF y x)) (hl : l.length ≤ 100000) :
    Tr Tryz.prog Γ 44 k [.ptr L 0 0] (LK L F s l) (fun k1 r1 H1 => k1 = k ∧ r1 = accV F (R.map Flt.row) ∧ H1 = LK L F s R) := by
  obtain ⟨a1, a2, a3, a4, a5, a6⟩ := old_name hL
  obtain ⟨b1, b2, b3, b4, b5, b6⟩ := old_name hF
  obtain ⟨c1, c2⟩ := two_names hne
  have hV : accV F (l.map Flt.row) = accV F (R.map Flt.row) := by
    cases l with
    | nil => rw [hp.eq_nil]
    | cons a b =>
      cases R with
      | nil => exact absurd hp.length_eq (by simp)
      | cons c d => simp only [List.map_cons, accV, List.length_cons, List.length_map]; rw [show d.length = b.length by have := hp.length_eq; simpa using this]
  refine Tr_at Tryz.func44 rfl 12 rfl (Nat.le_of_ble_eq_true rfl) (W_upM ?_)
  have kp : Kp [0,2] (fun i => i - k) := kpI
  have uU := zA @a1 (zA @a2 (zA @a3 (zA @a4 (zA @a5 (zA @a6 (zA @b1 (zA @b2 (zA @b3 (zA @b4 (zA @b5 (zA @b6 (zA @c1 @c2))))))))))))
  refine wl ?_; refine zq1 ⟨⟨⟨?_⟩⟩⟩
  refine cl [.gen (.tup []) k (accH F 3 (l.map Flt.row) []) (accH F 3 (R.map Flt.row) [])] ?_; refine zq2 ⟨⟨⟨?_⟩⟩⟩ ⟨⟨⟨?_⟩⟩⟩
  · exact sortFunc k F l R hb hp hs hl sort_none
  refine wl ?_; refine zq1 ⟨⟨⟨?_⟩⟩⟩
  refine C_ret rfl ?_
  rw [hV]
  refine ⟨k, [(2, accV F (R.map Flt.row))], LK L F s R, ?_, _, rfl, rfl, rfl, rfl⟩
  (have uU := zA @a1 (zA @a2 (zA @a3 (zA @a4 (zA @a5 (zA @a6 (zA @b1 (zA @b2 (zA @b3 (zA @b4 (zA @b5 (zA @b6 (zA @c1 @c2)))))))))))); exact wkU)
def partsA (s : St) : List Flt := clocksA s ++ (tasksA s ++ spotsA s)
def checkA (s : St) : List Flt := if 0 < (shapeA s).length then shapeA s else if 0 < (partsA s).length then partsA s else floorsA s
theorem Mv.impure {kb k : Nat} {fr : Fr} {H : Heap} (id : Nat) {s : Nat} {p : Bool} {rows : List (List AVal)} (hH : AM.look H id = some ⟨s, p, rows⟩) :
    Mv kb k fr H k fr ((id, ⟨s, false, rows⟩) :: del H id) := fun hk => Mv.wk ⟨hk, fun t v h => ⟨v, h, VLe.refl v⟩, fun i B hB => by
  rw [look_cons_del] at hB
  split at hB
  · rename_i he
    subst he
    cases hB
    exact ⟨_, hH, rfl, fun q row hq => ⟨row, hq, rfl, fun c u v hu hv => by rw [hu] at hv; cases hv; exact VLe.refl _⟩, fun h => by cases h⟩
  · exact ⟨B, hB, BLe.refl B⟩, .inl rfl⟩ hk
structure PreOk (s : St) : Prop where
  sm : s.Small
  n12 : s.ns ≤ 12
  p12 : ∀ g, g < s.ns → s.nsp g ≤ 12
theorem shapeA_len (s : St) (h : s.ns ≤ 12) : (shapeA s).length ≤ 100 := by
  have h1 := flats_len (shapeAt_len s) s.ns
  unfold shapeA iff1
  simp only [List.length_append]
  split <;> split <;> split <;> split <;> simp <;> omega
theorem floorsA_len (s : St) (h : s.ns ≤ 12) (hc : s.cpus ≤ 64) : (floorsA s).length ≤ 800 := by
  have := flats_len (f := floorsAt s) (m := 12) (fun i => by have := flats_len (f := floorJ s i) (m := 1) (fun j => stepL_len _ _ _ _) s.ns; unfold floorsAt; omega) s.cpus.toNat
  unfold floorsA; omega
theorem clocksA_len (s : St) (hs : s.Small) : (clocksA s).length ≤ 2000 := by
  have h1 := flats_len (f := clockAt s) (m := 1) (fun i => iff1_len1 _ _) s.nk
  have h2 := flats_len (f := curAt s) (m := 1) (fun i => iff1_len1 _ _) s.nu
  have := hs.nk
  have := hs.nu
  unfold clocksA; rw [List.length_append]; omega
theorem tasksA_len (s : St) (hs : s.Small) : (tasksA s).length ≤ 7000 := by
  have h1 := flats_len (f := taskAt s) (m := 7) (taskAt_len s) s.nt
  have := hs.nt
  unfold tasksA; omega
theorem spotsA_len (s : St) (hs : PreOk s) : (spotsA s).length ≤ 144 := by
  have h1 := flats_len' (f := spotsAt s) (m := 12) s.ns (fun g hg => by have := flats_len (f := spotAt s g) (m := 1) (spotAt_len s g) (s.nsp g); have := hs.p12 g hg; unfold spotsAt; omega)
  have := hs.n12
  unfold spotsA; omega
set_option maxHeartbeats 4000000 in
theorem check (hD : DepthOk Γ) (s : St) (hq : PreOk s) (R : List Flt) (hcfg : modCfg s = false → R = [⟨1, 0, 0⟩])
    (hfl : modCfg s = true → (shapeA s).length = 0 → (partsA s).length = 0 → FloorOk s)
    (hb : modCfg s = true → ∀ f ∈ checkA s, f.ok) (hp : modCfg s = true → R.Perm (checkA s)) (hso : modCfg s = true → R.Pairwise (fun x y => 0 ≤ cfF y x)) :
    Pure Tryz.prog Γ 20 [.agg s.cells] (rows 3 (R.map Flt.row)) := by
  obtain ⟨hs, h12, hp12⟩ := id hq
  obtain ⟨hng, hnk, hnu, hnt, hns, hnsp⟩ := id hs
  refine Pure_at Tryz.func20 rfl 45 rfl (Nat.le_of_ble_eq_true rfl) rfl fun k => ?_
  have kp : Kp [0,1,2,3,4,6,8,15,22,23,24,26,27,28,29,41] (fun i => i - k) := kpI
  refine wl ?_; refine zq1 ⟨⟨⟨?_⟩⟩⟩
  refine cl [.ret (.lit (.bool (modCfg s)))] ?_; refine zq2 ⟨⟨⟨?_⟩⟩⟩ ⟨⟨⟨?_⟩⟩⟩
  · exact rightConfig hD s
  refine C_cond rfl _ rfl (fun ht => ?_) (fun hf => ?_)
  · refine wl ?_; refine zq1 ⟨⟨⟨?_⟩⟩⟩
    have ht' : modCfg s = false := by simpa using ht
    rw [hcfg ht']
    refine M_ret rfl (Mv.frz_acc (id := k + 2) (s := 3) (l := [Flt.row ⟨1, 0, 0⟩]) 2 (by simp -dsimp -implicitDefEqProofs only [go_sem, List.map_append, Flt.row, eq_self, ↓reduceIte]) (by simp -dsimp -implicitDefEqProofs only [go_sem, List.map_append, Flt.row, eq_self, ↓reduceIte])) ⟨_, rfl, ?_⟩
    exact VLe.refl _
  · have hcf : modCfg s = true := by simpa using hf
    have hrc := hcf
    rw [cfg_eq] at hrc
    obtain ⟨⟨r1, r2, r3, r4, r5, r6, r7⟩, rall⟩ := refCfg_spec hrc
    refine C_skip rfl ?_; simp -dsimp -implicitDefEqProofs only [go_sem, eq_self, ↓reduceIte]
    refine C_seq rfl ?_
    refine cl [] ?_; refine zq1 ⟨⟨⟨?_⟩⟩⟩
    refine W_mv (Mv.impure (k + 1) (by simp -dsimp -implicitDefEqProofs only [go_sem, eq_self, ↓reduceIte]; rfl)) ?_
    refine W_mv (Mv.freeze (k + 2) (by simp -dsimp -implicitDefEqProofs only [go_sem, eq_self, ↓reduceIte]; rfl) rfl) ?_; simp -dsimp -implicitDefEqProofs only [frzF, frz_app, go_sem, eq_self, ↓reduceIte]
    refine W_mv (Mv.freeze (k + 3) (by simp -dsimp -implicitDefEqProofs only [go_sem, eq_self, ↓reduceIte]; rfl) rfl) ?_; simp -dsimp -implicitDefEqProofs only [frzF, frz_app, go_sem, eq_self, ↓reduceIte]
    refine W_mv (Mv.freeze (k + 4) (by simp -dsimp -implicitDefEqProofs only [go_sem, eq_self, ↓reduceIte]; rfl) rfl) ?_; simp -dsimp -implicitDefEqProofs only [frzF, frz_app, go_sem, eq_self, ↓reduceIte]
    refine M_midO (X := List Flt) rfl [2, 3] (k + 3) (fun l => []) (fun l => LK (k + 1) (k + 2) s l) (fun l => l = checkA s) ?_ ?_
    · refine C_seq rfl ?_
      refine cl [] ?_; refine zq1 ⟨⟨⟨?_⟩⟩⟩
      refine W_mv (Mv.wk (fr1 := [(23, .lit (.int .i64 0)), (22, .agg [.rd 1 1 (fun q => ([[AVal.fn 45 []]] : List (List AVal)).getD q []), .rd 1 3 (fun q => ([[AVal.fn 46 []], [AVal.fn 47 []], [AVal.fn 48 []]] : List (List AVal)).getD q []), .rd 1 1 (fun q => ([[AVal.fn 49 []]] : List (List AVal)).getD q [])]), (3, .ptr (k + 1) 0 0), (2, .lit (.slice none 0 0))]) (k1 := k + 3) (H1 := LK (k + 1) (k + 2) s []) (wk_low (by omega) (by simp -dsimp -implicitDefEqProofs only [go_sem, List.map_append, Flt.row, eq_self, ↓reduceIte]) (by simp -dsimp -implicitDefEqProofs only [go_sem, List.map_append, Flt.row, eq_self, ↓reduceIte]) (by simp -dsimp -implicitDefEqProofs only [go_sem, List.map_append, Flt.row, eq_self, ↓reduceIte]) (by simp -dsimp -implicitDefEqProofs only [go_sem, List.map_append, Flt.row, eq_self, ↓reduceIte]))) ?_
      refine rR ?_; apply zN
      refine C_block rfl ?_
      refine C_rounds rfl 4 ?_
      refine AM.rounds_succ ?_
      refine wl ?_; refine zq1 ⟨fun ht => ⟨⟨?_⟩⟩⟩
      refine C_rounds rfl 2 ?_
      refine AM.rounds_succ ?_
      refine wl ?_; refine zq1 ⟨fun ht => ⟨⟨?_⟩⟩⟩
      obtain ⟨l1, e1, h1⟩ : ∃ x, x = shapeA s ∧ x.length ≤ 100 := ⟨_, rfl, shapeA_len s h12⟩
      refine M_cutO [0,1,2,3,4,6,8,15,22,23,24,26,27,28,29,41] (k + 3) [] (LK (k + 1) (k + 2) s l1) ?_ ?_
      · refine cl [.gen (.tup []) (k + 4) (LK (k + 1) (k + 2) s []) (LK (k + 1) (k + 3) s l1)] ?_; refine zq2 ⟨⟨⟨?_⟩⟩⟩ ⟨⟨⟨?_⟩⟩⟩
        · have h := shape (Γ := Γ) s hs (k + 3) (k + 1) (k + 2) [] (by omega) (by omega) (by omega) (by simp)
          rw [List.nil_append, ← e1] at h
          exact h
        exact Mv.app (k + 3) (k + 2) ⟨by omega, by omega⟩ ⟨by omega, by omega⟩ (wk_low (by omega) (by simp -dsimp -implicitDefEqProofs only [go_sem, List.map_append, Flt.row, eq_self, ↓reduceIte]) (by simp -dsimp -implicitDefEqProofs only [go_sem, List.map_append, Flt.row, eq_self, ↓reduceIte]) (by simp -dsimp -implicitDefEqProofs only [go_sem, List.map_append, Flt.row, eq_self, ↓reduceIte]) (by simp -dsimp -implicitDefEqProofs only [go_sem, List.map_append, Flt.row, eq_self, ↓reduceIte]))
      refine rR ?_; apply zN
      refine wl ?_; refine zq2 ⟨fun ht ht => ⟨⟨?_⟩⟩⟩ ⟨fun ht ht ht => ⟨⟨?_⟩⟩⟩
      · refine ⟨l1, by rw [checkA, ← e1, if_pos (by omega)], ?_⟩
        exact wkF
      · obtain rfl : l1 = [] := List.eq_nil_of_length_eq_zero (by omega)
        have hz : (shapeA s).length = 0 := by rw [← e1]; rfl
        have hchk : checkA s = if 0 < (partsA s).length then partsA s else floorsA s := by rw [checkA, if_neg (by omega)]
        obtain ⟨z1, z2, z3, z4⟩ := shapes_nil (s := s) (by rw [← shapeA_eq]; exact hz)
        refine C_rounds rfl 4 ?_
        refine AM.rounds_succ ?_
        refine wl ?_; refine zq1 ⟨fun ht => ⟨⟨?_⟩⟩⟩
        obtain ⟨p1, f1, g1⟩ : ∃ x, x = clocksA s ∧ x.length ≤ 2000 := ⟨_, rfl, clocksA_len s hs⟩
        refine M_cutO [0,1,2,3,4,6,8,15,22,23,24,26,27,28,29,41] (k + 3) [] (LK (k + 1) (k + 2) s p1) ?_ ?_
        · refine cl [.gen (.tup []) (k + 4) (LK (k + 1) (k + 2) s []) (LK (k + 1) (k + 3) s p1)] ?_; refine zq2 ⟨⟨⟨?_⟩⟩⟩ ⟨⟨⟨?_⟩⟩⟩
          · have h := clocks (Γ := Γ) s hs (k + 3) (k + 1) (k + 2) [] (by omega) (by omega) (by omega) (by simp)
            rw [List.nil_append, ← f1] at h
            exact h
          exact Mv.app (k + 3) (k + 2) ⟨by omega, by omega⟩ ⟨by omega, by omega⟩ (wk_low (by omega) (by simp -dsimp -implicitDefEqProofs only [go_sem, List.map_append, Flt.row, eq_self, ↓reduceIte]) (by simp -dsimp -implicitDefEqProofs only [go_sem, List.map_append, Flt.row, eq_self, ↓reduceIte]) (by simp -dsimp -implicitDefEqProofs only [go_sem, List.map_append, Flt.row, eq_self, ↓reduceIte]) (by simp -dsimp -implicitDefEqProofs only [go_sem, List.map_append, Flt.row, eq_self, ↓reduceIte]))
        refine rR ?_; apply zN
        refine wl ?_; refine zq1 ⟨fun ht => ⟨⟨?_⟩⟩⟩
        obtain ⟨p2, f2, g2⟩ : ∃ x, x = p1 ++ tasksA s ∧ x.length ≤ 9000 := ⟨_, rfl, by have := tasksA_len s hs; rw [List.length_append]; omega⟩
        refine M_cutO [0,1,2,3,4,6,8,15,22,23,24,26,27,28,29,41] (k + 3) [] (LK (k + 1) (k + 2) s p2) ?_ ?_
        · refine cl [.gen (.tup []) (k + 4) (LK (k + 1) (k + 2) s p1) (LK (k + 1) (k + 3) s p2)] ?_; refine zq2 ⟨⟨⟨?_⟩⟩⟩ ⟨⟨⟨?_⟩⟩⟩
          · have h := tasks (Γ := Γ) s hs (by omega) (k + 3) (k + 1) (k + 2) p1 (by omega) (by omega) (by omega) (by omega)
            rw [← f2] at h
            exact h
          exact Mv.app (k + 3) (k + 2) ⟨by omega, by omega⟩ ⟨by omega, by omega⟩ (wk_low (by omega) (by simp -dsimp -implicitDefEqProofs only [go_sem, List.map_append, Flt.row, eq_self, ↓reduceIte]) (by simp -dsimp -implicitDefEqProofs only [go_sem, List.map_append, Flt.row, eq_self, ↓reduceIte]) (by simp -dsimp -implicitDefEqProofs only [go_sem, List.map_append, Flt.row, eq_self, ↓reduceIte]) (by simp -dsimp -implicitDefEqProofs only [go_sem, List.map_append, Flt.row, eq_self, ↓reduceIte]))
        refine rR ?_; apply zN
        refine wl ?_; refine zq1 ⟨fun ht => ⟨⟨?_⟩⟩⟩
        obtain ⟨p3, f3, g3⟩ : ∃ x, x = p2 ++ spotsA s ∧ x.length ≤ 9144 := ⟨_, rfl, by have := spotsA_len s hq; rw [List.length_append]; omega⟩
        refine M_cutO [0,1,2,3,4,6,8,15,22,23,24,26,27,28,29,41] (k + 3) [] (LK (k + 1) (k + 2) s p3) ?_ ?_
        · refine cl [.gen (.tup []) (k + 4) (LK (k + 1) (k + 2) s p2) (LK (k + 1) (k + 3) s p3)] ?_; refine zq2 ⟨⟨⟨?_⟩⟩⟩ ⟨⟨⟨?_⟩⟩⟩
          · have h := spots (Γ := Γ) s hs (by omega) h12 hp12 (k + 3) (k + 1) (k + 2) p2 (by omega) (by omega) (by omega) (by omega)
            rw [← f3] at h
            exact h
          exact Mv.app (k + 3) (k + 2) ⟨by omega, by omega⟩ ⟨by omega, by omega⟩ (wk_low (by omega) (by simp -dsimp -implicitDefEqProofs only [go_sem, List.map_append, Flt.row, eq_self, ↓reduceIte]) (by simp -dsimp -implicitDefEqProofs only [go_sem, List.map_append, Flt.row, eq_self, ↓reduceIte]) (by simp -dsimp -implicitDefEqProofs only [go_sem, List.map_append, Flt.row, eq_self, ↓reduceIte]) (by simp -dsimp -implicitDefEqProofs only [go_sem, List.map_append, Flt.row, eq_self, ↓reduceIte]))
        refine rR ?_; apply zN
        have f3' : p3 = partsA s := by rw [f3, f2, f1, partsA, List.append_assoc]
        clear f3 f2 f1
        refine wl ?_; refine zq2 ⟨fun ht ht => ⟨⟨?_⟩⟩⟩ ⟨fun ht ht ht => ⟨⟨?_⟩⟩⟩
        · refine ⟨p3, by rw [hchk, ← f3', if_pos (by omega)], ?_⟩
          exact wkF
        · obtain rfl : p3 = [] := List.eq_nil_of_length_eq_zero (by omega)
          have hz2 : (partsA s).length = 0 := by rw [← f3']; rfl
          refine C_rounds rfl 2 ?_
          refine AM.rounds_succ ?_
          refine wl ?_; refine zq1 ⟨fun ht => ⟨⟨?_⟩⟩⟩
          obtain ⟨q1, u1, v1⟩ : ∃ x, x = floorsA s ∧ x.length ≤ 800 := ⟨_, rfl, floorsA_len s h12 r2⟩
          refine M_cutO [0,1,2,3,4,6,8,15,22,23,24,26,27,28,29,41] (k + 3) [] (LK (k + 1) (k + 2) s q1) ?_ ?_
          · refine cl [.gen (.tup []) (k + 4) (LK (k + 1) (k + 2) s []) (LK (k + 1) (k + 3) s q1)] ?_; refine zq2 ⟨⟨⟨?_⟩⟩⟩ ⟨⟨⟨?_⟩⟩⟩
            · have h := floors (Γ := Γ) s hs (hfl hcf hz hz2) (k + 3) (k + 1) (k + 2) [] (by omega) (by omega) (by omega) (by simp)
              rw [List.nil_append, ← u1] at h
              exact h
            exact Mv.app (k + 3) (k + 2) ⟨by omega, by omega⟩ ⟨by omega, by omega⟩ (wk_low (by omega) (by simp -dsimp -implicitDefEqProofs only [go_sem, List.map_append, Flt.row, eq_self, ↓reduceIte]) (by simp -dsimp -implicitDefEqProofs only [go_sem, List.map_append, Flt.row, eq_self, ↓reduceIte]) (by simp -dsimp -implicitDefEqProofs only [go_sem, List.map_append, Flt.row, eq_self, ↓reduceIte]) (by simp -dsimp -implicitDefEqProofs only [go_sem, List.map_append, Flt.row, eq_self, ↓reduceIte]))
          refine rR ?_; apply zN
          refine wl ?_; refine zq2 ⟨fun ht ht => ⟨⟨?_⟩⟩⟩ ⟨fun ht ht ht => ⟨⟨?_⟩⟩⟩
          · refine ⟨q1, by rw [hchk, if_neg (by omega)]; exact u1, ?_⟩
            exact wkF
          · refine ⟨q1, by rw [hchk, if_neg (by omega)]; exact u1, ?_⟩
            exact wkF
    · intro l hl
      have hb' := hb hcf
      have hp' := hp hcf
      rw [← hl] at hb' hp'
      have hll : l.length ≤ 100000 := by
        rw [hl]
        have h1 := shapeA_len s h12
        have h2 := clocksA_len s hs
        have h3 := tasksA_len s hs
        have h4 := spotsA_len s hq
        have h5 := floorsA_len s h12 r2
        unfold checkA partsA
        split
        · omega
        · split
          · simp only [List.length_append]; omega
          · omega
      refine rR ?_; apply zN
      refine wl ?_; refine zq1 ⟨⟨⟨?_⟩⟩⟩
      refine cl [.gen (accV (k + 2) (R.map Flt.row)) (k + 3) (LK (k + 1) (k + 2) s l) (LK (k + 1) (k + 2) s R)] ?_; refine zq2 ⟨⟨⟨?_⟩⟩⟩ ⟨⟨⟨?_⟩⟩⟩
      · exact sorted (k + 3) (k + 1) (k + 2) s l R (by omega) (by omega) (by omega) hb' hp' (hso hcf) hll
      refine M_racc rfl (id := k + 2) (s := 3) (l := List.map Flt.row R) 2 (by simp -dsimp -implicitDefEqProofs only [go_sem, List.map_append, Flt.row, eq_self, ↓reduceIte]) (by simp -dsimp -implicitDefEqProofs only [go_sem, List.map_append, Flt.row, eq_self, ↓reduceIte]) ?_
      exact ⟨_, rfl, VLe.refl _⟩
end Go.Proofs.T
end
