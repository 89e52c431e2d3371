import Derived.Test.YtkiadljldlppbaaGreatDoorZAQ
set_option linter.unusedVariables false
set_option linter.unusedSimpArgs false
section
namespace Go.Proofs.T
open Go Go.AM Go.Proofs
set_option maxRecDepth 20000
variable {Γ : List (Nat × List AVal)}
set_option maxHeartbeats 16000000 in
theorem rndS (L : LSt) (n : Nat) (hS : Rt0 L n) (o : Opn) (m tk k : Nat) (hm : m + 6 + L.sl.length ≤ tk) (hk : tk < k) (c : Nat) (hc : o.cpu = (c : Int)) (hcn : c < n) (i : Nat) (hi2 : i < L.tl.length) (p : Int × Int) (W b : Int) (hwp : AM.Pure Tryz.prog Γ 84 [.rp (mcL L), .lit (.int .i64 (c : Int))] (.lit (.int .i64 W))) (hno : ¬ mayP L c p.1 i) (N : Nat → Fr → Heap → Prop) (Q : AQ) (hN : ∀ k1 fr1 H1, Mv k k1 fr1 H1 (k + 1) (ovr [0,1,3,4,5,6,7,8,9,10,11,12,13,14,19,25,26,27,40,48,49,50,51,116,120] [(50, .lit (.int .i64 ((i + 1 : Nat) : Int))), (10, .lit (.int .i64 (b)))] [(0, .ptr m 0 0), (3, .ptr k 0 0), (6, .lit (.int .i64 p.1)), (7, .lit (.int .i64 p.2)), (48, .sl tk 0 L.tl.length), (49, .lit (.int .i64 (L.tl.length : Int)))]) ((k, ⟨8, true, [opc o]⟩) :: MH m tk L) → N k1 fr1 H1) :
    AM.W Tryz.prog Γ 136 k (cat (bodyOf Tryz.f39) [0, 0, 1, 0, 1, 1, 1, 1, 1]) (thenQ N Q) (k + 1) (ovr [0,1,3,4,5,6,7,8,9,10,11,12,13,14,19,25,26,27,40,48,49,50,51,116,120] [(50, .lit (.int .i64 (i : Int))), (10, .lit (.int .i64 b))] [(0, .ptr m 0 0), (3, .ptr k 0 0), (6, .lit (.int .i64 p.1)), (7, .lit (.int .i64 p.2)), (48, .sl tk 0 L.tl.length), (49, .lit (.int .i64 (L.tl.length : Int)))]) ((k, ⟨8, true, [opc o]⟩) :: MH m tk L) := by
  have hnt := hS.nt
  have hcp := hS.cpus
  have hnu := hS.nu
  have hn1 := hS.n1
  have hn64 := hS.n64
  have hns := hS.ns
  have hneg : ((c : Int) < 0) = False := eq_false (by omega)
  have hO : opc o = [.lit (.int .u8 o.kind), .lit (.int .i64 (c : Int)), .lit (.int .i64 o.task), .lit (.int .i64 o.group), .lit (.int .i64 o.weight), .lit (.int .i64 o.to), .lit (.int .i64 o.ticks), .lit (.int .u64 o.mask)] := by rw [← hc]; rfl
  obtain ⟨NM, eNM⟩ : ∃ x, x = (MH m tk L).map (·.1) := ⟨_, rfl⟩
  have hNM : nub (NM.map (fun i => if k ≤ i then i - k + 1 else 0)) = [0] := by rw [eNM]; exact MH_names hm hk (fun i hi => if_neg (by omega))
  have hT := hS.tk i hi2
  have hTe := hT.e
  simp only [ent, decide_eq_true_eq] at hTe
  obtain ⟨d, hd⟩ : ∃ d : Nat, (L.tsk i).cpu = (d : Int) := ⟨(L.tsk i).cpu.toNat, by have := hT.c0; omega⟩
  have hdn : d < n := by have := hT.c1; omega
  have hmb : IntKind.u64.wrap ((BitVec.ofInt IntKind.u64.bits ((L.tsk i).mask.fdiv (2 ^ min c 64)) &&& BitVec.ofInt IntKind.u64.bits 1).toNat : Int) = (L.tsk i).mask / 2 ^ c % 2 := by
    have := mask_bit (x := (L.tsk i).mask) (c := (c : Int)) hT.m0 hT.m1 (by omega) (by omega)
    rwa [Int.toNat_natCast] at this
  have hmay : mayP L c p.1 i ↔ (L.tsk i).ready = true ∧ (d : Int) = p.1 ∧ (L.tsk i).mask / 2 ^ c % 2 = 1 ∧ L.cur d ≠ (L.tsk i).id := by unfold mayP; rw [hd, Int.toNat_natCast]
  have hw2 : IntKind.i64.wrap (2 * (L.tsk i).weight) = 2 * (L.tsk i).weight := wrap_i64 (by omega) (by omega)
  obtain ⟨V, eV⟩ : ∃ V, V = IntKind.i64.wrap (p.2 - W) := ⟨_, rfl⟩
  have eV2 := eV.symm
  have hcan : canP L p.2 W i b ↔ 2 * (L.tsk i).weight ≤ V ∧ (b < 0 ∨ (L.tsk b.toNat).weight < (L.tsk i).weight) := by unfold canP; rw [← eV]
  rw [hO] at hN ⊢
  simp only [MH, LH]
  try (simp -dsimp -implicitDefEqProofs (disch := omega) only [go_sem, nq0, eq_self, ↓reduceIte])
  rw [hmay] at hno
  by_cases r1 : (L.tsk i).ready = true
  rotate_left
  · have r1' : (L.tsk i).ready = false := by simpa using r1
    have kp : Kp [0,1,3,4,5,6,7,8,9,10,11,12,13,14,19,25,26,27,40,48,49,50,51,116,120] (fun i => if k ≤ i then i - k + 1 else 0) := kpI
    have uU := zA @hd (zA @hmb (zA @hneg (zA @hNM (zA @hw2 (zA @eV2 @r1')))))
    refine wlL ?_; refine zq1 ⟨fun ht => ⟨⟨?_⟩⟩⟩
    refine dlL [.raw (some 95) ⟨.lit (.int .i64 W), k + 2, [], NM⟩] ?_; refine zq1 ⟨⟨⟨?_⟩⟩⟩
    all_goals (first | exact lend (loc := [(k + 1, ⟨8, true, _⟩), (k, ⟨8, true, _⟩)]) hm rfl (by kernel_rfl) rfl rfl rfl (fun x hx => by simp only [List.mem_cons, List.not_mem_nil, or_false] at hx; rcases hx with hx | hx <;> rw [hx] <;> simp only [] <;> omega) hwp eNM | skip)
    all_goals ((refine wlL ?_; refine zq1 ⟨fun ht => ⟨⟨?_⟩⟩⟩))
    all_goals (refine hN _ _ _ ?_)
    all_goals (try (simp only [MH, LH]))
    all_goals (try (simp -dsimp -implicitDefEqProofs (disch := omega) only [go_sem, nq0, hd, hmb, hneg, hNM, hw2, eV2, r1', eq_self, ↓reduceIte]))
    all_goals (exact wkD)
  by_cases r2 : (d : Int) = p.1
  rotate_left
  · have r2b : ((d : Int) == p.1) = false := by rw [beq_eq_false_iff_ne]; exact r2
    have kp : Kp [0,1,3,4,5,6,7,8,9,10,11,12,13,14,19,25,26,27,40,48,49,50,51,116,120] (fun i => if k ≤ i then i - k + 1 else 0) := kpI
    have uU := zA @hd (zA @hmb (zA @hneg (zA @hNM (zA @hw2 (zA @eV2 (zA @r1 @r2b))))))
    refine wlL ?_; refine zq1 ⟨fun ht => ⟨⟨?_⟩⟩⟩
    refine dlL [.raw (some 95) ⟨.lit (.int .i64 W), k + 2, [], NM⟩] ?_; refine zq1 ⟨⟨⟨?_⟩⟩⟩
    all_goals (first | exact lend (loc := [(k + 1, ⟨8, true, _⟩), (k, ⟨8, true, _⟩)]) hm rfl (by kernel_rfl) rfl rfl rfl (fun x hx => by simp only [List.mem_cons, List.not_mem_nil, or_false] at hx; rcases hx with hx | hx <;> rw [hx] <;> simp only [] <;> omega) hwp eNM | skip)
    all_goals ((refine wlL ?_; refine zq1 ⟨fun ht => ⟨⟨?_⟩⟩⟩))
    all_goals (refine hN _ _ _ ?_)
    all_goals (try (simp only [MH, LH]))
    all_goals (try (simp -dsimp -implicitDefEqProofs (disch := omega) only [go_sem, nq0, hd, hmb, hneg, hNM, hw2, eV2, r1, r2b, eq_self, ↓reduceIte]))
    all_goals (exact wkD)
  by_cases r3 : (L.tsk i).mask / 2 ^ c % 2 = 1
  rotate_left
  · have r2b : ((d : Int) == p.1) = true := by rw [beq_iff_eq]; exact r2
    have r3b : ((L.tsk i).mask / 2 ^ c % 2 == 1) = false := by rw [beq_eq_false_iff_ne]; exact r3
    have kp : Kp [0,1,3,4,5,6,7,8,9,10,11,12,13,14,19,25,26,27,40,48,49,50,51,116,120] (fun i => if k ≤ i then i - k + 1 else 0) := kpI
    have uU := zA @hd (zA @hmb (zA @hneg (zA @hNM (zA @hw2 (zA @eV2 (zA @r1 (zA @r2b @r3b)))))))
    refine wlL ?_; refine zq1 ⟨fun ht => ⟨⟨?_⟩⟩⟩
    refine dlL [.raw (some 95) ⟨.lit (.int .i64 W), k + 2, [], NM⟩] ?_; refine zq1 ⟨⟨⟨?_⟩⟩⟩
    all_goals (first | exact lend (loc := [(k + 1, ⟨8, true, _⟩), (k, ⟨8, true, _⟩)]) hm rfl (by kernel_rfl) rfl rfl rfl (fun x hx => by simp only [List.mem_cons, List.not_mem_nil, or_false] at hx; rcases hx with hx | hx <;> rw [hx] <;> simp only [] <;> omega) hwp eNM | skip)
    all_goals ((refine wlL ?_; refine zq1 ⟨fun ht => ⟨⟨?_⟩⟩⟩))
    all_goals (refine hN _ _ _ ?_)
    all_goals (try (simp only [MH, LH]))
    all_goals (try (simp -dsimp -implicitDefEqProofs (disch := omega) only [go_sem, nq0, hd, hmb, hneg, hNM, hw2, eV2, r1, r2b, r3b, eq_self, ↓reduceIte]))
    all_goals (exact wkD)
  have r4 : L.cur d = (L.tsk i).id := Decidable.byContradiction fun h => hno ⟨r1, r2, r3, h⟩
  have r2b : ((d : Int) == p.1) = true := by rw [beq_iff_eq]; exact r2
  have r4b : (L.cur d != (L.tsk i).id) = false := by rw [r4]; simp
  have kp : Kp [0,1,3,4,5,6,7,8,9,10,11,12,13,14,19,25,26,27,40,48,49,50,51,116,120] (fun i => if k ≤ i then i - k + 1 else 0) := kpI
  have uU := zA @hd (zA @hmb (zA @hneg (zA @hNM (zA @hw2 (zA @eV2 (zA @r1 (zA @r2b (zA @r3 @r4b))))))))
  refine wlL ?_; refine zq1 ⟨fun ht => ⟨⟨?_⟩⟩⟩
  refine dlL [.raw (some 95) ⟨.lit (.int .i64 W), k + 2, [], NM⟩] ?_; refine zq1 ⟨⟨⟨?_⟩⟩⟩
  all_goals (first | exact lend (loc := [(k + 1, ⟨8, true, _⟩), (k, ⟨8, true, _⟩)]) hm rfl (by kernel_rfl) rfl rfl rfl (fun x hx => by simp only [List.mem_cons, List.not_mem_nil, or_false] at hx; rcases hx with hx | hx <;> rw [hx] <;> simp only [] <;> omega) hwp eNM | skip)
  all_goals ((refine wlL ?_; refine zq1 ⟨fun ht => ⟨⟨?_⟩⟩⟩))
  all_goals (refine hN _ _ _ ?_)
  all_goals (try (simp only [MH, LH]))
  all_goals (try (simp -dsimp -implicitDefEqProofs (disch := omega) only [go_sem, nq0, hd, hmb, hneg, hNM, hw2, eV2, r1, r2b, r3, r4b, eq_self, ↓reduceIte]))
  all_goals (exact wkD)
end Go.Proofs.T
end
section
namespace Go.Proofs.T
open Go Go.AM Go.Proofs
set_option maxRecDepth 20000
variable {Γ : List (Nat × List AVal)}
set_option maxHeartbeats 16000000 in
theorem rndA (L : LSt) (n : Nat) (hS : Rt0 L n) (o : Opn) (m tk k : Nat) (hm : m + 6 + L.sl.length ≤ tk) (hk : tk < k) (c : Nat) (hc : o.cpu = (c : Int)) (hcn : c < n) (i : Nat) (hi2 : i < L.tl.length) (p : Int × Int) (W b : Int) (hwp : AM.Pure Tryz.prog Γ 84 [.rp (mcL L), .lit (.int .i64 (c : Int))] (.lit (.int .i64 W))) (hyes : mayP L c p.1 i) (hca : ¬ (2 * (L.tsk i).weight ≤ IntKind.i64.wrap (p.2 - W))) (N : Nat → Fr → Heap → Prop) (Q : AQ) (hN : ∀ k1 fr1 H1, Mv k k1 fr1 H1 (k + 1) (ovr [0,1,3,4,5,6,7,8,9,10,11,12,13,14,19,25,26,27,40,48,49,50,51,116,120] [(50, .lit (.int .i64 ((i + 1 : Nat) : Int))), (10, .lit (.int .i64 (b)))] [(0, .ptr m 0 0), (3, .ptr k 0 0), (6, .lit (.int .i64 p.1)), (7, .lit (.int .i64 p.2)), (48, .sl tk 0 L.tl.length), (49, .lit (.int .i64 (L.tl.length : Int)))]) ((k, ⟨8, true, [opc o]⟩) :: MH m tk L) → N k1 fr1 H1) :
    AM.W Tryz.prog Γ 136 k (cat (bodyOf Tryz.f39) [0, 0, 1, 0, 1, 1, 1, 1, 1]) (thenQ N Q) (k + 1) (ovr [0,1,3,4,5,6,7,8,9,10,11,12,13,14,19,25,26,27,40,48,49,50,51,116,120] [(50, .lit (.int .i64 (i : Int))), (10, .lit (.int .i64 b))] [(0, .ptr m 0 0), (3, .ptr k 0 0), (6, .lit (.int .i64 p.1)), (7, .lit (.int .i64 p.2)), (48, .sl tk 0 L.tl.length), (49, .lit (.int .i64 (L.tl.length : Int)))]) ((k, ⟨8, true, [opc o]⟩) :: MH m tk L) := by
  have hnt := hS.nt
  have hcp := hS.cpus
  have hnu := hS.nu
  have hn1 := hS.n1
  have hn64 := hS.n64
  have hns := hS.ns
  have hneg : ((c : Int) < 0) = False := eq_false (by omega)
  have hO : opc o = [.lit (.int .u8 o.kind), .lit (.int .i64 (c : Int)), .lit (.int .i64 o.task), .lit (.int .i64 o.group), .lit (.int .i64 o.weight), .lit (.int .i64 o.to), .lit (.int .i64 o.ticks), .lit (.int .u64 o.mask)] := by rw [← hc]; rfl
  obtain ⟨NM, eNM⟩ : ∃ x, x = (MH m tk L).map (·.1) := ⟨_, rfl⟩
  have hNM : nub (NM.map (fun i => if k ≤ i then i - k + 1 else 0)) = [0] := by rw [eNM]; exact MH_names hm hk (fun i hi => if_neg (by omega))
  have hT := hS.tk i hi2
  have hTe := hT.e
  simp only [ent, decide_eq_true_eq] at hTe
  obtain ⟨d, hd⟩ : ∃ d : Nat, (L.tsk i).cpu = (d : Int) := ⟨(L.tsk i).cpu.toNat, by have := hT.c0; omega⟩
  have hdn : d < n := by have := hT.c1; omega
  have hmb : IntKind.u64.wrap ((BitVec.ofInt IntKind.u64.bits ((L.tsk i).mask.fdiv (2 ^ min c 64)) &&& BitVec.ofInt IntKind.u64.bits 1).toNat : Int) = (L.tsk i).mask / 2 ^ c % 2 := by
    have := mask_bit (x := (L.tsk i).mask) (c := (c : Int)) hT.m0 hT.m1 (by omega) (by omega)
    rwa [Int.toNat_natCast] at this
  have hmay : mayP L c p.1 i ↔ (L.tsk i).ready = true ∧ (d : Int) = p.1 ∧ (L.tsk i).mask / 2 ^ c % 2 = 1 ∧ L.cur d ≠ (L.tsk i).id := by unfold mayP; rw [hd, Int.toNat_natCast]
  have hw2 : IntKind.i64.wrap (2 * (L.tsk i).weight) = 2 * (L.tsk i).weight := wrap_i64 (by omega) (by omega)
  obtain ⟨V, eV⟩ : ∃ V, V = IntKind.i64.wrap (p.2 - W) := ⟨_, rfl⟩
  have eV2 := eV.symm
  have hcan : canP L p.2 W i b ↔ 2 * (L.tsk i).weight ≤ V ∧ (b < 0 ∨ (L.tsk b.toNat).weight < (L.tsk i).weight) := by unfold canP; rw [← eV]
  rw [hO] at hN ⊢
  simp only [MH, LH]
  try (simp -dsimp -implicitDefEqProofs (disch := omega) only [go_sem, nq0, eq_self, ↓reduceIte])
  obtain ⟨r1, r2, r3, r4⟩ := hmay.1 hyes
  rw [← eV] at hca
  have q1 : (2 * (L.tsk i).weight ≤ V) = False := eq_false hca
  have r2b : ((d : Int) == p.1) = true := by rw [beq_iff_eq]; exact r2
  have r4b : (L.cur d != (L.tsk i).id) = true := by simp [r4]
  have kp : Kp [0,1,3,4,5,6,7,8,9,10,11,12,13,14,19,25,26,27,40,48,49,50,51,116,120] (fun i => if k ≤ i then i - k + 1 else 0) := kpI
  have uU := zA @hd (zA @hmb (zA @hneg (zA @hNM (zA @hw2 (zA @eV2 (zA @r1 (zA @r2b (zA @r3 (zA @r4b @q1)))))))))
  refine wlL ?_; refine zq1 ⟨fun ht => ⟨⟨?_⟩⟩⟩
  refine dlL [.raw (some 95) ⟨.lit (.int .i64 W), k + 2, [], NM⟩] ?_; refine zq2 ⟨⟨⟨?_⟩⟩⟩ ⟨⟨⟨?_⟩⟩⟩
  all_goals (first | exact lend (loc := [(k + 1, ⟨8, true, _⟩), (k, ⟨8, true, _⟩)]) hm rfl (by kernel_rfl) rfl rfl rfl (fun x hx => by simp only [List.mem_cons, List.not_mem_nil, or_false] at hx; rcases hx with hx | hx <;> rw [hx] <;> simp only [] <;> omega) hwp eNM | skip)
  all_goals ((refine wlL ?_; refine zq1 ⟨fun ht => ⟨⟨?_⟩⟩⟩))
  all_goals (refine hN _ _ _ ?_)
  all_goals (try (simp only [MH, LH]))
  all_goals (try (simp -dsimp -implicitDefEqProofs (disch := omega) only [go_sem, nq0, hd, hmb, hneg, hNM, hw2, eV2, r1, r2b, r3, r4b, q1, eq_self, ↓reduceIte]))
  all_goals (exact wkD)
end Go.Proofs.T
end
section
namespace Go.Proofs.T
open Go Go.AM Go.Proofs
set_option maxRecDepth 20000
variable {Γ : List (Nat × List AVal)}
set_option maxHeartbeats 16000000 in
theorem rndB (L : LSt) (n : Nat) (hS : Rt0 L n) (o : Opn) (m tk k : Nat) (hm : m + 6 + L.sl.length ≤ tk) (hk : tk < k) (c : Nat) (hc : o.cpu = (c : Int)) (hcn : c < n) (i : Nat) (hi2 : i < L.tl.length) (p : Int × Int) (W b : Int) (hwp : AM.Pure Tryz.prog Γ 84 [.rp (mcL L), .lit (.int .i64 (c : Int))] (.lit (.int .i64 W))) (hyes : mayP L c p.1 i) (hca : 2 * (L.tsk i).weight ≤ IntKind.i64.wrap (p.2 - W)) (hb : b = -1) (N : Nat → Fr → Heap → Prop) (Q : AQ) (hN : ∀ k1 fr1 H1, Mv k k1 fr1 H1 (k + 1) (ovr [0,1,3,4,5,6,7,8,9,10,11,12,13,14,19,25,26,27,40,48,49,50,51,116,120] [(50, .lit (.int .i64 ((i + 1 : Nat) : Int))), (10, .lit (.int .i64 ((i : Int))))] [(0, .ptr m 0 0), (3, .ptr k 0 0), (6, .lit (.int .i64 p.1)), (7, .lit (.int .i64 p.2)), (48, .sl tk 0 L.tl.length), (49, .lit (.int .i64 (L.tl.length : Int)))]) ((k, ⟨8, true, [opc o]⟩) :: MH m tk L) → N k1 fr1 H1) :
    AM.W Tryz.prog Γ 136 k (cat (bodyOf Tryz.f39) [0, 0, 1, 0, 1, 1, 1, 1, 1]) (thenQ N Q) (k + 1) (ovr [0,1,3,4,5,6,7,8,9,10,11,12,13,14,19,25,26,27,40,48,49,50,51,116,120] [(50, .lit (.int .i64 (i : Int))), (10, .lit (.int .i64 b))] [(0, .ptr m 0 0), (3, .ptr k 0 0), (6, .lit (.int .i64 p.1)), (7, .lit (.int .i64 p.2)), (48, .sl tk 0 L.tl.length), (49, .lit (.int .i64 (L.tl.length : Int)))]) ((k, ⟨8, true, [opc o]⟩) :: MH m tk L) := by
  have hnt := hS.nt
  have hcp := hS.cpus
  have hnu := hS.nu
  have hn1 := hS.n1
  have hn64 := hS.n64
  have hns := hS.ns
  have hneg : ((c : Int) < 0) = False := eq_false (by omega)
  have hO : opc o = [.lit (.int .u8 o.kind), .lit (.int .i64 (c : Int)), .lit (.int .i64 o.task), .lit (.int .i64 o.group), .lit (.int .i64 o.weight), .lit (.int .i64 o.to), .lit (.int .i64 o.ticks), .lit (.int .u64 o.mask)] := by rw [← hc]; rfl
  obtain ⟨NM, eNM⟩ : ∃ x, x = (MH m tk L).map (·.1) := ⟨_, rfl⟩
  have hNM : nub (NM.map (fun i => if k ≤ i then i - k + 1 else 0)) = [0] := by rw [eNM]; exact MH_names hm hk (fun i hi => if_neg (by omega))
  have hT := hS.tk i hi2
  have hTe := hT.e
  simp only [ent, decide_eq_true_eq] at hTe
  obtain ⟨d, hd⟩ : ∃ d : Nat, (L.tsk i).cpu = (d : Int) := ⟨(L.tsk i).cpu.toNat, by have := hT.c0; omega⟩
  have hdn : d < n := by have := hT.c1; omega
  have hmb : IntKind.u64.wrap ((BitVec.ofInt IntKind.u64.bits ((L.tsk i).mask.fdiv (2 ^ min c 64)) &&& BitVec.ofInt IntKind.u64.bits 1).toNat : Int) = (L.tsk i).mask / 2 ^ c % 2 := by
    have := mask_bit (x := (L.tsk i).mask) (c := (c : Int)) hT.m0 hT.m1 (by omega) (by omega)
    rwa [Int.toNat_natCast] at this
  have hmay : mayP L c p.1 i ↔ (L.tsk i).ready = true ∧ (d : Int) = p.1 ∧ (L.tsk i).mask / 2 ^ c % 2 = 1 ∧ L.cur d ≠ (L.tsk i).id := by unfold mayP; rw [hd, Int.toNat_natCast]
  have hw2 : IntKind.i64.wrap (2 * (L.tsk i).weight) = 2 * (L.tsk i).weight := wrap_i64 (by omega) (by omega)
  obtain ⟨V, eV⟩ : ∃ V, V = IntKind.i64.wrap (p.2 - W) := ⟨_, rfl⟩
  have eV2 := eV.symm
  have hcan : canP L p.2 W i b ↔ 2 * (L.tsk i).weight ≤ V ∧ (b < 0 ∨ (L.tsk b.toNat).weight < (L.tsk i).weight) := by unfold canP; rw [← eV]
  rw [hO] at hN ⊢
  simp only [MH, LH]
  try (simp -dsimp -implicitDefEqProofs (disch := omega) only [go_sem, nq0, eq_self, ↓reduceIte])
  obtain ⟨r1, r2, r3, r4⟩ := hmay.1 hyes
  rw [← eV] at hca
  subst hb
  have q1 : (2 * (L.tsk i).weight ≤ V) = True := eq_true hca
  have q3 : ((-1 : Int) < 0) = True := eq_true (by omega)
  have r2b : ((d : Int) == p.1) = true := by rw [beq_iff_eq]; exact r2
  have r4b : (L.cur d != (L.tsk i).id) = true := by simp [r4]
  have kp : Kp [0,1,3,4,5,6,7,8,9,10,11,12,13,14,19,25,26,27,40,48,49,50,51,116,120] (fun i => if k ≤ i then i - k + 1 else 0) := kpI
  have uU := zA @hd (zA @hmb (zA @hneg (zA @hNM (zA @hw2 (zA @eV2 (zA @r1 (zA @r2b (zA @r3 (zA @r4b (zA @q1 @q3))))))))))
  refine wlL ?_; refine zq1 ⟨fun ht => ⟨⟨?_⟩⟩⟩
  refine dlL [.raw (some 95) ⟨.lit (.int .i64 W), k + 2, [], NM⟩] ?_; refine zq2 ⟨⟨⟨?_⟩⟩⟩ ⟨⟨⟨?_⟩⟩⟩
  all_goals (first | exact lend (loc := [(k + 1, ⟨8, true, _⟩), (k, ⟨8, true, _⟩)]) hm rfl (by kernel_rfl) rfl rfl rfl (fun x hx => by simp only [List.mem_cons, List.not_mem_nil, or_false] at hx; rcases hx with hx | hx <;> rw [hx] <;> simp only [] <;> omega) hwp eNM | skip)
  all_goals ((refine wlL ?_; refine zq1 ⟨fun ht => ⟨⟨?_⟩⟩⟩))
  all_goals (refine hN _ _ _ ?_)
  all_goals (try (simp only [MH, LH]))
  all_goals (try (simp -dsimp -implicitDefEqProofs (disch := omega) only [go_sem, nq0, hd, hmb, hneg, hNM, hw2, eV2, r1, r2b, r3, r4b, q1, q3, eq_self, ↓reduceIte]))
  all_goals (exact wkD)
end Go.Proofs.T
end
section
namespace Go.Proofs.T
open Go Go.AM Go.Proofs
set_option maxRecDepth 20000
variable {Γ : List (Nat × List AVal)}
set_option maxHeartbeats 16000000 in
theorem rndC (L : LSt) (n : Nat) (hS : Rt0 L n) (o : Opn) (m tk k : Nat) (hm : m + 6 + L.sl.length ≤ tk) (hk : tk < k) (c : Nat) (hc : o.cpu = (c : Int)) (hcn : c < n) (i : Nat) (hi2 : i < L.tl.length) (p : Int × Int) (W b : Int) (hwp : AM.Pure Tryz.prog Γ 84 [.rp (mcL L), .lit (.int .i64 (c : Int))] (.lit (.int .i64 W))) (hyes : mayP L c p.1 i) (hca : 2 * (L.tsk i).weight ≤ IntKind.i64.wrap (p.2 - W)) (y : Nat) (hb : b = (y : Int)) (hy : y < L.tl.length) (q2 : (L.tsk y).weight < (L.tsk i).weight) (N : Nat → Fr → Heap → Prop) (Q : AQ) (hN : ∀ k1 fr1 H1, Mv k k1 fr1 H1 (k + 1) (ovr [0,1,3,4,5,6,7,8,9,10,11,12,13,14,19,25,26,27,40,48,49,50,51,116,120] [(50, .lit (.int .i64 ((i + 1 : Nat) : Int))), (10, .lit (.int .i64 ((i : Int))))] [(0, .ptr m 0 0), (3, .ptr k 0 0), (6, .lit (.int .i64 p.1)), (7, .lit (.int .i64 p.2)), (48, .sl tk 0 L.tl.length), (49, .lit (.int .i64 (L.tl.length : Int)))]) ((k, ⟨8, true, [opc o]⟩) :: MH m tk L) → N k1 fr1 H1) :
    AM.W Tryz.prog Γ 136 k (cat (bodyOf Tryz.f39) [0, 0, 1, 0, 1, 1, 1, 1, 1]) (thenQ N Q) (k + 1) (ovr [0,1,3,4,5,6,7,8,9,10,11,12,13,14,19,25,26,27,40,48,49,50,51,116,120] [(50, .lit (.int .i64 (i : Int))), (10, .lit (.int .i64 b))] [(0, .ptr m 0 0), (3, .ptr k 0 0), (6, .lit (.int .i64 p.1)), (7, .lit (.int .i64 p.2)), (48, .sl tk 0 L.tl.length), (49, .lit (.int .i64 (L.tl.length : Int)))]) ((k, ⟨8, true, [opc o]⟩) :: MH m tk L) := by
  have hnt := hS.nt
  have hcp := hS.cpus
  have hnu := hS.nu
  have hn1 := hS.n1
  have hn64 := hS.n64
  have hns := hS.ns
  have hneg : ((c : Int) < 0) = False := eq_false (by omega)
  have hO : opc o = [.lit (.int .u8 o.kind), .lit (.int .i64 (c : Int)), .lit (.int .i64 o.task), .lit (.int .i64 o.group), .lit (.int .i64 o.weight), .lit (.int .i64 o.to), .lit (.int .i64 o.ticks), .lit (.int .u64 o.mask)] := by rw [← hc]; rfl
  obtain ⟨NM, eNM⟩ : ∃ x, x = (MH m tk L).map (·.1) := ⟨_, rfl⟩
  have hNM : nub (NM.map (fun i => if k ≤ i then i - k + 1 else 0)) = [0] := by rw [eNM]; exact MH_names hm hk (fun i hi => if_neg (by omega))
  have hT := hS.tk i hi2
  have hTe := hT.e
  simp only [ent, decide_eq_true_eq] at hTe
  obtain ⟨d, hd⟩ : ∃ d : Nat, (L.tsk i).cpu = (d : Int) := ⟨(L.tsk i).cpu.toNat, by have := hT.c0; omega⟩
  have hdn : d < n := by have := hT.c1; omega
  have hmb : IntKind.u64.wrap ((BitVec.ofInt IntKind.u64.bits ((L.tsk i).mask.fdiv (2 ^ min c 64)) &&& BitVec.ofInt IntKind.u64.bits 1).toNat : Int) = (L.tsk i).mask / 2 ^ c % 2 := by
    have := mask_bit (x := (L.tsk i).mask) (c := (c : Int)) hT.m0 hT.m1 (by omega) (by omega)
    rwa [Int.toNat_natCast] at this
  have hmay : mayP L c p.1 i ↔ (L.tsk i).ready = true ∧ (d : Int) = p.1 ∧ (L.tsk i).mask / 2 ^ c % 2 = 1 ∧ L.cur d ≠ (L.tsk i).id := by unfold mayP; rw [hd, Int.toNat_natCast]
  have hw2 : IntKind.i64.wrap (2 * (L.tsk i).weight) = 2 * (L.tsk i).weight := wrap_i64 (by omega) (by omega)
  obtain ⟨V, eV⟩ : ∃ V, V = IntKind.i64.wrap (p.2 - W) := ⟨_, rfl⟩
  have eV2 := eV.symm
  have hcan : canP L p.2 W i b ↔ 2 * (L.tsk i).weight ≤ V ∧ (b < 0 ∨ (L.tsk b.toNat).weight < (L.tsk i).weight) := by unfold canP; rw [← eV]
  rw [hO] at hN ⊢
  simp only [MH, LH]
  try (simp -dsimp -implicitDefEqProofs (disch := omega) only [go_sem, nq0, eq_self, ↓reduceIte])
  obtain ⟨r1, r2, r3, r4⟩ := hmay.1 hyes
  rw [← eV] at hca
  subst hb
  have q1 : (2 * (L.tsk i).weight ≤ V) = True := eq_true hca
  have q3 : ((y : Int) < 0) = False := eq_false (by omega)
  have q4 : ((L.tsk y).weight < (L.tsk i).weight) = True := eq_true q2
  have r2b : ((d : Int) == p.1) = true := by rw [beq_iff_eq]; exact r2
  have r4b : (L.cur d != (L.tsk i).id) = true := by simp [r4]
  have kp : Kp [0,1,3,4,5,6,7,8,9,10,11,12,13,14,19,25,26,27,40,48,49,50,51,116,120] (fun i => if k ≤ i then i - k + 1 else 0) := kpI
  have uU := zA @hd (zA @hmb (zA @hneg (zA @hNM (zA @hw2 (zA @eV2 (zA @r1 (zA @r2b (zA @r3 (zA @r4b (zA @q1 (zA @q3 @q4)))))))))))
  refine wlL ?_; refine zq1 ⟨fun ht => ⟨⟨?_⟩⟩⟩
  refine dlL [.raw (some 95) ⟨.lit (.int .i64 W), k + 2, [], NM⟩] ?_; refine zq2 ⟨⟨⟨?_⟩⟩⟩ ⟨⟨⟨?_⟩⟩⟩
  all_goals (first | exact lend (loc := [(k + 1, ⟨8, true, _⟩), (k, ⟨8, true, _⟩)]) hm rfl (by kernel_rfl) rfl rfl rfl (fun x hx => by simp only [List.mem_cons, List.not_mem_nil, or_false] at hx; rcases hx with hx | hx <;> rw [hx] <;> simp only [] <;> omega) hwp eNM | skip)
  all_goals ((refine wlL ?_; refine zq1 ⟨fun ht => ⟨⟨?_⟩⟩⟩))
  all_goals (refine hN _ _ _ ?_)
  all_goals (try (simp only [MH, LH]))
  all_goals (try (simp -dsimp -implicitDefEqProofs (disch := omega) only [go_sem, nq0, hd, hmb, hneg, hNM, hw2, eV2, r1, r2b, r3, r4b, q1, q3, q4, eq_self, ↓reduceIte]))
  all_goals (exact wkD)
end Go.Proofs.T
end
section
namespace Go.Proofs.T
open Go Go.AM Go.Proofs
set_option maxRecDepth 20000
variable {Γ : List (Nat × List AVal)}
set_option maxHeartbeats 16000000 in
theorem rndD (L : LSt) (n : Nat) (hS : Rt0 L n) (o : Opn) (m tk k : Nat) (hm : m + 6 + L.sl.length ≤ tk) (hk : tk < k) (c : Nat) (hc : o.cpu = (c : Int)) (hcn : c < n) (i : Nat) (hi2 : i < L.tl.length) (p : Int × Int) (W b : Int) (hwp : AM.Pure Tryz.prog Γ 84 [.rp (mcL L), .lit (.int .i64 (c : Int))] (.lit (.int .i64 W))) (hyes : mayP L c p.1 i) (hca : 2 * (L.tsk i).weight ≤ IntKind.i64.wrap (p.2 - W)) (y : Nat) (hb : b = (y : Int)) (hy : y < L.tl.length) (q2 : ¬ (L.tsk y).weight < (L.tsk i).weight) (N : Nat → Fr → Heap → Prop) (Q : AQ) (hN : ∀ k1 fr1 H1, Mv k k1 fr1 H1 (k + 1) (ovr [0,1,3,4,5,6,7,8,9,10,11,12,13,14,19,25,26,27,40,48,49,50,51,116,120] [(50, .lit (.int .i64 ((i + 1 : Nat) : Int))), (10, .lit (.int .i64 (b)))] [(0, .ptr m 0 0), (3, .ptr k 0 0), (6, .lit (.int .i64 p.1)), (7, .lit (.int .i64 p.2)), (48, .sl tk 0 L.tl.length), (49, .lit (.int .i64 (L.tl.length : Int)))]) ((k, ⟨8, true, [opc o]⟩) :: MH m tk L) → N k1 fr1 H1) :
    AM.W Tryz.prog Γ 136 k (cat (bodyOf Tryz.f39) [0, 0, 1, 0, 1, 1, 1, 1, 1]) (thenQ N Q) (k + 1) (ovr [0,1,3,4,5,6,7,8,9,10,11,12,13,14,19,25,26,27,40,48,49,50,51,116,120] [(50, .lit (.int .i64 (i : Int))), (10, .lit (.int .i64 b))] [(0, .ptr m 0 0), (3, .ptr k 0 0), (6, .lit (.int .i64 p.1)), (7, .lit (.int .i64 p.2)), (48, .sl tk 0 L.tl.length), (49, .lit (.int .i64 (L.tl.length : Int)))]) ((k, ⟨8, true, [opc o]⟩) :: MH m tk L) := by
  have hnt := hS.nt
  have hcp := hS.cpus
  have hnu := hS.nu
  have hn1 := hS.n1
  have hn64 := hS.n64
  have hns := hS.ns
  have hneg : ((c : Int) < 0) = False := eq_false (by omega)
  have hO : opc o = [.lit (.int .u8 o.kind), .lit (.int .i64 (c : Int)), .lit (.int .i64 o.task), .lit (.int .i64 o.group), .lit (.int .i64 o.weight), .lit (.int .i64 o.to), .lit (.int .i64 o.ticks), .lit (.int .u64 o.mask)] := by rw [← hc]; rfl
  obtain ⟨NM, eNM⟩ : ∃ x, x = (MH m tk L).map (·.1) := ⟨_, rfl⟩
  have hNM : nub (NM.map (fun i => if k ≤ i then i - k + 1 else 0)) = [0] := by rw [eNM]; exact MH_names hm hk (fun i hi => if_neg (by omega))
  have hT := hS.tk i hi2
  have hTe := hT.e
  simp only [ent, decide_eq_true_eq] at hTe
  obtain ⟨d, hd⟩ : ∃ d : Nat, (L.tsk i).cpu = (d : Int) := ⟨(L.tsk i).cpu.toNat, by have := hT.c0; omega⟩
  have hdn : d < n := by have := hT.c1; omega
  have hmb : IntKind.u64.wrap ((BitVec.ofInt IntKind.u64.bits ((L.tsk i).mask.fdiv (2 ^ min c 64)) &&& BitVec.ofInt IntKind.u64.bits 1).toNat : Int) = (L.tsk i).mask / 2 ^ c % 2 := by
    have := mask_bit (x := (L.tsk i).mask) (c := (c : Int)) hT.m0 hT.m1 (by omega) (by omega)
    rwa [Int.toNat_natCast] at this
  have hmay : mayP L c p.1 i ↔ (L.tsk i).ready = true ∧ (d : Int) = p.1 ∧ (L.tsk i).mask / 2 ^ c % 2 = 1 ∧ L.cur d ≠ (L.tsk i).id := by unfold mayP; rw [hd, Int.toNat_natCast]
  have hw2 : IntKind.i64.wrap (2 * (L.tsk i).weight) = 2 * (L.tsk i).weight := wrap_i64 (by omega) (by omega)
  obtain ⟨V, eV⟩ : ∃ V, V = IntKind.i64.wrap (p.2 - W) := ⟨_, rfl⟩
  have eV2 := eV.symm
  have hcan : canP L p.2 W i b ↔ 2 * (L.tsk i).weight ≤ V ∧ (b < 0 ∨ (L.tsk b.toNat).weight < (L.tsk i).weight) := by unfold canP; rw [← eV]
  rw [hO] at hN ⊢
  simp only [MH, LH]
  try (simp -dsimp -implicitDefEqProofs (disch := omega) only [go_sem, nq0, eq_self, ↓reduceIte])
  obtain ⟨r1, r2, r3, r4⟩ := hmay.1 hyes
  rw [← eV] at hca
  subst hb
  have q1 : (2 * (L.tsk i).weight ≤ V) = True := eq_true hca
  have q3 : ((y : Int) < 0) = False := eq_false (by omega)
  have q4 : ((L.tsk y).weight < (L.tsk i).weight) = False := eq_false q2
  have r2b : ((d : Int) == p.1) = true := by rw [beq_iff_eq]; exact r2
  have r4b : (L.cur d != (L.tsk i).id) = true := by simp [r4]
  have kp : Kp [0,1,3,4,5,6,7,8,9,10,11,12,13,14,19,25,26,27,40,48,49,50,51,116,120] (fun i => if k ≤ i then i - k + 1 else 0) := kpI
  have uU := zA @hd (zA @hmb (zA @hneg (zA @hNM (zA @hw2 (zA @eV2 (zA @r1 (zA @r2b (zA @r3 (zA @r4b (zA @q1 (zA @q3 @q4)))))))))))
  refine wlL ?_; refine zq1 ⟨fun ht => ⟨⟨?_⟩⟩⟩
  refine dlL [.raw (some 95) ⟨.lit (.int .i64 W), k + 2, [], NM⟩] ?_; refine zq2 ⟨⟨⟨?_⟩⟩⟩ ⟨⟨⟨?_⟩⟩⟩
  all_goals (first | exact lend (loc := [(k + 1, ⟨8, true, _⟩), (k, ⟨8, true, _⟩)]) hm rfl (by kernel_rfl) rfl rfl rfl (fun x hx => by simp only [List.mem_cons, List.not_mem_nil, or_false] at hx; rcases hx with hx | hx <;> rw [hx] <;> simp only [] <;> omega) hwp eNM | skip)
  all_goals ((refine wlL ?_; refine zq1 ⟨fun ht => ⟨⟨?_⟩⟩⟩))
  all_goals (refine hN _ _ _ ?_)
  all_goals (try (simp only [MH, LH]))
  all_goals (try (simp -dsimp -implicitDefEqProofs (disch := omega) only [go_sem, nq0, hd, hmb, hneg, hNM, hw2, eV2, r1, r2b, r3, r4b, q1, q3, q4, eq_self, ↓reduceIte]))
  all_goals (exact wkD)
end Go.Proofs.T
end
section
namespace Go.Proofs.T
open Go Go.AM Go.Proofs
set_option maxRecDepth 20000
variable {Γ : List (Nat × List AVal)}
set_option maxHeartbeats 16000000 in
theorem balance (L : LSt) (n : Nat) (hS : Rt0 L n) (o : Opn) (m tk k : Nat) (hm : m + 6 + L.sl.length ≤ tk) (hk : tk < k) : OpOk Γ 39 L n o m tk k := by
  have hnt := hS.nt
  have hcp := hS.cpus
  have hnu := hS.nu
  have hn1 := hS.n1
  have hn64 := hS.n64
  have hns := hS.ns
  have hcpu := cpu L o.cpu m tk (k + 1) hm (by omega) (Γ := Γ)
  by_cases h1 : 0 ≤ o.cpu ∧ o.cpu < L.cpus
  rotate_left
  · rw [decide_eq_false h1] at hcpu
    refine ⟨L, 0, 300, tk, k, hS, ⟨Fwd.refl L, .inr rfl⟩, hm, ⟨hk, .inl rfl⟩, Nat.le_refl _, ?_⟩
    obtain ⟨RH, eRH⟩ : ∃ x : Heap, x = MH m tk L := ⟨_, rfl⟩; obtain ⟨RV, eRV⟩ : ∃ x : AVal, x = res2 (0) 300 := ⟨_, rfl⟩; refine Tr.mono (Tr_in (k := k) (V := RV) (RH := RH) (by omega) (by rw [eRV]; rfl) (by rw [eRH]; exact MH_lt (by omega) (by omega)) ?_) (fun _ _ _ h => ⟨h.1, h.2.1.trans eRV, h.2.2.trans eRH⟩)
    refine Tr_at Tryz.func39 rfl 136 rfl (Nat.le_of_ble_eq_true rfl) ?_
    simp only [MH, LH]
    have kp : Kp [0,1,3,4,5,6,7,8,9,10,11,12,13,14,19,25,26,27,40,48,49,50,51,116,120] (fun i => if k ≤ i then i - k + 1 else 0) := kpI
    refine wlL ?_; refine zq1 ⟨⟨⟨?_⟩⟩⟩
    refine clL [.far (.lit (.bool false)) (k + 1) [(k, ⟨8, true, [opc o]⟩)] (MH m tk L) (MH m tk L)] ?_; refine zq3 ⟨⟨⟨?_⟩⟩⟩ ⟨⟨⟨?_⟩⟩⟩ ⟨⟨⟨?_⟩⟩⟩
    · intro q; simp only [MH, LH, mrow, opc, List.cons_append, List.nil_append]
    · exact MH_apart (fun i hi => by simp only [AM.look]; repeat (rw [if_neg (by omega)])) rfl
    simp only [MH, LH]
    refine rRL ?_; apply zN
    refine wlL ?_; refine zq1 ⟨fun ht => ⟨⟨?_⟩⟩⟩
    have uU := Go.AM.uU; refine cRD ?_; apply zN
    refine ⟨?_, ?_⟩
    · rw [eRV]; rfl
    · rw [eRH]
      simp only [MH, LH]
      exact rRL hdT
  rw [decide_eq_true h1] at hcpu
  obtain ⟨c, hc⟩ : ∃ c : Nat, o.cpu = (c : Int) := ⟨o.cpu.toNat, by omega⟩
  rw [hc] at hcpu
  have hcn : c < n := by omega
  have hneg : ((c : Int) < 0) = False := eq_false (by omega)
  have hO : opc o = [.lit (.int .u8 o.kind), .lit (.int .i64 (c : Int)), .lit (.int .i64 o.task), .lit (.int .i64 o.group), .lit (.int .i64 o.weight), .lit (.int .i64 o.to), .lit (.int .i64 o.ticks), .lit (.int .u64 o.mask)] := by rw [← hc]; rfl
  obtain ⟨NM, eNM⟩ : ∃ x, x = (MH m tk L).map (·.1) := ⟨_, rfl⟩
  have hNM : nub (NM.map (fun i => if k ≤ i then i - k + 1 else 0)) = [0] := by rw [eNM]; exact MH_names hm hk (fun i hi => if_neg (by omega))
  have hwp := weightP L (c : Int) (by omega) (Γ := Γ)
  obtain ⟨W, eW⟩ : ∃ W, W = wtL L (c : Int) L.tl.length := ⟨_, rfl⟩
  rw [← eW] at hwp
  obtain ⟨fm, efm⟩ : ∃ fm, fm = fmN L c n := ⟨_, rfl⟩
  obtain ⟨B, eB⟩ : ∃ B, B = bsN L c fm.1 fm.2 W L.tl.length := ⟨_, rfl⟩
  have hBst : Bst L c B := by rw [eB]; exact bsN_ok (Nat.le_refl _)
  suffices hmain : ∀ (RV : AVal) (RH : Heap) (L' : LSt), L'.sl.length = L.sl.length → (B = -1 → RV = res2 0 6 ∧ RH = MH m tk L) → (∀ j : Nat, B = (j : Int) → j < L.tl.length ∧ RV = res2 (L.tsk j).id 0 ∧ RH = MH m tk L' ∧ Tr Tryz.prog Γ 83 (k + 1) [.ptr m 0 0, .lit (.int .i64 (j : Int)), .lit (.int .i64 (c : Int))] (MH m tk L) (fun k1 r1 H1 => k1 = k + 1 ∧ r1 = .tup [] ∧ H1 = MH m tk L')) → Tr Tryz.prog Γ 39 k [.ptr m 0 0, .agg (opc o)] (MH m tk L) (fun k1 r1 H1 => r1 = RV ∧ leH H1 RH) by
    rcases hBst with hb | ⟨j, hb, hj⟩
    · refine ⟨L, 0, 6, tk, k, hS, ⟨Fwd.refl L, .inr rfl⟩, hm, ⟨hk, .inl rfl⟩, Nat.le_refl _, ?_⟩
      obtain ⟨RH, eRH⟩ : ∃ x : Heap, x = MH m tk L := ⟨_, rfl⟩
      obtain ⟨RV, eRV⟩ : ∃ x : AVal, x = res2 0 6 := ⟨_, rfl⟩
      refine Tr.mono (Tr_in (kk := k) (V := RV) (RH := RH) (by omega) (by rw [eRV]; rfl) (by rw [eRH]; exact MH_lt (by omega) (by omega)) ?_) (fun _ _ _ h => ⟨h.1, h.2.1.trans eRV, h.2.2.trans eRH⟩)
      exact hmain RV RH L rfl (fun _ => ⟨eRV, eRH⟩) (fun j h => by omega)
    · obtain ⟨L', hL', hF', hmove⟩ := move L n hS j hj.1 c hcn hj.2.2.1 (cur_other hS hj.1 hj.2.2.2) m tk (k + 1) hm (by omega) (Γ := Γ)
      have hLs := hF'.ns
      refine ⟨L', (L.tsk j).id, 0, tk, k, hL', ⟨hF', .inl rfl⟩, hm, ⟨hk, .inl rfl⟩, Nat.le_refl _, ?_⟩
      obtain ⟨RH, eRH⟩ : ∃ x : Heap, x = MH m tk L' := ⟨_, rfl⟩
      obtain ⟨RV, eRV⟩ : ∃ x : AVal, x = res2 (L.tsk j).id 0 := ⟨_, rfl⟩
      refine Tr.mono (Tr_in (kk := k) (V := RV) (RH := RH) (by omega) (by rw [eRV]; rfl) (by rw [eRH]; exact MH_lt (by omega) (by omega)) ?_) (fun _ _ _ h => ⟨h.1, h.2.1.trans eRV, h.2.2.trans eRH⟩)
      exact hmain RV RH L' hLs (fun h => by omega) (fun q hq => by
        obtain rfl : q = j := by omega
        exact ⟨hj.1, eRV, eRH, hmove⟩)
  intro RV RH L' hL' hno hyes
  refine Tr_at Tryz.func39 rfl 136 rfl (Nat.le_of_ble_eq_true rfl) ?_
  simp only [MH, LH]
  have kp : Kp [0,1,3,4,5,6,7,8,9,10,11,12,13,14,19,25,26,27,40,48,49,50,51,116,120] (fun i => if k ≤ i then i - k + 1 else 0) := kpI
  have uU := @hc
  refine wlL ?_; refine zq1 ⟨⟨⟨?_⟩⟩⟩
  refine clL [.far (.lit (.bool true)) (k + 1) [(k, ⟨8, true, [opc o]⟩)] (MH m tk L) (MH m tk L)] ?_; refine zq3 ⟨⟨⟨?_⟩⟩⟩ ⟨⟨⟨?_⟩⟩⟩ ⟨⟨⟨?_⟩⟩⟩
  · intro q; simp only [MH, LH, mrow, opc, hc, List.cons_append, List.nil_append]
  · exact MH_apart (fun i hi => by simp only [AM.look]; repeat (rw [if_neg (by omega)])) rfl
  simp only [MH, LH]
  refine rRL ?_; apply zN
  refine wlL ?_; refine zq1 ⟨fun ht => ⟨⟨?_⟩⟩⟩
  refine M_forO (X := Nat) rfl [0,1,3,4,5,6,7,8,9,10,11,12,13,14,19,25,26,27,40,48,49,50,51,116,120] (k + 1) (fun j => [(26, .lit (.int .i64 (j : Int))), (6, .lit (.int .i64 (fmN L c j).1)), (7, .lit (.int .i64 (fmN L c j).2))]) (fun j => (k, ⟨8, true, [opc o]⟩) :: MH m tk L) (fun j => j ≤ n) (fun j => n - j) 0 ?_ (Nat.zero_le _) ?_
  · simp only [MH, LH]
    try simp only [opc, hc]
    rw [fmN]
    refine rRL ?_; apply zN
    exact wkD
  intro j hj
  obtain ⟨p, ep⟩ : ∃ p, p = fmN L c j := ⟨_, rfl⟩
  rw [← ep]
  simp only [MH, LH]
  try simp only [opc, hc]
  refine rRL ?_; apply zN
  by_cases hj2 : j < n
  · have hw := weight L (j : Int) m tk (k + 1) hm (by omega) (by omega) (Γ := Γ)
    obtain ⟨w, ew⟩ : ∃ w, w = wtL L (j : Int) L.tl.length := ⟨_, rfl⟩
    rw [← ew] at hw
    have hsu : fmN L c (j + 1) = if (j : Int) ≠ c ∧ p.2 < w then ((j : Int), w) else p := by rw [fmN, ← ep, ← ew]
    refine wlL ?_; refine zq1 ⟨fun ht => ⟨⟨?_⟩⟩⟩
    refine clL [.far (.lit (.int .i64 w)) (k + 1) [(k, ⟨8, true, [opc o]⟩)] (MH m tk L) (MH m tk L)] ?_; refine zq3 ⟨⟨⟨?_⟩⟩⟩ ⟨⟨⟨?_⟩⟩⟩ ⟨⟨⟨?_⟩⟩⟩
    · intro q; simp only [MH, LH, mrow, opc, hc, List.cons_append, List.nil_append]
    · exact MH_apart (fun i hi => by simp only [AM.look]; repeat (rw [if_neg (by omega)])) rfl
    simp only [MH, LH]
    refine rRL ?_; apply zN
    by_cases hq : (j : Int) ≠ c ∧ p.2 < w
    · rw [if_pos hq] at hsu
      refine wlL ?_; refine zq1 ⟨fun ht => ⟨fun hg => ⟨?_⟩⟩⟩
      refine ⟨j + 1, by omega, by omega, ?_⟩
      rw [hsu]
      simp only [MH, LH]
      try simp only [opc, hc]
      refine rRL ?_; apply zN
      exact wkD
    · rw [if_neg hq] at hsu
      refine wlL ?_; refine zq2 ⟨fun ht => ⟨fun hg => ⟨?_⟩⟩⟩ ⟨fun ht => ⟨fun hg => ⟨?_⟩⟩⟩
      all_goals (refine ⟨j + 1, by omega, by omega, ?_⟩)
      all_goals (rw [hsu])
      all_goals (try (simp only [MH, LH]))
      all_goals (try simp only [opc, hc])
      all_goals (try (simp -dsimp -implicitDefEqProofs (disch := omega) only [go_sem, nq0, hc, eq_self, ↓reduceIte]))
      all_goals (exact wkD)
  have hjn : j = n := by omega
  rw [hjn, ← efm] at ep
  subst ep
  refine wlL ?_; refine zq1 ⟨fun ht => ⟨⟨?_⟩⟩⟩
  refine W_mv (Mv.wk (fr1 := [(0, .ptr m 0 0), (3, .ptr k 0 0), (6, .lit (.int .i64 p.1)), (7, .lit (.int .i64 p.2)), (48, .sl tk 0 L.tl.length), (49, .lit (.int .i64 (L.tl.length : Int))), (50, .lit (.int .i64 0)), (10, .lit (.int .i64 (-1)))]) (k1 := k + 1) (H1 := (k, ⟨8, true, [opc o]⟩) :: MH m tk L) (wk_low (by omega) (by simp -dsimp -implicitDefEqProofs (disch := omega) only [go_sem, nq0, hc, List.map_append, eq_self, ↓reduceIte]) (by rw [hO]; simp only [MH, LH]; simp -dsimp -implicitDefEqProofs (disch := omega) only [go_sem, nq0, hc, List.map_append, eq_self, ↓reduceIte]) (by simp -dsimp -implicitDefEqProofs (disch := omega) only [go_sem, nq0, nq5, ltB_iff, List.map_append, eq_self, ↓reduceIte]) (by rw [hO]; simp only [MH, LH]; simp -dsimp -implicitDefEqProofs (disch := omega) only [go_sem, nq0, nq5, ltB_iff, List.map_append, eq_self, ↓reduceIte]))) ?_
  refine M_forO (X := Nat) rfl [0,1,3,4,5,6,7,8,9,10,11,12,13,14,19,25,26,27,40,48,49,50,51,116,120] (k + 1) (fun i => [(50, .lit (.int .i64 (i : Int))), (10, .lit (.int .i64 (bsN L c p.1 p.2 W i)))]) (fun i => (k, ⟨8, true, [opc o]⟩) :: MH m tk L) (fun i => i ≤ L.tl.length) (fun i => L.tl.length - i) 0 ?_ (Nat.zero_le _) ?_
  · rw [bsN, hO]
    simp only [MH, LH]
    try (simp -dsimp -implicitDefEqProofs (disch := omega) only [go_sem, nq0, hc, eq_self, ↓reduceIte])
    exact wkD
  intro i hi
  obtain ⟨b, eb⟩ : ∃ b, b = bsN L c p.1 p.2 W i := ⟨_, rfl⟩
  have hB : Bst L c b := by rw [eb]; exact bsN_ok hi
  rw [← eb]
  by_cases hi2 : i < L.tl.length
  · have hsu : bsN L c p.1 p.2 W (i + 1) = if mayP L c p.1 i ∧ canP L p.2 W i b then (i : Int) else b := by rw [bsN, ← eb]
    by_cases hmay : mayP L c p.1 i
    rotate_left
    · refine rndS L n hS o m tk k hm hk c hc hcn i hi2 p W b hwp hmay _ _ (fun k1 fr1 H1 h => ⟨i + 1, by omega, by omega, ?_⟩)
      rw [hsu, if_neg (fun h => hmay h.1)]
      exact h
    by_cases hca : 2 * (L.tsk i).weight ≤ IntKind.i64.wrap (p.2 - W)
    rotate_left
    · refine rndA L n hS o m tk k hm hk c hc hcn i hi2 p W b hwp hmay hca _ _ (fun k1 fr1 H1 h => ⟨i + 1, by omega, by omega, ?_⟩)
      rw [hsu, if_neg (fun h => hca h.2.1)]
      exact h
    rcases hB with hb | ⟨y, hb, hy⟩
    · refine rndB L n hS o m tk k hm hk c hc hcn i hi2 p W b hwp hmay hca hb _ _ (fun k1 fr1 H1 h => ⟨i + 1, by omega, by omega, ?_⟩)
      rw [hsu, if_pos ⟨hmay, hca, .inl (by omega)⟩]
      exact h
    · by_cases q2 : (L.tsk y).weight < (L.tsk i).weight
      · refine rndC L n hS o m tk k hm hk c hc hcn i hi2 p W b hwp hmay hca y hb hy.1 q2 _ _ (fun k1 fr1 H1 h => ⟨i + 1, by omega, by omega, ?_⟩)
        rw [hsu, if_pos ⟨hmay, hca, .inr (by rw [hb, Int.toNat_natCast]; exact q2)⟩]
        exact h
      · refine rndD L n hS o m tk k hm hk c hc hcn i hi2 p W b hwp hmay hca y hb hy.1 q2 _ _ (fun k1 fr1 H1 h => ⟨i + 1, by omega, by omega, ?_⟩)
        rw [hsu, if_neg (fun h => by
          have := h.2.2
          rw [hb, Int.toNat_natCast] at this
          omega)]
        exact h
  rw [hO]
  simp only [MH, LH]
  try (simp -dsimp -implicitDefEqProofs (disch := omega) only [go_sem, nq0, hc, eq_self, ↓reduceIte])
  have hil : i = L.tl.length := by omega
  rw [hil, ← eB] at eb
  subst eb
  rcases hB with hb | ⟨y, hb, hy⟩
  · obtain ⟨eRV, eRH⟩ := hno hb
    subst hb
    refine wlL ?_; refine zq1 ⟨fun ht ht => ⟨⟨?_⟩⟩⟩
    have uU := @hc; refine cRD ?_; apply zN
    refine ⟨?_, ?_⟩
    · rw [eRV]; rfl
    · rw [eRH]
      simp only [MH, LH]
      exact rRL hdT
  · obtain ⟨hy1, eRV, eRH, hmv⟩ := hyes y hb
    subst hb
    refine wlL ?_; refine zq1 ⟨fun ht ht => ⟨⟨?_⟩⟩⟩
    refine clL [.far (.tup []) (k + 1) [(k, ⟨8, true, [opc o]⟩)] (MH m tk L) (MH m tk L')] ?_; refine zq3 ⟨⟨⟨?_⟩⟩⟩ ⟨⟨⟨?_⟩⟩⟩ ⟨⟨⟨?_⟩⟩⟩
    · intro q; simp only [MH, LH, mrow, opc, hc, List.cons_append, List.nil_append]
    · exact MH_apart (fun i hi => by simp only [AM.look]; repeat (rw [if_neg (by omega)])) hL'
    simp only [MH, LH]
    refine rRL ?_; apply zN
    refine wlL ?_; refine zq1 ⟨⟨⟨?_⟩⟩⟩
    have uU := @hc; refine cRD ?_; apply zN
    refine ⟨?_, ?_⟩
    · rw [eRV]; rfl
    · rw [eRH]
      simp only [MH, LH]
      exact rRL hdT
end Go.Proofs.T
end
section
namespace Go.Proofs.T
open Go Go.AM Go.Proofs
set_option maxRecDepth 20000
variable {Γ : List (Nat × List AVal)}
structure OpnOk (o : Opn) : Prop where
  k1 : 1 ≤ o.kind
  k2 : o.kind ≤ 10
  m0 : 0 ≤ o.mask
  m1 : o.mask < 18446744073709551616
def opF (kd : Int) : FuncId := if kd = 1 then 31 else if kd = 2 then 32 else if kd = 3 then 33 else if kd = 4 then 33 else if kd = 5 then 34 else if kd = 6 then 35 else if kd = 7 then 36 else if kd = 8 then 37 else if kd = 9 then 38 else 39
theorem op_all (L : LSt) (n : Nat) (hS : Rt0 L n) (o : Opn) (hl : L.tl.length < 1000) (ho : OpnOk o) (m tk k : Nat) (hm : m + 6 + L.sl.length ≤ tk) (hk : tk < k) : OpOk Γ (opF o.kind) L n o m tk k := by
  unfold opF
  repeat' split
  · exact spawn L n hS o hl ⟨ho.m0, ho.m1⟩ m tk k hm hk
  · exact rouse L n hS o m tk k hm hk
  · exact leave L n hS o m tk k hm hk
  · exact leave L n hS o m tk k hm hk
  · exact tick L n hS o m tk k hm hk
  · exact pick L n hS o m tk k hm hk
  · exact reweight L n hS o m tk k hm hk
  · exact regroup L n hS o m tk k hm hk
  · exact migrate L n hS o m tk k hm hk
  · exact balance L n hS o m tk k hm hk
def stepR (m : Nat) : List (List AVal) := [[.bfn 31 m 0 0], [.bfn 32 m 0 0], [.bfn 33 m 0 0], [.bfn 33 m 0 0], [.bfn 34 m 0 0], [.bfn 35 m 0 0], [.bfn 36 m 0 0], [.bfn 37 m 0 0], [.bfn 38 m 0 0], [.bfn 39 m 0 0]]
theorem stepR_get {m : Nat} {kd : Int} (h1 : 1 ≤ kd) (h2 : kd ≤ 10) : (stepR m)[(kd - 1).toNat]? = some [.bfn (opF kd) m 0 0] := by
  obtain ⟨q, rfl⟩ : ∃ q : Nat, kd = (q : Int) + 1 := ⟨(kd - 1).toNat, by omega⟩
  have hq : q < 10 := by omega
  have e : ((q : Int) + 1 - 1).toNat = q := by omega
  rw [e]
  match q, hq with
  | 0, _ => rfl
  | 1, _ => rfl
  | 2, _ => rfl
  | 3, _ => rfl
  | 4, _ => rfl
  | 5, _ => rfl
  | 6, _ => rfl
  | 7, _ => rfl
  | 8, _ => rfl
  | 9, _ => rfl
  | q + 10, h => omega
theorem opF_call {kd : Int} : callable Tryz.prog (opF kd) = true := by
  unfold opF
  repeat' split
  all_goals (first | exact y13 | exact y14 | exact y15 | exact y16 | exact y17 | exact y18 | exact y19 | exact y20 | exact y21)
set_option maxHeartbeats 8000000 in
theorem mdo (L : LSt) (n : Nat) (hS : Rt L n) (o : Opn) (hl : L.tl.length < 1000) (ho : OpnOk o) (m tk k : Nat) (hm : m + 6 + L.sl.length ≤ tk) (hk : tk < k) :
    ∃ L' a e tk' k', Rt L' n ∧ Later L L' ∧ L'.tl.length ≤ L.tl.length + 1 ∧ m + 6 + L.sl.length ≤ tk' ∧ tk' < k' ∧ (tk' = tk ∨ k ≤ tk') ∧ k ≤ k' ∧
      Tr Tryz.prog Γ 14 k [.ptr m 0 0, .agg (opc o)] (MH m tk L) (fun k1 r1 H1 => k1 = k' ∧ r1 = res2 a e ∧ H1 = MH m tk' L') := by
  obtain ⟨M, a, e, tk', k', hM, ⟨hF, hU⟩, h1, ⟨h2, h2'⟩, h3, hT⟩ := op_all L n hS.r0 o hl ho m tk (k + 2) hm (by omega) (Γ := Γ)
  have hMl := hF.ns
  have hkd : IntKind.u8.wrap (o.kind - 1) = o.kind - 1 := wrap_u8 (by have := ho.k1; omega) (by have := ho.k2; omega)
  have hko := ho.k1
  have hk2 := ho.k2
  have hget := stepR_get (m := m) hko hk2
  obtain ⟨SR, eSR⟩ : ∃ x, x = stepR m := ⟨_, rfl⟩
  rw [← eSR] at hget
  have hSRl : SR.length = 10 := by rw [eSR]; rfl
  have hcal : callable Tryz.prog (opF o.kind) = true := opF_call
  simp only [opc, res2] at hT
  by_cases he : e = 0
  · obtain ⟨hR, hRf, hRF, hRt⟩ := riseL_ok hM
    have hrise := rise M n hM m tk' k' (by omega) h2 (Γ := Γ)
    have hRl := hRF.ns
    have hLat := hF.later.trans hRF.later
    refine ⟨riseL M n, a, 0, tk', k', ⟨hR, hRf, cfg_later hS.r0 hR hLat hS.cfg⟩, hLat, by rw [hRt]; exact hF.nt, h1, h2, by omega, by omega, ?_⟩
    subst he
    obtain ⟨RH, eRH⟩ : ∃ x : Heap, x = MH m tk' (riseL M n) := ⟨_, rfl⟩
    obtain ⟨RV, eRV⟩ : ∃ x : AVal, x = res2 a 0 := ⟨_, rfl⟩
    refine Tr.mono (Tr_in (kk := k') (V := RV) (RH := RH) (by omega) (by rw [eRV]; rfl) (by rw [eRH]; exact MH_lt (by omega) (by omega)) ?_) (fun _ _ _ h => ⟨h.1, h.2.1.trans eRV, h.2.2.trans eRH⟩)
    refine Tr_at Tryz.func14 rfl 67 rfl (Nat.le_of_ble_eq_true rfl) ?_
    simp only [MH, LH]
    have kp : Kp [0,1,3,4,5,6,7,8,17,49,62] (fun i => if k ≤ i then i - k + 1 else 0) := kpI
    have uU := @hkd
    refine wlL ?_; refine zq1 ⟨fun ht ht => ⟨fun hg => ⟨?_⟩⟩⟩
    rw [show ([[.bfn 31 m 0 0], [.bfn 32 m 0 0], [.bfn 33 m 0 0], [.bfn 33 m 0 0], [.bfn 34 m 0 0], [.bfn 35 m 0 0], [.bfn 36 m 0 0], [.bfn 37 m 0 0], [.bfn 38 m 0 0], [.bfn 39 m 0 0]] : List (List AVal)) = SR by rw [eSR]; rfl]
    refine S_drw rfl [0,1,3,4,5,6,7,8,17,49,62] [.far (.tup [.lit (.int .i64 a), .lit (.int .i64 0)]) k' [(k + 1, ⟨1, false, SR⟩), (k, ⟨8, true, [opc o]⟩)] (MH m tk L) (MH m tk' M)] (by kernel_rfl) rfl (fun K hK => ?_); simp -dsimp -implicitDefEqProofs (disch := omega) only [go_sem, nq0, hkd, hget, hSRl, hcal, eq_self, ↓reduceIte]; (repeat' (first | (refine And.intro ?_ ?_) | (refine gs_both (fun hb => ?_) (fun hb => ?_) <;> (have hg := hb; (try simp only [nfb] at hg); simp -dsimp -implicitDefEqProofs (disch := omega) only [go_sem, nq0, hkd, hget, hSRl, hcal, hb, hg, eq_self, ↓reduceIte]; clear hb; (try simp only [nfe] at hg))))); (all_goals (try omega))
    · intro q; simp only [MH, LH, mrow, opc, List.cons_append, List.nil_append]
    · exact MH_apart (fun i hi => by simp only [AM.look]; repeat (rw [if_neg (by omega)])) hMl
    refine hK _ _ _ _ (drawC (by simp only [List.map_cons, List.map_nil, shC, List.isEmpty_cons, List.isEmpty_nil, List.isEmpty_map, MH_ie, isEmpty_app, Bool.and_false]; rfl) (by decide +kernel) (by
      simp only [List.all_cons, List.all_nil, Bool.and_true, Bool.true_and]
      exact callOut_lt (MH_lt (by omega) (by omega)) (MH_lt (by omega) (by omega)))) (fun hx => ?_)
    clear hx hK
    simp only [MH, LH]
    have uU := zA @hkd (zA @hget (zA @hSRl @hcal))
    refine rRL ?_; apply zN
    refine wlL ?_; refine zq1 ⟨fun ht => ⟨⟨?_⟩⟩⟩
    refine clL [.far (.tup []) k' [(k + 1, ⟨1, false, SR⟩), (k, ⟨8, true, [opc o]⟩)] (MH m tk' M) (MH m tk' (riseL M n))] ?_; refine zq3 ⟨⟨⟨?_⟩⟩⟩ ⟨⟨⟨?_⟩⟩⟩ ⟨⟨⟨?_⟩⟩⟩
    · intro q; simp only [MH, LH, mrow, opc, List.cons_append, List.nil_append]
    · exact MH_apart (fun i hi => by simp only [AM.look]; repeat (rw [if_neg (by omega)])) hRl
    simp only [MH, LH]
    refine rRL ?_; apply zN
    refine wlL ?_; refine zq1 ⟨⟨⟨?_⟩⟩⟩
    have uU := zA @hkd (zA @hget (zA @hSRl @hcal)); refine cRD ?_; apply zN
    refine ⟨?_, ?_⟩
    · rw [eRV]; rfl
    · rw [eRH]
      simp only [MH, LH]
      exact rRL hdT
  · obtain rfl : M = L := hU.resolve_left he
    refine ⟨M, 0, e, tk', k', hS, Later.refl M, Nat.le_succ _, h1, h2, by omega, by omega, ?_⟩
    obtain ⟨RH, eRH⟩ : ∃ x : Heap, x = MH m tk' M := ⟨_, rfl⟩
    obtain ⟨RV, eRV⟩ : ∃ x : AVal, x = res2 0 e := ⟨_, rfl⟩
    refine Tr.mono (Tr_in (kk := k') (V := RV) (RH := RH) (by omega) (by rw [eRV]; rfl) (by rw [eRH]; exact MH_lt (by omega) (by omega)) ?_) (fun _ _ _ h => ⟨h.1, h.2.1.trans eRV, h.2.2.trans eRH⟩)
    refine Tr_at Tryz.func14 rfl 67 rfl (Nat.le_of_ble_eq_true rfl) ?_
    simp only [MH, LH]
    have kp : Kp [0,1,3,4,5,6,7,8,17,49,62] (fun i => if k ≤ i then i - k + 1 else 0) := kpI
    have uU := @hkd
    refine wlL ?_; refine zq1 ⟨fun ht ht => ⟨fun hg => ⟨?_⟩⟩⟩
    rw [show ([[.bfn 31 m 0 0], [.bfn 32 m 0 0], [.bfn 33 m 0 0], [.bfn 33 m 0 0], [.bfn 34 m 0 0], [.bfn 35 m 0 0], [.bfn 36 m 0 0], [.bfn 37 m 0 0], [.bfn 38 m 0 0], [.bfn 39 m 0 0]] : List (List AVal)) = SR by rw [eSR]; rfl]
    refine S_drw rfl [0,1,3,4,5,6,7,8,17,49,62] [.far (.tup [.lit (.int .i64 a), .lit (.int .i64 e)]) k' [(k + 1, ⟨1, false, SR⟩), (k, ⟨8, true, [opc o]⟩)] (MH m tk M) (MH m tk' M)] (by kernel_rfl) rfl (fun K hK => ?_); simp -dsimp -implicitDefEqProofs (disch := omega) only [go_sem, nq0, hkd, hget, hSRl, hcal, eq_self, ↓reduceIte]; (repeat' (first | (refine And.intro ?_ ?_) | (refine gs_both (fun hb => ?_) (fun hb => ?_) <;> (have hg := hb; (try simp only [nfb] at hg); simp -dsimp -implicitDefEqProofs (disch := omega) only [go_sem, nq0, hkd, hget, hSRl, hcal, hb, hg, eq_self, ↓reduceIte]; clear hb; (try simp only [nfe] at hg))))); (all_goals (try omega))
    · intro q; simp only [MH, LH, mrow, opc, List.cons_append, List.nil_append]
    · exact MH_apart (fun i hi => by simp only [AM.look]; repeat (rw [if_neg (by omega)])) hMl
    refine hK _ _ _ _ (drawC (by simp only [List.map_cons, List.map_nil, shC, List.isEmpty_cons, List.isEmpty_nil, List.isEmpty_map, MH_ie, isEmpty_app, Bool.and_false]; rfl) (by decide +kernel) (by
      simp only [List.all_cons, List.all_nil, Bool.and_true, Bool.true_and]
      exact callOut_lt (MH_lt (by omega) (by omega)) (MH_lt (by omega) (by omega)))) (fun hx => ?_)
    clear hx hK
    simp only [MH, LH]
    have uU := zA @hkd (zA @hget (zA @hSRl @hcal))
    refine rRL ?_; apply zN
    refine wlL ?_; refine zq1 ⟨fun ht => ⟨⟨?_⟩⟩⟩
    have uU := zA @hkd (zA @hget (zA @hSRl @hcal)); refine cRD ?_; apply zN
    refine ⟨?_, ?_⟩
    · rw [eRV]; rfl
    · rw [eRH]
      simp only [MH, LH]
      exact rRL hdT
end Go.Proofs.T
end
