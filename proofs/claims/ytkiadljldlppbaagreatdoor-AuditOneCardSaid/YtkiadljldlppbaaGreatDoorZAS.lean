import Derived.Test.YtkiadljldlppbaaGreatDoorZAR
import Derived.Test.YtkiadljldlppbaaGreatDoorRows
set_option linter.unusedVariables false
set_option linter.unusedSimpArgs false
section
namespace Go.Proofs.T
open Go Go.AM Go.Proofs
set_option maxRecDepth 20000
variable {Γ : List (Nat × List AVal)}
set_option maxHeartbeats 16000000 in
theorem rndD (L : LSt) (n : Nat) (hS : Rt0 L n) (o : Opn) (m tk k : Nat) (hm : m + 6 + L.sl.length ≤ tk) (hk : tk < k) (c : Nat) (hc : o.cpu = (c : Int)) (hcn : c < n) (i : Nat) (hi2 : i < L.tl.length) (p : Int × Int) (W b : Int) (hwp : AM.Pure Tryz.prog Γ 84 [.rp (mcL L), .lit (.int .i64 (c : Int))] (.lit (.int .i64 W))) (hyes : mayP L c p.1 i) (hca : 2 * (L.tsk i).weight ≤ IntKind.i64.wrap (p.2 - W)) (y : Nat) (hb : b = (y : Int)) (hy : y < L.tl.length) (q2 : ¬ (L.tsk y).weight < (L.tsk i).weight) (N : Nat → Fr → Heap → Prop) (Q : AQ) (hN : ∀ k1 fr1 H1, Mv k k1 fr1 H1 (k + 1) (ovr [0,1,3,4,5,6,7,8,9,10,11,12,13,14,19,25,26,27,40,48,49,50,51,116,120] [(50, .lit (.int .i64 ((i + 1 : Nat) : Int))), (10, .lit (.int .i64 (b)))] [(0, .ptr m 0 0), (3, .ptr k 0 0), (6, .lit (.int .i64 p.1)), (7, .lit (.int .i64 p.2)), (48, .sl tk 0 L.tl.length), (49, .lit (.int .i64 (L.tl.length : Int)))]) ((k, ⟨8, true, [opc o]⟩) :: MH m tk L) → N k1 fr1 H1) :
    AM.W Tryz.prog Γ 136 k (cat (bodyOf Tryz.f39) [0, 0, 1, 0, 1, 1, 1, 1, 1]) (thenQ N Q) (k + 1) (ovr [0,1,3,4,5,6,7,8,9,10,11,12,13,14,19,25,26,27,40,48,49,50,51,116,120] [(50, .lit (.int .i64 (i : Int))), (10, .lit (.int .i64 b))] [(0, .ptr m 0 0), (3, .ptr k 0 0), (6, .lit (.int .i64 p.1)), (7, .lit (.int .i64 p.2)), (48, .sl tk 0 L.tl.length), (49, .lit (.int .i64 (L.tl.length : Int)))]) ((k, ⟨8, true, [opc o]⟩) :: MH m tk L) := by
  have hnt := hS.nt
  have hcp := hS.cpus
  have hnu := hS.nu
  have hn1 := hS.n1
  have hn64 := hS.n64
  have hns := hS.ns
  have hneg : ((c : Int) < 0) = False := eq_false (by omega)
  have hO : opc o = [.lit (.int .u8 o.kind), .lit (.int .i64 (c : Int)), .lit (.int .i64 o.task), .lit (.int .i64 o.group), .lit (.int .i64 o.weight), .lit (.int .i64 o.to), .lit (.int .i64 o.ticks), .lit (.int .u64 o.mask)] := by rw [← hc]; rfl
  obtain ⟨NM, eNM⟩ : ∃ x, x = (MH m tk L).map (·.1) := ⟨_, rfl⟩
  have hNM : nub (NM.map (fun i => if k ≤ i then i - k + 1 else 0)) = [0] := by rw [eNM]; exact MH_names hm hk (fun i hi => if_neg (by omega))
  have hT := hS.tk i hi2
  have hTe := hT.e
  simp only [ent, decide_eq_true_eq] at hTe
  obtain ⟨d, hd⟩ : ∃ d : Nat, (L.tsk i).cpu = (d : Int) := ⟨(L.tsk i).cpu.toNat, by have := hT.c0; omega⟩
  have hdn : d < n := by have := hT.c1; omega
  have hmb : IntKind.u64.wrap ((BitVec.ofInt IntKind.u64.bits ((L.tsk i).mask.fdiv (2 ^ min c 64)) &&& BitVec.ofInt IntKind.u64.bits 1).toNat : Int) = (L.tsk i).mask / 2 ^ c % 2 := by
    have := mask_bit (x := (L.tsk i).mask) (c := (c : Int)) hT.m0 hT.m1 (by omega) (by omega)
    rwa [Int.toNat_natCast] at this
  have hmay : mayP L c p.1 i ↔ (L.tsk i).ready = true ∧ (d : Int) = p.1 ∧ (L.tsk i).mask / 2 ^ c % 2 = 1 ∧ L.cur d ≠ (L.tsk i).id := by unfold mayP; rw [hd, Int.toNat_natCast]
  have hw2 : IntKind.i64.wrap (2 * (L.tsk i).weight) = 2 * (L.tsk i).weight := wrap_i64 (by omega) (by omega)
  obtain ⟨V, eV⟩ : ∃ V, V = IntKind.i64.wrap (p.2 - W) := ⟨_, rfl⟩
  have eV2 := eV.symm
  have hcan : canP L p.2 W i b ↔ 2 * (L.tsk i).weight ≤ V ∧ (b < 0 ∨ (L.tsk b.toNat).weight < (L.tsk i).weight) := by unfold canP; rw [← eV]
  rw [hO] at hN ⊢
  simp only [MH, LH]
  try (simp -dsimp -implicitDefEqProofs (disch := omega) only [go_sem, nq0, eq_self, ↓reduceIte])
  obtain ⟨r1, r2, r3, r4⟩ := hmay.1 hyes
  rw [← eV] at hca
  subst hb
  have q1 : (2 * (L.tsk i).weight ≤ V) = True := eq_true hca
  have q3 : ((y : Int) < 0) = False := eq_false (by omega)
  have q4 : ((L.tsk y).weight < (L.tsk i).weight) = False := eq_false q2
  have r2b : ((d : Int) == p.1) = true := by rw [beq_iff_eq]; exact r2
  have r4b : (L.cur d != (L.tsk i).id) = true := by simp [r4]
  have kp : Kp [0,1,3,4,5,6,7,8,9,10,11,12,13,14,19,25,26,27,40,48,49,50,51,116,120] (fun i => if k ≤ i then i - k + 1 else 0) := kpI
  have uU := zA @hd (zA @hmb (zA @hneg (zA @hNM (zA @hw2 (zA @eV2 (zA @r1 (zA @r2b (zA @r3 (zA @r4b (zA @q1 (zA @q3 @q4)))))))))))
  refine wlL ?_; refine zq1 ⟨fun ht => ⟨⟨?_⟩⟩⟩
  refine dlL [.raw (some 95) ⟨.lit (.int .i64 W), k + 2, [], NM⟩] ?_; refine zq2 ⟨⟨⟨?_⟩⟩⟩ ⟨⟨⟨?_⟩⟩⟩
  all_goals (first | exact lend (loc := [(k + 1, ⟨8, true, _⟩), (k, ⟨8, true, _⟩)]) hm rfl (by kernel_rfl) rfl rfl rfl (fun x hx => by simp only [List.mem_cons, List.not_mem_nil, or_false] at hx; rcases hx with hx | hx <;> rw [hx] <;> simp only [] <;> omega) hwp eNM | skip)
  all_goals ((refine wlL ?_; refine zq1 ⟨fun ht => ⟨⟨?_⟩⟩⟩))
  all_goals (refine hN _ _ _ ?_)
  all_goals (try (simp only [MH, LH]))
  all_goals (try (simp -dsimp -implicitDefEqProofs (disch := omega) only [go_sem, nq0, hd, hmb, hneg, hNM, hw2, eV2, r1, r2b, r3, r4b, q1, q3, q4, eq_self, ↓reduceIte]))
  all_goals (exact wkD)
end Go.Proofs.T
end
section
namespace Go.Proofs.T
open Go Go.AM Go.Proofs
set_option maxRecDepth 20000
variable {Γ : List (Nat × List AVal)}
set_option maxHeartbeats 16000000 in
theorem balance (L : LSt) (n : Nat) (hS : Rt0 L n) (o : Opn) (m tk k : Nat) (hm : m + 6 + L.sl.length ≤ tk) (hk : tk < k) : OpOk Γ 39 L n o m tk k := by
  have hnt := hS.nt
  have hcp := hS.cpus
  have hnu := hS.nu
  have hn1 := hS.n1
  have hn64 := hS.n64
  have hns := hS.ns
  have hcpu := cpu L o.cpu m tk (k + 1) hm (by omega) (Γ := Γ)
  by_cases h1 : 0 ≤ o.cpu ∧ o.cpu < L.cpus
  rotate_left
  · rw [decide_eq_false h1] at hcpu
    refine ⟨L, 0, 300, tk, k, hS, ⟨Fwd.refl L, .inr rfl⟩, hm, ⟨hk, .inl rfl⟩, Nat.le_refl _, ?_⟩
    obtain ⟨RH, eRH⟩ : ∃ x : Heap, x = MH m tk L := ⟨_, rfl⟩; obtain ⟨RV, eRV⟩ : ∃ x : AVal, x = res2 (0) 300 := ⟨_, rfl⟩; refine Tr.mono (Tr_in (k := k) (V := RV) (RH := RH) (by omega) (by rw [eRV]; rfl) (by rw [eRH]; exact MH_lt (by omega) (by omega)) ?_) (fun _ _ _ h => ⟨h.1, h.2.1.trans eRV, h.2.2.trans eRH⟩)
    refine Tr_at Tryz.func39 rfl 136 rfl (Nat.le_of_ble_eq_true rfl) ?_
    simp only [MH, LH]
    have kp : Kp [0,1,3,4,5,6,7,8,9,10,11,12,13,14,19,25,26,27,40,48,49,50,51,116,120] (fun i => if k ≤ i then i - k + 1 else 0) := kpI
    refine wlL ?_; refine zq1 ⟨⟨⟨?_⟩⟩⟩
    refine clL [.far (.lit (.bool false)) (k + 1) [(k, ⟨8, true, [opc o]⟩)] (MH m tk L) (MH m tk L)] ?_; refine zq3 ⟨⟨⟨?_⟩⟩⟩ ⟨⟨⟨?_⟩⟩⟩ ⟨⟨⟨?_⟩⟩⟩
    · intro q; simp only [MH, LH, mrow, opc, List.cons_append, List.nil_append]
    · exact MH_apart (fun i hi => by simp only [AM.look]; repeat (rw [if_neg (by omega)])) rfl
    simp only [MH, LH]
    refine rRL ?_; apply zN
    refine wlL ?_; refine zq1 ⟨fun ht => ⟨⟨?_⟩⟩⟩
    have uU := Go.AM.uU; refine cRD ?_; apply zN
    refine ⟨?_, ?_⟩
    · rw [eRV]; rfl
    · rw [eRH]
      simp only [MH, LH]
      exact rRL hdT
  rw [decide_eq_true h1] at hcpu
  obtain ⟨c, hc⟩ : ∃ c : Nat, o.cpu = (c : Int) := ⟨o.cpu.toNat, by omega⟩
  rw [hc] at hcpu
  have hcn : c < n := by omega
  have hneg : ((c : Int) < 0) = False := eq_false (by omega)
  have hO : opc o = [.lit (.int .u8 o.kind), .lit (.int .i64 (c : Int)), .lit (.int .i64 o.task), .lit (.int .i64 o.group), .lit (.int .i64 o.weight), .lit (.int .i64 o.to), .lit (.int .i64 o.ticks), .lit (.int .u64 o.mask)] := by rw [← hc]; rfl
  obtain ⟨NM, eNM⟩ : ∃ x, x = (MH m tk L).map (·.1) := ⟨_, rfl⟩
  have hNM : nub (NM.map (fun i => if k ≤ i then i - k + 1 else 0)) = [0] := by rw [eNM]; exact MH_names hm hk (fun i hi => if_neg (by omega))
  have hwp := weightP L (c : Int) (by omega) (Γ := Γ)
  obtain ⟨W, eW⟩ : ∃ W, W = wtL L (c : Int) L.tl.length := ⟨_, rfl⟩
  rw [← eW] at hwp
  obtain ⟨fm, efm⟩ : ∃ fm, fm = fmN L c n := ⟨_, rfl⟩
  obtain ⟨B, eB⟩ : ∃ B, B = bsN L c fm.1 fm.2 W L.tl.length := ⟨_, rfl⟩
  have hBst : Bst L c B := by rw [eB]; exact bsN_ok (Nat.le_refl _)
  suffices hmain : ∀ (RV : AVal) (RH : Heap) (L' : LSt), L'.sl.length = L.sl.length → (B = -1 → RV = res2 0 6 ∧ RH = MH m tk L) → (∀ j : Nat, B = (j : Int) → j < L.tl.length ∧ RV = res2 (L.tsk j).id 0 ∧ RH = MH m tk L' ∧ Tr Tryz.prog Γ 83 (k + 1) [.ptr m 0 0, .lit (.int .i64 (j : Int)), .lit (.int .i64 (c : Int))] (MH m tk L) (fun k1 r1 H1 => k1 = k + 1 ∧ r1 = .tup [] ∧ H1 = MH m tk L')) → Tr Tryz.prog Γ 39 k [.ptr m 0 0, .agg (opc o)] (MH m tk L) (fun k1 r1 H1 => r1 = RV ∧ leH H1 RH) by
    rcases hBst with hb | ⟨j, hb, hj⟩
    · refine ⟨L, 0, 6, tk, k, hS, ⟨Fwd.refl L, .inr rfl⟩, hm, ⟨hk, .inl rfl⟩, Nat.le_refl _, ?_⟩
      obtain ⟨RH, eRH⟩ : ∃ x : Heap, x = MH m tk L := ⟨_, rfl⟩
      obtain ⟨RV, eRV⟩ : ∃ x : AVal, x = res2 0 6 := ⟨_, rfl⟩
      refine Tr.mono (Tr_in (kk := k) (V := RV) (RH := RH) (by omega) (by rw [eRV]; rfl) (by rw [eRH]; exact MH_lt (by omega) (by omega)) ?_) (fun _ _ _ h => ⟨h.1, h.2.1.trans eRV, h.2.2.trans eRH⟩)
      exact hmain RV RH L rfl (fun _ => ⟨eRV, eRH⟩) (fun j h => by omega)
    · obtain ⟨L', hL', hF', hmove⟩ := move L n hS j hj.1 c hcn hj.2.2.1 (cur_other hS hj.1 hj.2.2.2) m tk (k + 1) hm (by omega) (Γ := Γ)
      have hLs := hF'.ns
      refine ⟨L', (L.tsk j).id, 0, tk, k, hL', ⟨hF', .inl rfl⟩, hm, ⟨hk, .inl rfl⟩, Nat.le_refl _, ?_⟩
      obtain ⟨RH, eRH⟩ : ∃ x : Heap, x = MH m tk L' := ⟨_, rfl⟩
      obtain ⟨RV, eRV⟩ : ∃ x : AVal, x = res2 (L.tsk j).id 0 := ⟨_, rfl⟩
      refine Tr.mono (Tr_in (kk := k) (V := RV) (RH := RH) (by omega) (by rw [eRV]; rfl) (by rw [eRH]; exact MH_lt (by omega) (by omega)) ?_) (fun _ _ _ h => ⟨h.1, h.2.1.trans eRV, h.2.2.trans eRH⟩)
      exact hmain RV RH L' hLs (fun h => by omega) (fun q hq => by
        obtain rfl : q = j := by omega
        exact ⟨hj.1, eRV, eRH, hmove⟩)
  intro RV RH L' hL' hno hyes
  refine Tr_at Tryz.func39 rfl 136 rfl (Nat.le_of_ble_eq_true rfl) ?_
  simp only [MH, LH]
  have kp : Kp [0,1,3,4,5,6,7,8,9,10,11,12,13,14,19,25,26,27,40,48,49,50,51,116,120] (fun i => if k ≤ i then i - k + 1 else 0) := kpI
  have uU := @hc
  refine wlL ?_; refine zq1 ⟨⟨⟨?_⟩⟩⟩
  refine clL [.far (.lit (.bool true)) (k + 1) [(k, ⟨8, true, [opc o]⟩)] (MH m tk L) (MH m tk L)] ?_; refine zq3 ⟨⟨⟨?_⟩⟩⟩ ⟨⟨⟨?_⟩⟩⟩ ⟨⟨⟨?_⟩⟩⟩
  · intro q; simp only [MH, LH, mrow, opc, hc, List.cons_append, List.nil_append]
  · exact MH_apart (fun i hi => by simp only [AM.look]; repeat (rw [if_neg (by omega)])) rfl
  simp only [MH, LH]
  refine rRL ?_; apply zN
  refine wlL ?_; refine zq1 ⟨fun ht => ⟨⟨?_⟩⟩⟩
  refine M_forO (X := Nat) rfl [0,1,3,4,5,6,7,8,9,10,11,12,13,14,19,25,26,27,40,48,49,50,51,116,120] (k + 1) (fun j => [(26, .lit (.int .i64 (j : Int))), (6, .lit (.int .i64 (fmN L c j).1)), (7, .lit (.int .i64 (fmN L c j).2))]) (fun j => (k, ⟨8, true, [opc o]⟩) :: MH m tk L) (fun j => j ≤ n) (fun j => n - j) 0 ?_ (Nat.zero_le _) ?_
  · simp only [MH, LH]
    try simp only [opc, hc]
    rw [fmN]
    refine rRL ?_; apply zN
    exact wkD
  intro j hj
  obtain ⟨p, ep⟩ : ∃ p, p = fmN L c j := ⟨_, rfl⟩
  rw [← ep]
  simp only [MH, LH]
  try simp only [opc, hc]
  refine rRL ?_; apply zN
  by_cases hj2 : j < n
  · have hw := weight L (j : Int) m tk (k + 1) hm (by omega) (by omega) (Γ := Γ)
    obtain ⟨w, ew⟩ : ∃ w, w = wtL L (j : Int) L.tl.length := ⟨_, rfl⟩
    rw [← ew] at hw
    have hsu : fmN L c (j + 1) = if (j : Int) ≠ c ∧ p.2 < w then ((j : Int), w) else p := by rw [fmN, ← ep, ← ew]
    refine wlL ?_; refine zq1 ⟨fun ht => ⟨⟨?_⟩⟩⟩
    refine clL [.far (.lit (.int .i64 w)) (k + 1) [(k, ⟨8, true, [opc o]⟩)] (MH m tk L) (MH m tk L)] ?_; refine zq3 ⟨⟨⟨?_⟩⟩⟩ ⟨⟨⟨?_⟩⟩⟩ ⟨⟨⟨?_⟩⟩⟩
    · intro q; simp only [MH, LH, mrow, opc, hc, List.cons_append, List.nil_append]
    · exact MH_apart (fun i hi => by simp only [AM.look]; repeat (rw [if_neg (by omega)])) rfl
    simp only [MH, LH]
    refine rRL ?_; apply zN
    by_cases hq : (j : Int) ≠ c ∧ p.2 < w
    · rw [if_pos hq] at hsu
      refine wlL ?_; refine zq1 ⟨fun ht => ⟨fun hg => ⟨?_⟩⟩⟩
      refine ⟨j + 1, by omega, by omega, ?_⟩
      rw [hsu]
      simp only [MH, LH]
      try simp only [opc, hc]
      refine rRL ?_; apply zN
      exact wkD
    · rw [if_neg hq] at hsu
      refine wlL ?_; refine zq2 ⟨fun ht => ⟨fun hg => ⟨?_⟩⟩⟩ ⟨fun ht => ⟨fun hg => ⟨?_⟩⟩⟩
      all_goals (refine ⟨j + 1, by omega, by omega, ?_⟩)
      all_goals (rw [hsu])
      all_goals (try (simp only [MH, LH]))
      all_goals (try simp only [opc, hc])
      all_goals (try (simp -dsimp -implicitDefEqProofs (disch := omega) only [go_sem, nq0, hc, eq_self, ↓reduceIte]))
      all_goals (exact wkD)
  have hjn : j = n := by omega
  rw [hjn, ← efm] at ep
  subst ep
  refine wlL ?_; refine zq1 ⟨fun ht => ⟨⟨?_⟩⟩⟩
  refine W_mv (Mv.wk (fr1 := [(0, .ptr m 0 0), (3, .ptr k 0 0), (6, .lit (.int .i64 p.1)), (7, .lit (.int .i64 p.2)), (48, .sl tk 0 L.tl.length), (49, .lit (.int .i64 (L.tl.length : Int))), (50, .lit (.int .i64 0)), (10, .lit (.int .i64 (-1)))]) (k1 := k + 1) (H1 := (k, ⟨8, true, [opc o]⟩) :: MH m tk L) (wk_low (by omega) (by simp -dsimp -implicitDefEqProofs (disch := omega) only [go_sem, nq0, hc, List.map_append, eq_self, ↓reduceIte]) (by rw [hO]; simp only [MH, LH]; simp -dsimp -implicitDefEqProofs (disch := omega) only [go_sem, nq0, hc, List.map_append, eq_self, ↓reduceIte]) (by simp -dsimp -implicitDefEqProofs (disch := omega) only [go_sem, nq0, nq5, ltB_iff, List.map_append, eq_self, ↓reduceIte]) (by rw [hO]; simp only [MH, LH]; simp -dsimp -implicitDefEqProofs (disch := omega) only [go_sem, nq0, nq5, ltB_iff, List.map_append, eq_self, ↓reduceIte]))) ?_
  refine M_forO (X := Nat) rfl [0,1,3,4,5,6,7,8,9,10,11,12,13,14,19,25,26,27,40,48,49,50,51,116,120] (k + 1) (fun i => [(50, .lit (.int .i64 (i : Int))), (10, .lit (.int .i64 (bsN L c p.1 p.2 W i)))]) (fun i => (k, ⟨8, true, [opc o]⟩) :: MH m tk L) (fun i => i ≤ L.tl.length) (fun i => L.tl.length - i) 0 ?_ (Nat.zero_le _) ?_
  · rw [bsN, hO]
    simp only [MH, LH]
    try (simp -dsimp -implicitDefEqProofs (disch := omega) only [go_sem, nq0, hc, eq_self, ↓reduceIte])
    exact wkD
  intro i hi
  obtain ⟨b, eb⟩ : ∃ b, b = bsN L c p.1 p.2 W i := ⟨_, rfl⟩
  have hB : Bst L c b := by rw [eb]; exact bsN_ok hi
  rw [← eb]
  by_cases hi2 : i < L.tl.length
  · have hsu : bsN L c p.1 p.2 W (i + 1) = if mayP L c p.1 i ∧ canP L p.2 W i b then (i : Int) else b := by rw [bsN, ← eb]
    by_cases hmay : mayP L c p.1 i
    rotate_left
    · refine rndS L n hS o m tk k hm hk c hc hcn i hi2 p W b hwp hmay _ _ (fun k1 fr1 H1 h => ⟨i + 1, by omega, by omega, ?_⟩)
      rw [hsu, if_neg (fun h => hmay h.1)]
      exact h
    by_cases hca : 2 * (L.tsk i).weight ≤ IntKind.i64.wrap (p.2 - W)
    rotate_left
    · refine rndA L n hS o m tk k hm hk c hc hcn i hi2 p W b hwp hmay hca _ _ (fun k1 fr1 H1 h => ⟨i + 1, by omega, by omega, ?_⟩)
      rw [hsu, if_neg (fun h => hca h.2.1)]
      exact h
    rcases hB with hb | ⟨y, hb, hy⟩
    · refine rndB L n hS o m tk k hm hk c hc hcn i hi2 p W b hwp hmay hca hb _ _ (fun k1 fr1 H1 h => ⟨i + 1, by omega, by omega, ?_⟩)
      rw [hsu, if_pos ⟨hmay, hca, .inl (by omega)⟩]
      exact h
    · by_cases q2 : (L.tsk y).weight < (L.tsk i).weight
      · refine rndC L n hS o m tk k hm hk c hc hcn i hi2 p W b hwp hmay hca y hb hy.1 q2 _ _ (fun k1 fr1 H1 h => ⟨i + 1, by omega, by omega, ?_⟩)
        rw [hsu, if_pos ⟨hmay, hca, .inr (by rw [hb, Int.toNat_natCast]; exact q2)⟩]
        exact h
      · refine rndD L n hS o m tk k hm hk c hc hcn i hi2 p W b hwp hmay hca y hb hy.1 q2 _ _ (fun k1 fr1 H1 h => ⟨i + 1, by omega, by omega, ?_⟩)
        rw [hsu, if_neg (fun h => by
          have := h.2.2
          rw [hb, Int.toNat_natCast] at this
          omega)]
        exact h
  rw [hO]
  simp only [MH, LH]
  try (simp -dsimp -implicitDefEqProofs (disch := omega) only [go_sem, nq0, hc, eq_self, ↓reduceIte])
  have hil : i = L.tl.length := by omega
  rw [hil, ← eB] at eb
  subst eb
  rcases hB with hb | ⟨y, hb, hy⟩
  · obtain ⟨eRV, eRH⟩ := hno hb
    subst hb
    refine wlL ?_; refine zq1 ⟨fun ht ht => ⟨⟨?_⟩⟩⟩
    have uU := @hc; refine cRD ?_; apply zN
    refine ⟨?_, ?_⟩
    · rw [eRV]; rfl
    · rw [eRH]
      simp only [MH, LH]
      exact rRL hdT
  · obtain ⟨hy1, eRV, eRH, hmv⟩ := hyes y hb
    subst hb
    refine wlL ?_; refine zq1 ⟨fun ht ht => ⟨⟨?_⟩⟩⟩
    refine clL [.far (.tup []) (k + 1) [(k, ⟨8, true, [opc o]⟩)] (MH m tk L) (MH m tk L')] ?_; refine zq3 ⟨⟨⟨?_⟩⟩⟩ ⟨⟨⟨?_⟩⟩⟩ ⟨⟨⟨?_⟩⟩⟩
    · intro q; simp only [MH, LH, mrow, opc, hc, List.cons_append, List.nil_append]
    · exact MH_apart (fun i hi => by simp only [AM.look]; repeat (rw [if_neg (by omega)])) hL'
    simp only [MH, LH]
    refine rRL ?_; apply zN
    refine wlL ?_; refine zq1 ⟨⟨⟨?_⟩⟩⟩
    have uU := @hc; refine cRD ?_; apply zN
    refine ⟨?_, ?_⟩
    · rw [eRV]; rfl
    · rw [eRH]
      simp only [MH, LH]
      exact rRL hdT
end Go.Proofs.T
end
section
namespace Go.Proofs.T
open Go Go.AM Go.Proofs
set_option maxRecDepth 20000
variable {Γ : List (Nat × List AVal)}
structure OpnOk (o : Opn) : Prop where
  k1 : 1 ≤ o.kind
  k2 : o.kind ≤ 10
  m0 : 0 ≤ o.mask
  m1 : o.mask < 18446744073709551616
def opF (kd : Int) : FuncId := if kd = 1 then 31 else if kd = 2 then 32 else if kd = 3 then 33 else if kd = 4 then 33 else if kd = 5 then 34 else if kd = 6 then 35 else if kd = 7 then 36 else if kd = 8 then 37 else if kd = 9 then 38 else 39
theorem op_all (L : LSt) (n : Nat) (hS : Rt0 L n) (o : Opn) (hl : L.tl.length < 1000) (ho : OpnOk o) (m tk k : Nat) (hm : m + 6 + L.sl.length ≤ tk) (hk : tk < k) : OpOk Γ (opF o.kind) L n o m tk k := by
  unfold opF
  repeat' split
  · exact spawn L n hS o hl ⟨ho.m0, ho.m1⟩ m tk k hm hk
  · exact rouse L n hS o m tk k hm hk
  · exact leave L n hS o m tk k hm hk
  · exact leave L n hS o m tk k hm hk
  · exact tick L n hS o m tk k hm hk
  · exact pick L n hS o m tk k hm hk
  · exact reweight L n hS o m tk k hm hk
  · exact regroup L n hS o m tk k hm hk
  · exact migrate L n hS o m tk k hm hk
  · exact balance L n hS o m tk k hm hk
def stepR (m : Nat) : List (List AVal) := [[.bfn 31 m 0 0], [.bfn 32 m 0 0], [.bfn 33 m 0 0], [.bfn 33 m 0 0], [.bfn 34 m 0 0], [.bfn 35 m 0 0], [.bfn 36 m 0 0], [.bfn 37 m 0 0], [.bfn 38 m 0 0], [.bfn 39 m 0 0]]
theorem stepR_get {m : Nat} {kd : Int} (h1 : 1 ≤ kd) (h2 : kd ≤ 10) : (stepR m)[(kd - 1).toNat]? = some [.bfn (opF kd) m 0 0] := by
  obtain ⟨q, rfl⟩ : ∃ q : Nat, kd = (q : Int) + 1 := ⟨(kd - 1).toNat, by omega⟩
  have hq : q < 10 := by omega
  have e : ((q : Int) + 1 - 1).toNat = q := by omega
  rw [e]
  match q, hq with
  | 0, _ => rfl
  | 1, _ => rfl
  | 2, _ => rfl
  | 3, _ => rfl
  | 4, _ => rfl
  | 5, _ => rfl
  | 6, _ => rfl
  | 7, _ => rfl
  | 8, _ => rfl
  | 9, _ => rfl
  | q + 10, h => omega
theorem opF_call {kd : Int} : callable Tryz.prog (opF kd) = true := by
  unfold opF
  repeat' split
  all_goals (first | exact y13 | exact y14 | exact y15 | exact y16 | exact y17 | exact y18 | exact y19 | exact y20 | exact y21)
set_option maxHeartbeats 8000000 in
theorem mdo (L : LSt) (n : Nat) (hS : Rt L n) (o : Opn) (hl : L.tl.length < 1000) (ho : OpnOk o) (m tk k : Nat) (hm : m + 6 + L.sl.length ≤ tk) (hk : tk < k) :
    ∃ L' a e tk' k', Rt L' n ∧ Later L L' ∧ L'.tl.length ≤ L.tl.length + 1 ∧ m + 6 + L.sl.length ≤ tk' ∧ tk' < k' ∧ (tk' = tk ∨ k ≤ tk') ∧ k ≤ k' ∧
      Tr Tryz.prog Γ 14 k [.ptr m 0 0, .agg (opc o)] (MH m tk L) (fun k1 r1 H1 => k1 = k' ∧ r1 = res2 a e ∧ H1 = MH m tk' L') := by
  obtain ⟨M, a, e, tk', k', hM, ⟨hF, hU⟩, h1, ⟨h2, h2'⟩, h3, hT⟩ := op_all L n hS.r0 o hl ho m tk (k + 2) hm (by omega) (Γ := Γ)
  have hMl := hF.ns
  have hkd : IntKind.u8.wrap (o.kind - 1) = o.kind - 1 := wrap_u8 (by have := ho.k1; omega) (by have := ho.k2; omega)
  have hko := ho.k1
  have hk2 := ho.k2
  have hget := stepR_get (m := m) hko hk2
  obtain ⟨SR, eSR⟩ : ∃ x, x = stepR m := ⟨_, rfl⟩
  rw [← eSR] at hget
  have hSRl : SR.length = 10 := by rw [eSR]; rfl
  have hcal : callable Tryz.prog (opF o.kind) = true := opF_call
  simp only [opc, res2] at hT
  by_cases he : e = 0
  · obtain ⟨hR, hRf, hRF, hRt⟩ := riseL_ok hM
    have hrise := rise M n hM m tk' k' (by omega) h2 (Γ := Γ)
    have hRl := hRF.ns
    have hLat := hF.later.trans hRF.later
    refine ⟨riseL M n, a, 0, tk', k', ⟨hR, hRf, cfg_later hS.r0 hR hLat hS.cfg⟩, hLat, by rw [hRt]; exact hF.nt, h1, h2, by omega, by omega, ?_⟩
    subst he
    obtain ⟨RH, eRH⟩ : ∃ x : Heap, x = MH m tk' (riseL M n) := ⟨_, rfl⟩
    obtain ⟨RV, eRV⟩ : ∃ x : AVal, x = res2 a 0 := ⟨_, rfl⟩
    refine Tr.mono (Tr_in (kk := k') (V := RV) (RH := RH) (by omega) (by rw [eRV]; rfl) (by rw [eRH]; exact MH_lt (by omega) (by omega)) ?_) (fun _ _ _ h => ⟨h.1, h.2.1.trans eRV, h.2.2.trans eRH⟩)
    refine Tr_at Tryz.func14 rfl 67 rfl (Nat.le_of_ble_eq_true rfl) ?_
    simp only [MH, LH]
    have kp : Kp [0,1,3,4,5,6,7,8,17,49,62] (fun i => if k ≤ i then i - k + 1 else 0) := kpI
    have uU := @hkd
    refine wlL ?_; refine zq1 ⟨fun ht ht => ⟨fun hg => ⟨?_⟩⟩⟩
    rw [show ([[.bfn 31 m 0 0], [.bfn 32 m 0 0], [.bfn 33 m 0 0], [.bfn 33 m 0 0], [.bfn 34 m 0 0], [.bfn 35 m 0 0], [.bfn 36 m 0 0], [.bfn 37 m 0 0], [.bfn 38 m 0 0], [.bfn 39 m 0 0]] : List (List AVal)) = SR by rw [eSR]; rfl]
    refine S_drw rfl [0,1,3,4,5,6,7,8,17,49,62] [.far (.tup [.lit (.int .i64 a), .lit (.int .i64 0)]) k' [(k + 1, ⟨1, false, SR⟩), (k, ⟨8, true, [opc o]⟩)] (MH m tk L) (MH m tk' M)] (by kernel_rfl) rfl (fun K hK => ?_); simp -dsimp -implicitDefEqProofs (disch := omega) only [go_sem, nq0, hkd, hget, hSRl, hcal, eq_self, ↓reduceIte]; (repeat' (first | (refine And.intro ?_ ?_) | (refine gs_both (fun hb => ?_) (fun hb => ?_) <;> (have hg := hb; (try simp only [nfb] at hg); simp -dsimp -implicitDefEqProofs (disch := omega) only [go_sem, nq0, hkd, hget, hSRl, hcal, hb, hg, eq_self, ↓reduceIte]; clear hb; (try simp only [nfe] at hg))))); (all_goals (try omega))
    · intro q; simp only [MH, LH, mrow, opc, List.cons_append, List.nil_append]
    · exact MH_apart (fun i hi => by simp only [AM.look]; repeat (rw [if_neg (by omega)])) hMl
    refine hK _ _ _ _ (drawC (by simp only [List.map_cons, List.map_nil, shC, List.isEmpty_cons, List.isEmpty_nil, List.isEmpty_map, MH_ie, isEmpty_app, Bool.and_false]; rfl) (by decide +kernel) (by
      simp only [List.all_cons, List.all_nil, Bool.and_true, Bool.true_and]
      exact callOut_lt (MH_lt (by omega) (by omega)) (MH_lt (by omega) (by omega)))) (fun hx => ?_)
    clear hx hK
    simp only [MH, LH]
    have uU := zA @hkd (zA @hget (zA @hSRl @hcal))
    refine rRL ?_; apply zN
    refine wlL ?_; refine zq1 ⟨fun ht => ⟨⟨?_⟩⟩⟩
    refine clL [.far (.tup []) k' [(k + 1, ⟨1, false, SR⟩), (k, ⟨8, true, [opc o]⟩)] (MH m tk' M) (MH m tk' (riseL M n))] ?_; refine zq3 ⟨⟨⟨?_⟩⟩⟩ ⟨⟨⟨?_⟩⟩⟩ ⟨⟨⟨?_⟩⟩⟩
    · intro q; simp only [MH, LH, mrow, opc, List.cons_append, List.nil_append]
    · exact MH_apart (fun i hi => by simp only [AM.look]; repeat (rw [if_neg (by omega)])) hRl
    simp only [MH, LH]
    refine rRL ?_; apply zN
    refine wlL ?_; refine zq1 ⟨⟨⟨?_⟩⟩⟩
    have uU := zA @hkd (zA @hget (zA @hSRl @hcal)); refine cRD ?_; apply zN
    refine ⟨?_, ?_⟩
    · rw [eRV]; rfl
    · rw [eRH]
      simp only [MH, LH]
      exact rRL hdT
  · obtain rfl : M = L := hU.resolve_left he
    refine ⟨M, 0, e, tk', k', hS, Later.refl M, Nat.le_succ _, h1, h2, by omega, by omega, ?_⟩
    obtain ⟨RH, eRH⟩ : ∃ x : Heap, x = MH m tk' M := ⟨_, rfl⟩
    obtain ⟨RV, eRV⟩ : ∃ x : AVal, x = res2 0 e := ⟨_, rfl⟩
    refine Tr.mono (Tr_in (kk := k') (V := RV) (RH := RH) (by omega) (by rw [eRV]; rfl) (by rw [eRH]; exact MH_lt (by omega) (by omega)) ?_) (fun _ _ _ h => ⟨h.1, h.2.1.trans eRV, h.2.2.trans eRH⟩)
    refine Tr_at Tryz.func14 rfl 67 rfl (Nat.le_of_ble_eq_true rfl) ?_
    simp only [MH, LH]
    have kp : Kp [0,1,3,4,5,6,7,8,17,49,62] (fun i => if k ≤ i then i - k + 1 else 0) := kpI
    have uU := @hkd
    refine wlL ?_; refine zq1 ⟨fun ht ht => ⟨fun hg => ⟨?_⟩⟩⟩
    rw [show ([[.bfn 31 m 0 0], [.bfn 32 m 0 0], [.bfn 33 m 0 0], [.bfn 33 m 0 0], [.bfn 34 m 0 0], [.bfn 35 m 0 0], [.bfn 36 m 0 0], [.bfn 37 m 0 0], [.bfn 38 m 0 0], [.bfn 39 m 0 0]] : List (List AVal)) = SR by rw [eSR]; rfl]
    refine S_drw rfl [0,1,3,4,5,6,7,8,17,49,62] [.far (.tup [.lit (.int .i64 a), .lit (.int .i64 e)]) k' [(k + 1, ⟨1, false, SR⟩), (k, ⟨8, true, [opc o]⟩)] (MH m tk M) (MH m tk' M)] (by kernel_rfl) rfl (fun K hK => ?_); simp -dsimp -implicitDefEqProofs (disch := omega) only [go_sem, nq0, hkd, hget, hSRl, hcal, eq_self, ↓reduceIte]; (repeat' (first | (refine And.intro ?_ ?_) | (refine gs_both (fun hb => ?_) (fun hb => ?_) <;> (have hg := hb; (try simp only [nfb] at hg); simp -dsimp -implicitDefEqProofs (disch := omega) only [go_sem, nq0, hkd, hget, hSRl, hcal, hb, hg, eq_self, ↓reduceIte]; clear hb; (try simp only [nfe] at hg))))); (all_goals (try omega))
    · intro q; simp only [MH, LH, mrow, opc, List.cons_append, List.nil_append]
    · exact MH_apart (fun i hi => by simp only [AM.look]; repeat (rw [if_neg (by omega)])) hMl
    refine hK _ _ _ _ (drawC (by simp only [List.map_cons, List.map_nil, shC, List.isEmpty_cons, List.isEmpty_nil, List.isEmpty_map, MH_ie, isEmpty_app, Bool.and_false]; rfl) (by decide +kernel) (by
      simp only [List.all_cons, List.all_nil, Bool.and_true, Bool.true_and]
      exact callOut_lt (MH_lt (by omega) (by omega)) (MH_lt (by omega) (by omega)))) (fun hx => ?_)
    clear hx hK
    simp only [MH, LH]
    have uU := zA @hkd (zA @hget (zA @hSRl @hcal))
    refine rRL ?_; apply zN
    refine wlL ?_; refine zq1 ⟨fun ht => ⟨⟨?_⟩⟩⟩
    have uU := zA @hkd (zA @hget (zA @hSRl @hcal)); refine cRD ?_; apply zN
    refine ⟨?_, ?_⟩
    · rw [eRV]; rfl
    · rw [eRH]
      simp only [MH, LH]
      exact rRL hdT
end Go.Proofs.T
end
section
namespace Go.Proofs.T
open Go Go.AM Go.Proofs
set_option maxRecDepth 20000
variable {Γ : List (Nat × List AVal)}
structure Sm where
  kind : Int
  cpu : Int
  task : Int
  group : Int
  to : Int
  weight : Int
  ticks : Int
  mask : Int
def smc (x : Sm) : List AVal := [.lit (.int .u8 x.kind), .lit (.int .u8 x.cpu), .lit (.int .u8 x.task), .lit (.int .u8 x.group), .lit (.int .u8 x.to), .lit (.int .u16 x.weight), .lit (.int .u32 x.ticks), .lit (.int .u8 x.mask)]
structure SmOk (x : Sm) : Prop where
  k0 : 0 ≤ x.kind ∧ x.kind ≤ 255
  c0 : 0 ≤ x.cpu ∧ x.cpu ≤ 255
  t0 : 0 ≤ x.task ∧ x.task ≤ 255
  g0 : 0 ≤ x.group ∧ x.group ≤ 255
  o0 : 0 ≤ x.to ∧ x.to ≤ 255
  w0 : 0 ≤ x.weight ∧ x.weight ≤ 65535
  i0 : 0 ≤ x.ticks ∧ x.ticks ≤ 4294967295
  m0 : 0 ≤ x.mask ∧ x.mask ≤ 255
def kindL : List Int := [1, 1, 1, 2, 2, 3, 3, 4, 5, 5, 5, 5, 6, 6, 6, 6, 7, 8, 9, 10]
def mskZ (to cpu : Int) : Int := IntKind.u64.wrap ((BitVec.ofInt IntKind.u64.bits (IntKind.u64.wrap (IntKind.u64.wrap (1 * 2 ^ min (1 + to).toNat 64) - 1)) ||| BitVec.ofInt IntKind.u64.bits (IntKind.u64.wrap (1 * 2 ^ min cpu.toNat 64))).toNat : Int)
def opn (x : Sm) : Opn := ⟨kindL.getD (x.kind % 20).toNat 0, x.cpu % 4, 1 + x.task % 12, x.group % 6, 1 + x.weight, x.to % 4, 1 + x.ticks % 16777216, if x.mask % 4 > 0 then mskZ (x.to % 4) (x.cpu % 4) else x.mask⟩
def opL (f : Nat → Sm) (i : Nat) : List (List AVal) := (List.range i).map fun j => opc (opn (f j))
theorem opL_zero (f : Nat → Sm) : opL f 0 = [] := rfl
theorem opL_succ (f : Nat → Sm) (i : Nat) : opL f (i + 1) = opL f i ++ [opc (opn (f i))] := range_snoc
theorem opL_len (f : Nat → Sm) (i : Nat) : (opL f i).length = i := by simp [opL]
attribute [go_sem] opL_len smc
theorem kind_get {q : Nat} (h : q < 20) : (kindL.map fun k => AVal.lit (.int .u8 k))[q]? = some (.lit (.int .u8 (kindL.getD q 0))) := by
  have : q < kindL.length := h
  simp [List.getD, this]
set_option maxHeartbeats 4000000 in
theorem lscript (f : Nat → Sm) (hf : ∀ i, SmOk (f i)) (nl most q : Nat) (hq : q = min nl most) (hn : q ≤ 1000) (hm2 : most ≤ 1000) (hnl : nl ≤ 9223372036854775807) : AM.Pure Tryz.prog Γ 10 [.rd 8 nl (fun i => smc (f i)), .lit (.int .i64 (most : Int))] (.rd 8 q (fun i => opc (opn (f i)))) := by
  refine Pure_at Tryz.func10 rfl 79 rfl (Nat.le_of_ble_eq_true rfl) rfl fun k => ?_
  have e0 : (if (nl : Int) < (most : Int) then (nl : Int) else (most : Int)) = (q : Int) := by split <;> omega
  have e1 : (if (most : Int) < (nl : Int) then (most : Int) else (nl : Int)) = (q : Int) := by split <;> omega
  have kp : Kp [0,1,4,5,7,8,14,15,16,17,53] (fun i => i - k) := kpI
  have uU := zA @e0 @e1
  refine wl ?_; refine zq1 ⟨⟨⟨?_⟩⟩⟩
  refine M_forO (X := Nat) rfl [0,1,4,5,7,8,14,15,16,17,53] (k + 1) (fun i => [(16, .lit (.int .i64 (i : Int))), (5, accV k (opL f i))]) (fun i => accH k 8 (opL f i) []) (fun i => i ≤ q) (fun i => q - i) 0 ?_ (Nat.zero_le _) ?_
  · rw [opL_zero]
    refine rR ?_; apply zN
    exact Mv.wk (wk_low (by omega) (by simp -dsimp -implicitDefEqProofs only [go_sem, e0, e1, List.map_append, eq_self, ↓reduceIte]) (by simp -dsimp -implicitDefEqProofs only [go_sem, e0, e1, List.map_append, eq_self, ↓reduceIte]) (by simp -dsimp -implicitDefEqProofs only [go_sem, e0, e1, List.map_append, eq_self, ↓reduceIte]) (by simp -dsimp -implicitDefEqProofs only [go_sem, e0, e1, List.map_append, eq_self, ↓reduceIte]))
  intro i hi
  obtain ⟨hk0, hc0, ht0, hg0, ho0, hw0, hi0, hm0⟩ := hf i
  obtain ⟨y, ey⟩ : ∃ y, y = f i := ⟨_, rfl⟩
  rw [← ey] at hk0 hc0 ht0 hg0 ho0 hw0 hi0 hm0
  have hqi : (((q - 0 : Nat) : Int)) = (q : Int) := by omega
  have uU := zA @hqi @Nat.sub_zero
  refine rR ?_; apply zN
  by_cases hi2 : i < q
  · have a1 : IntKind.i64.wrap y.cpu = y.cpu := wrap_i64 (by omega) (by omega)
    have a2 : IntKind.i64.wrap y.task = y.task := wrap_i64 (by omega) (by omega)
    have a3 : IntKind.i64.wrap y.group = y.group := wrap_i64 (by omega) (by omega)
    have a4 : IntKind.i64.wrap y.to = y.to := wrap_i64 (by omega) (by omega)
    have a5 : IntKind.i64.wrap y.weight = y.weight := wrap_i64 (by omega) (by omega)
    have a6 : IntKind.u64.wrap y.mask = y.mask := wrap_u64 (by omega) (by omega)
    have b1 : y.cpu.tmod 4 = y.cpu % 4 := Int.tmod_eq_emod_of_nonneg (by omega)
    have b2 : y.task.tmod 12 = y.task % 12 := Int.tmod_eq_emod_of_nonneg (by omega)
    have b3 : y.group.tmod 6 = y.group % 6 := Int.tmod_eq_emod_of_nonneg (by omega)
    have b4 : y.to.tmod 4 = y.to % 4 := Int.tmod_eq_emod_of_nonneg (by omega)
    have b5 : y.ticks.tmod 16777216 = y.ticks % 16777216 := Int.tmod_eq_emod_of_nonneg (by omega)
    have b6 : y.mask.tmod 4 = y.mask % 4 := Int.tmod_eq_emod_of_nonneg (by omega)
    have b7 : y.kind.tmod 20 = y.kind % 20 := Int.tmod_eq_emod_of_nonneg (by omega)
    have c1 : IntKind.i64.wrap (y.cpu % 4) = y.cpu % 4 := wrap_i64 (by omega) (by omega)
    have c2 : IntKind.i64.wrap (y.task % 12) = y.task % 12 := wrap_i64 (by omega) (by omega)
    have c3 : IntKind.i64.wrap (y.group % 6) = y.group % 6 := wrap_i64 (by omega) (by omega)
    have c4 : IntKind.i64.wrap (y.to % 4) = y.to % 4 := wrap_i64 (by omega) (by omega)
    have c5 : IntKind.u32.wrap (y.ticks % 16777216) = y.ticks % 16777216 := wrap_u32 (by omega) (by omega)
    have c6 : IntKind.u8.wrap (y.mask % 4) = y.mask % 4 := wrap_u8 (by omega) (by omega)
    have c7 : IntKind.u8.wrap (y.kind % 20) = y.kind % 20 := wrap_u8 (by omega) (by omega)
    have d1 : IntKind.i64.wrap (1 + y.task % 12) = 1 + y.task % 12 := wrap_i64 (by omega) (by omega)
    have d2 : IntKind.i64.wrap (1 + y.weight) = 1 + y.weight := wrap_i64 (by omega) (by omega)
    have d3 : IntKind.i64.wrap (y.ticks % 16777216) = y.ticks % 16777216 := wrap_i64 (by omega) (by omega)
    have d4 : IntKind.i64.wrap (1 + y.ticks % 16777216) = 1 + y.ticks % 16777216 := wrap_i64 (by omega) (by omega)
    have d5 : IntKind.i64.wrap (1 + y.to % 4) = 1 + y.to % 4 := wrap_i64 (by omega) (by omega)
    obtain ⟨q1, hq1⟩ : ∃ q1 : Nat, y.kind % 20 = (q1 : Int) := ⟨(y.kind % 20).toNat, by omega⟩
    have g1 := kind_get (q := q1) (by omega)
    simp only [kindL, List.map_cons, List.map_nil] at g1
    rw [← Nat.mul_one q1] at g1
    have hq20 : (0 ≤ (q1 : Int) ∧ (q1 : Int) < 20) = True := eq_true (by omega)
    have s1 : (1 + y.to % 4 < 0) = False := eq_false (by omega)
    have s2 : (y.cpu % 4 < 0) = False := eq_false (by omega)
    have ey2 := ey.symm
    have uU := zA @hqi (zA @Nat.sub_zero (zA @ey2 (zA @a1 (zA @a2 (zA @a3 (zA @a4 (zA @a5 (zA @a6 (zA @b1 (zA @b2 (zA @b3 (zA @b4 (zA @b5 (zA @b6 (zA @b7 (zA @c1 (zA @c2 (zA @c3 (zA @c4 (zA @c5 (zA @c6 (zA @c7 (zA @d1 (zA @d2 (zA @d3 (zA @d4 (zA @d5 (zA @hq1 (zA @g1 (zA @hq20 (zA @s1 @s2)))))))))))))))))))))))))))))))
    refine wl ?_; refine zq2 ⟨fun ht ht => ⟨⟨?_⟩⟩⟩ ⟨fun ht ht => ⟨⟨?_⟩⟩⟩
    · refine ⟨i + 1, by omega, by omega, ?_⟩
      have ho : opc (opn (f i)) = [.lit (.int .u8 ([1, 1, 1, 2, 2, 3, 3, 4, 5, 5, 5, 5, 6, 6, 6, 6, 7, 8, 9, 10].getD (q1 * 1) 0)), .lit (.int .i64 (y.cpu % 4)), .lit (.int .i64 (1 + y.task % 12)), .lit (.int .i64 (y.group % 6)), .lit (.int .i64 (1 + y.weight)), .lit (.int .i64 (y.to % 4)), .lit (.int .i64 (1 + y.ticks % 16777216)), .lit (.int .u64 (mskZ (y.to % 4) (y.cpu % 4)))] := by
        rw [← ey]
        simp only [opc, opn, hq1, Int.toNat_natCast, Nat.mul_one, kindL]
        rw [if_pos (by omega)]
        first | rfl | skip
      rw [mskZ] at ho
      rw [opL_succ, ho]
      refine rR ?_; apply zN
      exact Mv.app (k + 4) (k) ⟨by omega, by omega⟩ ⟨by omega, by omega⟩ (wk_low (by omega) (by simp -dsimp -implicitDefEqProofs only [go_sem, hqi, Nat.sub_zero, ey2, a1, a2, a3, a4, a5, a6, b1, b2, b3, b4, b5, b6, b7, c1, c2, c3, c4, c5, c6, c7, d1, d2, d3, d4, d5, hq1, g1, hq20, s1, s2, List.map_append, eq_self, ↓reduceIte]) (by simp -dsimp -implicitDefEqProofs only [go_sem, hqi, Nat.sub_zero, ey2, a1, a2, a3, a4, a5, a6, b1, b2, b3, b4, b5, b6, b7, c1, c2, c3, c4, c5, c6, c7, d1, d2, d3, d4, d5, hq1, g1, hq20, s1, s2, List.map_append, eq_self, ↓reduceIte]) (by simp -dsimp -implicitDefEqProofs only [go_sem, hqi, Nat.sub_zero, ey2, a1, a2, a3, a4, a5, a6, b1, b2, b3, b4, b5, b6, b7, c1, c2, c3, c4, c5, c6, c7, d1, d2, d3, d4, d5, hq1, g1, hq20, s1, s2, List.map_append, eq_self, ↓reduceIte]) (by simp -dsimp -implicitDefEqProofs only [go_sem, hqi, Nat.sub_zero, ey2, a1, a2, a3, a4, a5, a6, b1, b2, b3, b4, b5, b6, b7, c1, c2, c3, c4, c5, c6, c7, d1, d2, d3, d4, d5, hq1, g1, hq20, s1, s2, List.map_append, eq_self, ↓reduceIte]))
    · refine ⟨i + 1, by omega, by omega, ?_⟩
      have ho : opc (opn (f i)) = [.lit (.int .u8 ([1, 1, 1, 2, 2, 3, 3, 4, 5, 5, 5, 5, 6, 6, 6, 6, 7, 8, 9, 10].getD (q1 * 1) 0)), .lit (.int .i64 (y.cpu % 4)), .lit (.int .i64 (1 + y.task % 12)), .lit (.int .i64 (y.group % 6)), .lit (.int .i64 (1 + y.weight)), .lit (.int .i64 (y.to % 4)), .lit (.int .i64 (1 + y.ticks % 16777216)), .lit (.int .u64 y.mask)] := by
        rw [← ey]
        simp only [opc, opn, hq1, Int.toNat_natCast, Nat.mul_one, kindL]
        rw [if_neg (by omega)]
        first | rfl | skip
      rw [opL_succ, ho]
      refine rR ?_; apply zN
      exact Mv.app (k + 4) (k) ⟨by omega, by omega⟩ ⟨by omega, by omega⟩ (wk_low (by omega) (by simp -dsimp -implicitDefEqProofs only [go_sem, hqi, Nat.sub_zero, ey2, a1, a2, a3, a4, a5, a6, b1, b2, b3, b4, b5, b6, b7, c1, c2, c3, c4, c5, c6, c7, d1, d2, d3, d4, d5, hq1, g1, hq20, s1, s2, List.map_append, eq_self, ↓reduceIte]) (by simp -dsimp -implicitDefEqProofs only [go_sem, hqi, Nat.sub_zero, ey2, a1, a2, a3, a4, a5, a6, b1, b2, b3, b4, b5, b6, b7, c1, c2, c3, c4, c5, c6, c7, d1, d2, d3, d4, d5, hq1, g1, hq20, s1, s2, List.map_append, eq_self, ↓reduceIte]) (by simp -dsimp -implicitDefEqProofs only [go_sem, hqi, Nat.sub_zero, ey2, a1, a2, a3, a4, a5, a6, b1, b2, b3, b4, b5, b6, b7, c1, c2, c3, c4, c5, c6, c7, d1, d2, d3, d4, d5, hq1, g1, hq20, s1, s2, List.map_append, eq_self, ↓reduceIte]) (by simp -dsimp -implicitDefEqProofs only [go_sem, hqi, Nat.sub_zero, ey2, a1, a2, a3, a4, a5, a6, b1, b2, b3, b4, b5, b6, b7, c1, c2, c3, c4, c5, c6, c7, d1, d2, d3, d4, d5, hq1, g1, hq20, s1, s2, List.map_append, eq_self, ↓reduceIte]))
  · have hi' : i = q := by omega
    subst hi'
    refine wl ?_; refine zq1 ⟨fun ht => ⟨⟨?_⟩⟩⟩
    refine M_racc rfl (id := k) (s := 8) (l := opL f i) 4 (by simp -dsimp -implicitDefEqProofs only [go_sem, hqi, Nat.sub_zero, List.map_append, eq_self, ↓reduceIte]) (by simp -dsimp -implicitDefEqProofs only [go_sem, hqi, Nat.sub_zero, List.map_append, eq_self, ↓reduceIte]) ?_
    refine ⟨_, rfl, ?_⟩
    rw [rows, opL_len]
    exact VLe.copy' _ _ _
theorem mskZ_ok (a b : Int) : 0 ≤ mskZ a b ∧ mskZ a b < 18446744073709551616 := by
  unfold mskZ
  rw [IntKind.wrap_u64]
  omega
theorem opn_ok {x : Sm} (hx : SmOk x) : OpnOk (opn x) := by
  have hk := hx.k0
  have hm := hx.m0
  obtain ⟨q, hq⟩ : ∃ q : Nat, x.kind % 20 = (q : Int) := ⟨(x.kind % 20).toNat, by omega⟩
  have hq2 : q < 20 := by omega
  have hkd : (opn x).kind = kindL.getD q 0 := by simp only [opn, hq, Int.toNat_natCast]
  have hall : ∀ q, q < 20 → 1 ≤ kindL.getD q 0 ∧ kindL.getD q 0 ≤ 10 := by decide
  have := hall q hq2
  have hmask : 0 ≤ (opn x).mask ∧ (opn x).mask < 18446744073709551616 := by
    show 0 ≤ (if x.mask % 4 > 0 then mskZ (x.to % 4) (x.cpu % 4) else x.mask) ∧ (if x.mask % 4 > 0 then mskZ (x.to % 4) (x.cpu % 4) else x.mask) < 18446744073709551616
    split
    · exact mskZ_ok _ _
    · omega
  exact ⟨by omega, by omega, hmask.1, hmask.2⟩
end Go.Proofs.T
end
section
namespace Go.Proofs.T
open Go Go.AM Go.Proofs Go.ChangeShapes Go.WideShapes Go.ChangeAt Go.WideMaps Go.WideElems Go.RowKit Go.Proofs.YtkiadljldlppbaaGreatDoor
set_option maxRecDepth 100000
theorem ownK : ownKnob Tryz.prog.godebug = none := by kernel_rfl
theorem laidOut : laidOutB Tryz.prog = true := by kernel_rfl
section
variable {H : Type} {enc : TypeId × Value → H} {P : Program} {w : World} {base : Nat} {sp : Nat → Bool} {held : Bool} {fuel : Nat} {t : TypeId} {cs : List Value} {x : DataW H × List MemPlace} {G : Nat → Prop}
theorem dec_field {fs : Array Field} (ht : P.underlying t = some (.struct fs)) (h : DataW.trod enc P w base sp held fuel t cs = some x) :
    cs.length = P.cellsOf t ∧ ∃ n, ∀ (i : Nat) (f : Field), fs[i]? = some f → ∃ y, DataW.trod enc P w base sp held n f.type ((cs.drop f.offset).take (P.cellsOf f.type)) = some y := by
  obtain ⟨xs, n, _, _, h1, h2, h3⟩ := DataW.trod_struct ht h
  refine ⟨h1, n, fun i f hf => ?_⟩
  have hi : i < xs.length := by rw [h2]; exact (Array.getElem?_eq_some_iff.1 hf).1
  exact ⟨xs[i], by rw [h3 i f hf, List.getElem?_eq_getElem hi]⟩
theorem len8 {cs : List Value} (h : cs.length = 8) : ∃ a b c d e f g i, cs = [a, b, c, d, e, f, g, i] := by
  match cs, h with
  | [a, b, c, d, e, f, g, i], _ => exact ⟨a, b, c, d, e, f, g, i, rfl⟩
theorem len13 {cs : List Value} (h : cs.length = 13) : ∃ a b c d0 d1 d2 d3 d4 e0 e1 e2 e3 e4, cs = [a, b, c, d0, d1, d2, d3, d4, e0, e1, e2, e3, e4] := by
  match cs, h with
  | [a, b, c, d0, d1, d2, d3, d4, e0, e1, e2, e3, e4], _ => exact ⟨a, b, c, d0, d1, d2, d3, d4, e0, e1, e2, e3, e4, rfl⟩
theorem u8_rng {n : Int} (h : (Lit.int .u8 n).wf = true) : 0 ≤ n ∧ n ≤ 255 := by
  simp [Lit.wf] at h
  have e1 : IntKind.u8.min = 0 := rfl
  have e2 : IntKind.u8.max = 255 := rfl
  omega
theorem u16_rng {n : Int} (h : (Lit.int .u16 n).wf = true) : 0 ≤ n ∧ n ≤ 65535 := by
  simp [Lit.wf] at h
  have e1 : IntKind.u16.min = 0 := rfl
  have e2 : IntKind.u16.max = 65535 := rfl
  omega
theorem u32_rng' {n : Int} (h : (Lit.int .u32 n).wf = true) : 0 ≤ n ∧ n ≤ 4294967295 := by
  simp [Lit.wf] at h
  have e1 : IntKind.u32.min = 0 := rfl
  have e2 : IntKind.u32.max = 4294967295 := rfl
  omega
theorem dec_arr5 {e : TypeId} {k : IntKind} {c0 c1 c2 c3 c4 : Value} (ht : P.underlying t = some (.array 5 e)) (he : P.underlying e = some (.int k)) (hc : P.cellsOf e = 1) (h : DataW.trod enc P w base sp held fuel t [c0, c1, c2, c3, c4] = some x) :
    ∃ f : Nat → Int, (∀ i, i < 5 → (Lit.int k (f i)).wf = true) ∧ Dec w G [.lit (.int k (f 0)), .lit (.int k (f 1)), .lit (.int k (f 2)), .lit (.int k (f 3)), .lit (.int k (f 4))] [c0, c1, c2, c3, c4] := by
  obtain ⟨xs, m, _, _, _, hl, hx⟩ := DataW.trod_array ht h
  rw [hc] at hx
  have each : ∀ i (hi : i < 5) c, ([c0, c1, c2, c3, c4].drop (i * 1)).take 1 = [c] → ∃ n, Dec w G [.lit (.int k n)] [c] ∧ (Lit.int k n).wf = true := fun i hi c hcx => by
    have h1 := hx i hi
    rw [hcx, List.getElem?_eq_getElem (by omega)] at h1
    exact dec_int he h1
  obtain ⟨a0, d0, w0⟩ := each 0 (by omega) c0 rfl
  obtain ⟨a1, d1, w1⟩ := each 1 (by omega) c1 rfl
  obtain ⟨a2, d2, w2⟩ := each 2 (by omega) c2 rfl
  obtain ⟨a3, d3, w3⟩ := each 3 (by omega) c3 rfl
  obtain ⟨a4, d4, w4⟩ := each 4 (by omega) c4 rfl
  refine ⟨fun i => [a0, a1, a2, a3, a4].getD i 0, fun i hi => ?_, d0.app (d1.app (d2.app (d3.app d4)))⟩
  match i, hi with
  | 0, _ => exact w0
  | 1, _ => exact w1
  | 2, _ => exact w2
  | 3, _ => exact w3
  | 4, _ => exact w4
theorem dec_nums (h : DataW.trod enc Tryz.prog w base sp held fuel 27 cs = some x) : ∃ a : Nums, NumsOk a ∧ Dec w G a.cells cs := by
  obtain ⟨hl, m, hf⟩ := dec_field Tryz.underlying27 h
  have hl13 : cs.length = 13 := hl.trans (by kernel_rfl)
  obtain ⟨c0, c1, c2, p0, p1, p2, p3, p4, w0, w1, w2, w3, w4, rfl⟩ := len13 hl13
  obtain ⟨_, h0⟩ := hf 0 _ rfl
  obtain ⟨_, h1⟩ := hf 1 _ rfl
  obtain ⟨_, h2⟩ := hf 2 _ rfl
  obtain ⟨_, h3⟩ := hf 3 _ rfl
  obtain ⟨_, h4⟩ := hf 4 _ rfl
  obtain ⟨a0, d0, r0⟩ := dec_int (G := G) Tryz.underlying5 h0
  obtain ⟨a1, d1, r1⟩ := dec_int (G := G) Tryz.underlying5 h1
  obtain ⟨a2, d2, r2⟩ := dec_int (G := G) Tryz.underlying22 h2
  obtain ⟨f, r3, d3⟩ := dec_arr5 (G := G) Tryz.underlying23 Tryz.underlying5 (by kernel_rfl) h3
  obtain ⟨g, r4, d4⟩ := dec_arr5 (G := G) Tryz.underlying25 Tryz.underlying24 (by kernel_rfl) h4
  have e0 := u8_rng r0
  have e1 := u8_rng r1
  have e2 := u32_rng' r2
  exact ⟨⟨a0, a1, a2, f, g⟩, ⟨e0.1, e0.2, e1.1, e1.2, e2.1, e2.2, fun i hi => u8_rng (r3 i hi), fun i hi => u16_rng (r4 i hi)⟩, d0.app (d1.app (d2.app (d3.app d4)))⟩
theorem dec_small {n : Nat} {y : DataW H × List MemPlace} (hl : cs.length = 8) (h : DataW.trod enc Tryz.prog w base sp held n 88 cs = some y) : ∃ a : Sm, SmOk a ∧ Dec w G (smc a) cs := by
  obtain ⟨_, m, hf⟩ := dec_field Tryz.underlying88 h
  obtain ⟨c0, c1, c2, c3, c4, c5, c6, c7, rfl⟩ := len8 hl
  obtain ⟨_, h0⟩ := hf 0 _ rfl
  obtain ⟨_, h1⟩ := hf 1 _ rfl
  obtain ⟨_, h2⟩ := hf 2 _ rfl
  obtain ⟨_, h3⟩ := hf 3 _ rfl
  obtain ⟨_, h4⟩ := hf 4 _ rfl
  obtain ⟨_, h5⟩ := hf 5 _ rfl
  obtain ⟨_, h6⟩ := hf 6 _ rfl
  obtain ⟨_, h7⟩ := hf 7 _ rfl
  obtain ⟨a0, d0, r0⟩ := dec_int (G := G) Tryz.underlying5 h0
  obtain ⟨a1, d1, r1⟩ := dec_int (G := G) Tryz.underlying5 h1
  obtain ⟨a2, d2, r2⟩ := dec_int (G := G) Tryz.underlying5 h2
  obtain ⟨a3, d3, r3⟩ := dec_int (G := G) Tryz.underlying5 h3
  obtain ⟨a4, d4, r4⟩ := dec_int (G := G) Tryz.underlying5 h4
  obtain ⟨a5, d5, r5⟩ := dec_int (G := G) Tryz.underlying24 h5
  obtain ⟨a6, d6, r6⟩ := dec_int (G := G) Tryz.underlying22 h6
  obtain ⟨a7, d7, r7⟩ := dec_int (G := G) Tryz.underlying5 h7
  exact ⟨⟨a0, a1, a2, a3, a4, a5, a6, a7⟩, ⟨u8_rng r0, u8_rng r1, u8_rng r2, u8_rng r3, u8_rng r4, u16_rng r5, u32_rng' r6, u8_rng r7⟩, d0.app (d1.app (d2.app (d3.app (d4.app (d5.app (d6.app d7))))))⟩
theorem dec_smalls (hG : ∀ b, b < w.heap.size → G b) (h : DataW.trod enc Tryz.prog w base sp held fuel 28 cs = some x) : ∃ (n : Nat) (f : Nat → Sm), (∀ i, SmOk (f i)) ∧ Dec w G [.rd 8 n (fun i => smc (f i))] cs :=
  dec_slice (G := G) smc SmOk ⟨0, 0, 0, 0, 0, 0, 0, 0⟩ ⟨by simp, by simp, by simp, by simp, by simp, by simp, by simp, by simp⟩ (sz := 8) (by omega) Tryz.underlying28 (by kernel_rfl) hG (fun n cs y hl hy => dec_small hl hy) h
end
section
variable {H : Type} {enc : TypeId × Value → H} {W : World} {d : DataW H} {p : List MemPlace} {r : Reach} {base : Nat} {v : Value}
theorem nums_of (ho : Value.okWide Tryz.prog W r base 27 v) (h : DataW.Trod enc Tryz.prog W 0 (fun _ => true) true 27 v d p) :
    ∃ a : Nums, NumsOk a ∧ V W (fun b => b < W.heap.size) noNames noAllow (.agg a.cells) v := by
  unfold Value.okWide at ho
  rw [Tryz.underlying27] at ho
  obtain ⟨cs, rfl, _⟩ := ho
  obtain ⟨fuel, h⟩ := h
  obtain ⟨a, ha, hd⟩ := dec_nums (G := fun b => b < W.heap.size) h
  exact ⟨a, ha, V.of_dec hd⟩
theorem smalls_of (ho : Value.okWide Tryz.prog W r base 28 v) (h : DataW.Trod enc Tryz.prog W 0 (fun _ => true) true 28 v d p) :
    ∃ (n : Nat) (f : Nat → Sm), n ≤ 9223372036854775807 ∧ (∀ i, SmOk (f i)) ∧ V W (fun b => b < W.heap.size) noNames noAllow (.rd 8 n (fun i => smc (f i))) v := by
  obtain ⟨a, len, cap, rfl⟩ := okWide_slice Tryz.underlying28 ho
  obtain ⟨fuel, h⟩ := h
  obtain ⟨n, f, hf, hd⟩ := dec_smalls (G := fun b => b < W.heap.size) (fun b hb => hb) h
  obtain ⟨c, hc, hv⟩ := hd.2 0 _ rfl
  have e : c = .slice a len cap := by
    simp [Value.cells] at hc
    exact hc.symm
  subst e
  refine ⟨n, f, ?_, hf, hv⟩
  cases hv with
  | rd0 => omega
  | rd _ _ _ h => exact h
end
end Go.Proofs.T
end
section
namespace Go.Proofs.T
open Go Go.AM Go.Proofs
set_option maxRecDepth 20000
variable {Γ : List (Nat × List AVal)}
set_option maxHeartbeats 2000000 in
theorem wI (R : List (List AVal)) (n id k : Nat) (hn : R.length = n) (hn0 : 0 < n) (hn2 : n ≤ 100000) (hone : (R.all fun row => row.all AM.one) = true) (hk : id < k) :
    Tr Tryz.prog Γ 62 k [.sl id 0 n] [(id, ⟨1, true, R⟩)] (fun k1 r1 H1 => k1 = k + 2 ∧ r1 = .sl (k + 1) 0 n ∧ H1 = [(k + 1, ⟨1, true, R⟩), (id, ⟨1, true, R⟩)]) := by
  obtain ⟨RH, eRH⟩ : ∃ x : Heap, x = [(k + 1, ⟨1, true, R⟩), (id, ⟨1, true, R⟩)] := ⟨_, rfl⟩
  refine Tr.mono (Tr_in (kk := k + 2) (V := .sl (k + 1) 0 n) (RH := RH) (by omega) (by simp [bd, bd1, bd0, ltB]) (by rw [eRH]; simp [bdH, ltB]; omega) ?_) (fun _ _ _ h => ⟨h.1, h.2.1, h.2.2.trans eRH⟩)
  have hle : (n ≤ R.length) = True := eq_true (by omega)
  have htk : List.take n R = R := List.take_of_length_le (by omega)
  have hne : ¬ n = 0 := by omega
  refine Tr_at Tryz.func62 rfl 8 rfl (Nat.le_of_ble_eq_true rfl) ?_
  have kp : Kp [0,2,4] (fun i => i - k) := kpI
  have uU := zA @hle (zA @htk (zA @hone (zA @hne @hn0)))
  refine wlD ?_ <;> and_intros <;> first | exact hdT | (apply zM; (repeat intro ht); apply zM; (repeat intro hg); apply zM)
  have uU := zA @hle (zA @htk (zA @hone (zA @hne @hn0))); refine cRD ?_; apply zN
  refine ⟨rfl, ?_⟩
  rw [eRH]
  refine rRD ?_ <;> first | exact hdT | apply zN
set_option maxHeartbeats 2000000 in
theorem wT (R : List (List AVal)) (n id k : Nat) (hn : R.length = n) (hn0 : 0 < n) (hn2 : n ≤ 100000) (hone : (R.all fun row => row.all AM.one) = true) (hk : id < k) :
    Tr Tryz.prog Γ 63 k [.sl id 0 n] [(id, ⟨8, true, R⟩)] (fun k1 r1 H1 => k1 = k + 2 ∧ r1 = .sl (k + 1) 0 n ∧ H1 = [(k + 1, ⟨8, true, R⟩), (id, ⟨8, true, R⟩)]) := by
  obtain ⟨RH, eRH⟩ : ∃ x : Heap, x = [(k + 1, ⟨8, true, R⟩), (id, ⟨8, true, R⟩)] := ⟨_, rfl⟩
  refine Tr.mono (Tr_in (kk := k + 2) (V := .sl (k + 1) 0 n) (RH := RH) (by omega) (by simp [bd, bd1, bd0, ltB]) (by rw [eRH]; simp [bdH, ltB]; omega) ?_) (fun _ _ _ h => ⟨h.1, h.2.1, h.2.2.trans eRH⟩)
  have hle : (n ≤ R.length) = True := eq_true (by omega)
  have htk : List.take n R = R := List.take_of_length_le (by omega)
  have hne : ¬ n = 0 := by omega
  refine Tr_at Tryz.func63 rfl 8 rfl (Nat.le_of_ble_eq_true rfl) ?_
  have kp : Kp [0,2,4] (fun i => i - k) := kpI
  have uU := zA @hle (zA @htk (zA @hone (zA @hne @hn0)))
  refine wlD ?_ <;> and_intros <;> first | exact hdT | (apply zM; (repeat intro ht); apply zM; (repeat intro hg); apply zM)
  have uU := zA @hle (zA @htk (zA @hone (zA @hne @hn0))); refine cRD ?_; apply zN
  refine ⟨rfl, ?_⟩
  rw [eRH]
  refine rRD ?_ <;> first | exact hdT | apply zN
set_option maxHeartbeats 2000000 in
theorem wS (L : LSt) (g n : Nat) (m tk k : Nat) (hm : m + 6 + L.sl.length ≤ tk) (hk : tk < k) (hg : g < L.sl.length) (hn : (L.sl.getD g []).length = n) (hn0 : 0 < n) (hn2 : n ≤ 1000) :
    Tr Tryz.prog Γ 64 k [.sl (m + (6 + g)) 0 n] (MH m tk L) (fun k1 r1 H1 => k1 = k + 2 ∧ r1 = .sl (k + 1) 0 n ∧ H1 = (k + 1, ⟨3, true, slR L g⟩) :: MH m tk L) := by
  obtain ⟨RH, eRH⟩ : ∃ x : Heap, x = (k + 1, ⟨3, true, slR L g⟩) :: MH m tk L := ⟨_, rfl⟩
  refine Tr.mono (Tr_in (kk := k + 2) (V := .sl (k + 1) 0 n) (RH := RH) (by omega) (by simp [bd, bd1, bd0, ltB]) (by rw [eRH]; exact bdH_cons1 (by simp only [ltB, decide_eq_true_eq]; omega) (MH_lt (by omega) (by omega))) ?_) (fun _ _ _ h => ⟨h.1, h.2.1, h.2.2.trans eRH⟩)
  have hl : (slR L g).length = n := by rw [slR_len, hn]
  have hle : (n ≤ (slR L g).length) = True := eq_true (by omega)
  have htk : List.take n (slR L g) = slR L g := List.take_of_length_le (by omega)
  have hone := slR_one L g
  have hne : ¬ n = 0 := by omega
  refine Tr_at Tryz.func64 rfl 8 rfl (Nat.le_of_ble_eq_true rfl) ?_
  simp only [MH, LH]
  have kp : Kp [0,2,4] (fun i => i - k) := kpI
  have uU := zA @hn (zA @hle (zA @htk (zA @hone (zA @hne @hn0))))
  refine wlD ?_ <;> and_intros <;> first | exact hdT | (apply zM; (repeat intro ht); apply zM; (repeat intro hg); apply zM)
  have uU := zA @hn (zA @hle (zA @htk (zA @hone (zA @hne @hn0)))); refine cRD ?_; apply zN
  refine ⟨rfl, ?_⟩
  rw [eRH]
  simp only [MH, LH]
  refine rRD ?_ <;> first | exact hdT | apply zN
end Go.Proofs.T
end
section
namespace Go.Proofs.T
open Go Go.AM Go.Proofs
set_option maxRecDepth 20000
variable {Γ : List (Nat × List AVal)}
def cwR (x n : Nat) (L : LSt) (g0 i : Nat) : List (List AVal) := (List.range L.sl.length).map fun j => if j < i then (if j = g0 then [.sl x 0 n] else ssf L.st j) else [.lit (.slice none 0 0)]
theorem cwR_len {x n : Nat} {L : LSt} {g0 i : Nat} : (cwR x n L g0 i).length = L.sl.length := by simp [cwR]
theorem cwR_zero {x n : Nat} {L : LSt} {g0 : Nat} : cwR x n L g0 0 = List.replicate L.sl.length [.lit (.slice none 0 0)] := List.ext_getElem? fun j => by
  by_cases h : j < L.sl.length
  · simp [cwR, h]
  · rw [List.getElem?_eq_none (by rw [cwR_len]; omega), List.getElem?_eq_none (by simp; omega)]
theorem cwR_nil {x n : Nat} {L : LSt} {g0 i : Nat} (h : i < L.sl.length) : (cwR x n L g0 i)[i]? = some [.lit (.slice none 0 0)] := by simp [cwR, h]
theorem cwR_get {x n : Nat} {L : LSt} {g0 g : Nat} (h : g < L.sl.length) : (cwR x n L g0 L.sl.length)[g]? = some (if g = g0 then [.sl x 0 n] else ssf L.st g) := by simp [cwR, h]
theorem cwR_set {x n : Nat} {L : LSt} {g0 i : Nat} {r : List AVal} (h : i < L.sl.length) (hr : r = if i = g0 then [.sl x 0 n] else ssf L.st i) : (cwR x n L g0 i).set i r = cwR x n L g0 (i + 1) := List.ext_getElem? fun j => by
  subst hr
  rw [List.getElem?_set]
  by_cases e : i = j
  · subst e
    rw [if_pos rfl, if_pos (by rw [cwR_len]; exact h)]
    simp [cwR, h]
  · rw [if_neg e]
    by_cases hj : j < L.sl.length
    · have e2 : (j < i) = (j < i + 1) := propext ⟨by omega, by omega⟩
      simp only [cwR, List.getElem?_map, List.getElem?_range hj, Option.map_some, e2]
    · rw [List.getElem?_eq_none (by rw [cwR_len]; omega), List.getElem?_eq_none (by rw [cwR_len]; omega)]
theorem cwR_sw {x n : Nat} {L : LSt} {g0 y : Nat} (hg : g0 < L.sl.length) (hxy : x < y) : ((cwR x n L g0 g0).set g0 [.sl y 0 n]).map (fun row => row.map (sw0 y x)) = cwR x n L g0 (g0 + 1) := by
  rw [← cwR_set hg (if_pos rfl).symm]
  refine List.ext_getElem? fun j => ?_
  rw [List.getElem?_map, List.getElem?_set, List.getElem?_set, cwR_len]
  by_cases e : g0 = j
  · subst e
    rw [if_pos rfl, if_pos hg, if_pos rfl, if_pos hg]
    simp only [Option.map_some, List.map_cons, List.map_nil, sw0, sw]
    rw [if_pos trivial]
  · rw [if_neg e, if_neg e]
    by_cases hj : j < L.sl.length
    · simp only [cwR, List.getElem?_map, List.getElem?_range hj, Option.map_some]
      by_cases h1 : j < g0
      · rw [if_pos h1, if_neg (by omega)]; rfl
      · rw [if_neg h1]; rfl
    · rw [List.getElem?_eq_none (by rw [cwR_len]; omega)]; rfl
theorem cwR_all {x n kk : Nat} {L : LSt} {g0 i : Nat} (h : x < kk) : ((cwR x n L g0 i).all fun row => row.all (bd0 (ltB kk))) = true := by
  rw [List.all_eq_true]
  intro row hr
  simp only [cwR, List.mem_map, List.mem_range] at hr
  obtain ⟨g, hg, rfl⟩ := hr
  split
  · split
    · simp [bd0, ltB]; omega
    · rfl
  · rfl
attribute [go_sem] cwR_len cwR_all
theorem key_new {m tk x : Nat} {L : LSt} {B : Blk} {q : Nat} (h : keyB (MH m tk L) q = true ∨ keyB ((x, B) :: MH m tk L) q = true) : q = x ∨ keyB (MH m tk L) q = true := by
  rcases h with h | h
  · exact .inr h
  · unfold keyB at h
    simp only [AM.look] at h
    split at h
    · exact .inl (by omega)
    · exact .inr h
theorem bdH_consI {p : Nat → Bool} {e s : Nat} {b : Bool} {R : List (List AVal)} {H : Heap} (h : p e = true) (h1 : (R.all fun row => row.all (bd0 p)) = true) (h2 : bdH p H = true) : bdH p ((e, ⟨s, b, R⟩) :: H) = true := by
  simp only [bdH, List.all_cons, h, h1, Bool.or_true, Bool.and_true, Bool.true_and] at h2 ⊢
  exact h2
set_option maxHeartbeats 8000000 in
theorem copiedW1 (L : LSt) (n : Nat) (hS : Rt0 L n) (g0 : Nat) (hg0 : g0 < L.sl.length) (ht : 0 < L.tl.length) (m tk k : Nat) (hm : m + 6 + L.sl.length ≤ tk) (hk : tk < k) :
    Tr Tryz.prog Γ 30 k [.agg (stc m tk L)] (MH m tk L) (fun k1 r1 H1 => k1 = k + 11 ∧ r1 = .agg [.lit (.int .i64 L.cpus), .lit (.int .u64 L.credit), .rd 2 L.gl.length (gf L.st), .sl (k + 5) 0 L.kl.length, .sl (k + 7) 0 L.ul.length, .sl (k + 9) 0 L.tl.length, .sl (k + 10) 0 L.sl.length] ∧ H1 = (k + 10, ⟨1, false, cwR (k + 3) n L g0 L.sl.length⟩) :: (k + 3, ⟨3, true, slR L g0⟩) :: (k + 5, ⟨1, true, klR L⟩) :: (k + 7, ⟨1, true, ulR L⟩) :: (k + 9, ⟨8, true, tlR L⟩) :: MH m tk L) := by
  have hnt := hS.nt
  have hng := hS.ng
  have hnk := hS.nk
  have hnu := hS.nu
  have hn1 := hS.n1
  have hn64 := hS.n64
  have hns := hS.ns
  have hns1 := hS.ns1
  obtain ⟨RH, eRH⟩ : ∃ x : Heap, x = (k + 10, ⟨1, false, cwR (k + 3) n L g0 L.sl.length⟩) :: (k + 3, ⟨3, true, slR L g0⟩) :: (k + 5, ⟨1, true, klR L⟩) :: (k + 7, ⟨1, true, ulR L⟩) :: (k + 9, ⟨8, true, tlR L⟩) :: MH m tk L := ⟨_, rfl⟩
  obtain ⟨RV, eRV⟩ : ∃ x : AVal, x = .agg [.lit (.int .i64 L.cpus), .lit (.int .u64 L.credit), .rd 2 L.gl.length (gf L.st), .sl (k + 5) 0 L.kl.length, .sl (k + 7) 0 L.ul.length, .sl (k + 9) 0 L.tl.length, .sl (k + 10) 0 L.sl.length] := ⟨_, rfl⟩
  have hb : bdH (ltB (k + 11)) RH = true := by
    rw [eRH]
    refine bdH_consI (by simp only [ltB, decide_eq_true_eq]; omega) (cwR_all (by omega)) (bdH_cons1 (by simp only [ltB, decide_eq_true_eq]; omega) (bdH_cons1 (by simp only [ltB, decide_eq_true_eq]; omega) (bdH_cons1 (by simp only [ltB, decide_eq_true_eq]; omega) (bdH_cons1 (by simp only [ltB, decide_eq_true_eq]; omega) (MH_lt (by omega) (by omega))))))
  refine Tr.mono (Tr_in (kk := k + 11) (V := RV) (RH := RH) (by omega) (by rw [eRV]; simp [bd, bd1, bd0, ltB]) hb ?_) (fun _ _ _ h => ⟨h.1, h.2.1.trans eRV, h.2.2.trans eRH⟩)
  have cG := cloneG (glR L) L.gl.length (gf L.st) (m + 1) (k + 2) (glR_len L) (by omega) (by omega) (rows_one_of _ _ fun _ => rfl) (fun i hi => by rw [glR_get hi]; rfl) (by omega) (Γ := Γ)
  have cK := wI (klR L) L.kl.length (m + 2) (k + 4) (klR_len L) (by omega) (by omega) (rows_one_of _ _ fun _ => rfl) (by omega) (Γ := Γ)
  have cU := wI (ulR L) L.ul.length (m + 3) (k + 6) (ulR_len L) (by omega) (by omega) (rows_one_of _ _ fun _ => rfl) (by omega) (Γ := Γ)
  have cT := wT (tlR L) L.tl.length tk (k + 8) (tlR_len L) ht (by omega) (rows_one_of _ _ fun _ => rfl) (by omega) (Γ := Γ)
  refine Tr_at Tryz.func30 rfl 45 rfl (Nat.le_of_ble_eq_true rfl) ?_
  simp only [MH, LH]
  have kp : Kp [0,1,2,3,4,5,29,30,31,32] (fun i => i - k) := kpI
  refine wlL ?_ <;> and_intros <;> first | exact hdT | (apply zM; (repeat intro ht); apply zM; (repeat intro hg); apply zM)
  refine clL [.gen (.rd 2 L.gl.length (gf L.st)) (k + 4) [(m + 1, ⟨2, true, glR L⟩)] [(m + 1, ⟨2, true, glR L⟩)]] ?_ <;> and_intros <;> first | exact hdT | (apply zM; (repeat intro ht); apply zM; (repeat intro hg); apply zM)
  refine wlL ?_ <;> and_intros <;> first | exact hdT | (apply zM; (repeat intro ht); apply zM; (repeat intro hg); apply zM)
  have kp : Kp [0,1,2,3,4,5,29,30,31,32] (fun i => if i = m + 2 then 1 else if i = m + 3 then 2 else if i = tk then 3 else if k ≤ i then i - k + 4 else 0) := kpI
  refine dlL [.gen (.sl (k + 5) 0 L.kl.length) (k + 6) [(m + 2, ⟨1, true, klR L⟩)] [(k + 5, ⟨1, true, klR L⟩), (m + 2, ⟨1, true, klR L⟩)], .gen (.sl (k + 7) 0 L.ul.length) (k + 8) [(m + 3, ⟨1, true, ulR L⟩)] [(k + 7, ⟨1, true, ulR L⟩), (m + 3, ⟨1, true, ulR L⟩)], .gen (.sl (k + 9) 0 L.tl.length) (k + 10) [(tk, ⟨8, true, tlR L⟩)] [(k + 9, ⟨8, true, tlR L⟩), (tk, ⟨8, true, tlR L⟩)]] ?_ <;> and_intros <;> first | exact hdT | (apply zM; (repeat intro ht); apply zM; (repeat intro hg); apply zM)
  refine wlL ?_ <;> and_intros <;> first | exact hdT | (apply zM; (repeat intro ht); apply zM; (repeat intro hg); apply zM)
  obtain ⟨crow, ecr⟩ : ∃ r : List AVal, r = [.lit (.int .i64 L.cpus), .lit (.int .u64 L.credit), .rd 2 L.gl.length (gf L.st), .sl (k + 5) 0 L.kl.length, .sl (k + 7) 0 L.ul.length, .sl (k + 9) 0 L.tl.length, .sl (m + 5) 0 L.sl.length] := ⟨_, rfl⟩
  obtain ⟨zrow, ezr⟩ : ∃ r : List AVal, r = [.lit (.int .i64 0), .lit (.int .u64 0), .lit (.slice none 0 0), .lit (.slice none 0 0), .lit (.slice none 0 0), .lit (.slice none 0 0), .lit (.slice none 0 0)] := ⟨_, rfl⟩
  obtain ⟨F, hF0, hF1⟩ : ∃ F : Nat → Heap, (∀ i, i ≤ g0 → F i = (k + 10, ⟨1, false, cwR (k + 3) n L g0 i⟩) :: (k + 5, ⟨1, true, klR L⟩) :: (k + 7, ⟨1, true, ulR L⟩) :: (k + 9, ⟨8, true, tlR L⟩) :: (k + 1, ⟨7, true, [zrow]⟩) :: (k, ⟨7, false, [crow]⟩) :: MH m tk L) ∧ (∀ i, g0 < i → F i = (k + 10, ⟨1, false, cwR (k + 3) n L g0 i⟩) :: (k + 3, ⟨3, true, slR L g0⟩) :: (k + 5, ⟨1, true, klR L⟩) :: (k + 7, ⟨1, true, ulR L⟩) :: (k + 9, ⟨8, true, tlR L⟩) :: (k + 1, ⟨7, true, [zrow]⟩) :: (k, ⟨7, false, [crow]⟩) :: MH m tk L) := ⟨fun i => if i ≤ g0 then _ else _, fun i hi => if_pos hi, fun i hi => if_neg (by omega)⟩
  refine M_forO (X := Nat) rfl [0,1,2,3,4,5,29,30,31,32] (k + 11) (fun i => [(31, .lit (.int .i64 (i : Int)))]) (fun i => F i) (fun i => i ≤ L.sl.length) (fun i => L.sl.length - i) 0 ?_ (Nat.zero_le _) ?_
  · rw [← cwR_zero (x := k + 3) (n := n) (L := L) (g0 := g0), hF0 0 (Nat.zero_le _), ecr, ezr]
    simp only [MH, LH]
    refine rRL ?_ <;> first | exact hdT | apply zN
    refine Mv.trans (Go.Proofs.T.Mv.impure (k + 10) (by simp (disch := omega) only [AM.look, nq0, ↓reduceIte]; rfl)) ?_
    refine rRL ?_ <;> first | exact hdT | apply zN
    exact wkD
  intro i hi
  by_cases hi2 : i < L.sl.length
  · have hrow := hS.rows i hi2
    have hcget : (cwR (k + 3) n L g0 i)[i]? = some [.lit (.slice none 0 0)] := cwR_nil hi2
    rcases Nat.lt_trichotomy i g0 with hig | hig | hig
    · have cS := cloneS L i n m tk (k + 11) hm (by omega) hi2 hrow (by omega) (by omega) (Γ := Γ)
      have hset := cwR_set (x := k + 3) (n := n) (L := L) (g0 := g0) (r := ssf L.st i) hi2 (by rw [if_neg (by omega)])
      rw [ssf, show L.st.nsp i = n from hrow] at hset
      rw [hF0 i (by omega)]
      rw [ecr, ezr]
      simp only [MH, LH]
      have uU := zA @hrow (zA @hset @hcget)
      refine rRL ?_ <;> first | exact hdT | apply zN
      have kp : Kp [0,1,2,3,4,5,29,30,31,32] (fun i => if k ≤ i then i - k + 1 else 0) := kpI
      refine wlL ?_ <;> and_intros <;> first | exact hdT | (apply zM; (repeat intro ht); apply zM; (repeat intro hg); apply zM)
      rw [← ecr, ← ezr]
      refine clL [.far (.rd 3 n (sf L.st i)) (k + 13) [(k + 10, ⟨1, false, cwR (k + 3) n L g0 i⟩), (k + 5, ⟨1, true, klR L⟩), (k + 7, ⟨1, true, ulR L⟩), (k + 9, ⟨8, true, tlR L⟩), (k + 1, ⟨7, true, [zrow]⟩), (k, ⟨7, false, [crow]⟩)] (MH m tk L) (MH m tk L)] ?_ <;> and_intros <;> first | exact hdT | (apply zM; (repeat intro ht); apply zM; (repeat intro hg); apply zM)
      · rw [look_MH6 hm hi2]; rfl
      · intro q; simp only [MH, LH, mrow, ecr, ezr, List.cons_append, List.nil_append]
      · exact MH_apart (fun i hi => by simp only [AM.look]; repeat (rw [if_neg (by omega)])) rfl
      all_goals (try exact cS)
      rw [ecr, ezr]
      simp only [MH, LH]
      refine rRL ?_ <;> first | exact hdT | apply zN
      refine wlL ?_ <;> and_intros <;> first | exact hdT | (apply zM; (repeat intro ht); apply zM; (repeat intro hg); apply zM)
      refine ⟨i + 1, by omega, by omega, ?_⟩
      rw [hF0 (i + 1) (by omega), ecr, ezr]
      simp only [MH, LH]
      refine rRL ?_ <;> first | exact hdT | apply zN
      exact wkD
    · subst hig
      have cS := wS L i n m tk (k + 11) hm (by omega) hi2 hrow (by omega) (by omega) (Γ := Γ)
      have hset := cwR_sw (x := k + 3) (n := n) (L := L) (g0 := i) (y := k + 12) hi2 (by omega)
      rw [hF0 i (by omega)]
      rw [ecr, ezr]
      simp only [MH, LH]
      have uU := zA @hrow (zA @hset @hcget)
      refine rRL ?_ <;> first | exact hdT | apply zN
      have kp : Kp [0,1,2,3,4,5,29,30,31,32] (fun i => if k ≤ i then i - k + 1 else 0) := kpI
      refine wlL ?_ <;> and_intros <;> first | exact hdT | (apply zM; (repeat intro ht); apply zM; (repeat intro hg); apply zM)
      rw [← ecr, ← ezr]
      refine clL [.far (.sl (k + 12) 0 n) (k + 13) [(k + 10, ⟨1, false, cwR (k + 3) n L i i⟩), (k + 5, ⟨1, true, klR L⟩), (k + 7, ⟨1, true, ulR L⟩), (k + 9, ⟨8, true, tlR L⟩), (k + 1, ⟨7, true, [zrow]⟩), (k, ⟨7, false, [crow]⟩)] (MH m tk L) ((k + 12, ⟨3, true, slR L i⟩) :: MH m tk L)] ?_ <;> and_intros <;> first | exact hdT | (apply zM; (repeat intro ht); apply zM; (repeat intro hg); apply zM)
      · rw [look_MH6 hm hi2]; rfl
      · intro q; simp only [MH, LH, mrow, ecr, ezr, List.cons_append, List.nil_append]
      · intro q hq; rcases key_new hq with rfl | hq <;> (first | have := keyB_MH hq | skip) <;> simp only [AM.look] <;> (repeat rw [if_neg (by omega)])
      all_goals (try exact cS)
      rw [ecr, ezr]
      simp only [MH, LH]
      refine rRL ?_ <;> first | exact hdT | apply zN
      refine wlL ?_ <;> and_intros <;> first | exact hdT | (apply zM; (repeat intro ht); apply zM; (repeat intro hg); apply zM)
      refine ⟨i + 1, by omega, by omega, ?_⟩
      rw [hF1 (i + 1) (by omega), ecr, ezr]
      refine Mv.trans (Mv.swap (k + 12) (k + 3) ⟨by omega, by omega⟩ ⟨by omega, by omega⟩) ?_
      simp only [MH, LH]
      refine rRL ?_ <;> first | exact hdT | apply zN
      exact wkD
    · have cS := cloneS L i n m tk (k + 11) hm (by omega) hi2 hrow (by omega) (by omega) (Γ := Γ)
      have hset := cwR_set (x := k + 3) (n := n) (L := L) (g0 := g0) (r := ssf L.st i) hi2 (by rw [if_neg (by omega)])
      rw [ssf, show L.st.nsp i = n from hrow] at hset
      rw [hF1 i (by omega)]
      rw [ecr, ezr]
      simp only [MH, LH]
      have uU := zA @hrow (zA @hset @hcget)
      refine rRL ?_ <;> first | exact hdT | apply zN
      have kp : Kp [0,1,2,3,4,5,29,30,31,32] (fun i => if k ≤ i then i - k + 1 else 0) := kpI
      refine wlL ?_ <;> and_intros <;> first | exact hdT | (apply zM; (repeat intro ht); apply zM; (repeat intro hg); apply zM)
      rw [← ecr, ← ezr]
      refine clL [.far (.rd 3 n (sf L.st i)) (k + 13) [(k + 10, ⟨1, false, cwR (k + 3) n L g0 i⟩), (k + 3, ⟨3, true, slR L g0⟩), (k + 5, ⟨1, true, klR L⟩), (k + 7, ⟨1, true, ulR L⟩), (k + 9, ⟨8, true, tlR L⟩), (k + 1, ⟨7, true, [zrow]⟩), (k, ⟨7, false, [crow]⟩)] (MH m tk L) (MH m tk L)] ?_ <;> and_intros <;> first | exact hdT | (apply zM; (repeat intro ht); apply zM; (repeat intro hg); apply zM)
      · rw [look_MH6 hm hi2]; rfl
      · intro q; simp only [MH, LH, mrow, ecr, ezr, List.cons_append, List.nil_append]
      · exact MH_apart (fun i hi => by simp only [AM.look]; repeat (rw [if_neg (by omega)])) rfl
      all_goals (try exact cS)
      rw [ecr, ezr]
      simp only [MH, LH]
      refine rRL ?_ <;> first | exact hdT | apply zN
      refine wlL ?_ <;> and_intros <;> first | exact hdT | (apply zM; (repeat intro ht); apply zM; (repeat intro hg); apply zM)
      refine ⟨i + 1, by omega, by omega, ?_⟩
      rw [hF1 (i + 1) (by omega), ecr, ezr]
      simp only [MH, LH]
      refine rRL ?_ <;> first | exact hdT | apply zN
      exact wkD
  · have hil : i = L.sl.length := by omega
    rw [hF1 i (by omega)]
    subst hil
    rw [ecr, ezr]
    simp only [MH, LH]
    refine rRL ?_ <;> first | exact hdT | apply zN
    have kp : Kp [0,1,2,3,4,5,29,30,31,32] (fun i => if k ≤ i then i - k + 1 else 0) := kpI
    refine wlL ?_ <;> and_intros <;> first | exact hdT | (apply zM; (repeat intro ht); apply zM; (repeat intro hg); apply zM)
    have uU := Go.AM.uU; refine cRD ?_; apply zN
    refine ⟨?_, ?_⟩
    · rw [eRV]
    · rw [eRH]
      simp only [MH, LH]
      refine rRL ?_ <;> first | exact hdT | apply zN
set_option maxHeartbeats 8000000 in
theorem copiedW0 (L : LSt) (n : Nat) (hS : Rt0 L n) (g0 : Nat) (hg0 : g0 < L.sl.length) (ht : L.tl = []) (m tk k : Nat) (hm : m + 6 + L.sl.length ≤ tk) (hk : tk < k) :
    Tr Tryz.prog Γ 30 k [.agg (stc m tk L)] (MH m tk L) (fun k1 r1 H1 => k1 = k + 11 ∧ r1 = .agg [.lit (.int .i64 L.cpus), .lit (.int .u64 L.credit), .rd 2 L.gl.length (gf L.st), .sl (k + 5) 0 L.kl.length, .sl (k + 7) 0 L.ul.length, .rd 8 L.tl.length (tf L.st), .sl (k + 10) 0 L.sl.length] ∧ H1 = (k + 10, ⟨1, false, cwR (k + 3) n L g0 L.sl.length⟩) :: (k + 3, ⟨3, true, slR L g0⟩) :: (k + 5, ⟨1, true, klR L⟩) :: (k + 7, ⟨1, true, ulR L⟩) :: MH m tk L) := by
  have hnt := hS.nt
  have hng := hS.ng
  have hnk := hS.nk
  have hnu := hS.nu
  have hn1 := hS.n1
  have hn64 := hS.n64
  have hns := hS.ns
  have hns1 := hS.ns1
  obtain ⟨RH, eRH⟩ : ∃ x : Heap, x = (k + 10, ⟨1, false, cwR (k + 3) n L g0 L.sl.length⟩) :: (k + 3, ⟨3, true, slR L g0⟩) :: (k + 5, ⟨1, true, klR L⟩) :: (k + 7, ⟨1, true, ulR L⟩) :: MH m tk L := ⟨_, rfl⟩
  obtain ⟨RV, eRV⟩ : ∃ x : AVal, x = .agg [.lit (.int .i64 L.cpus), .lit (.int .u64 L.credit), .rd 2 L.gl.length (gf L.st), .sl (k + 5) 0 L.kl.length, .sl (k + 7) 0 L.ul.length, .rd 8 L.tl.length (tf L.st), .sl (k + 10) 0 L.sl.length] := ⟨_, rfl⟩
  have hb : bdH (ltB (k + 11)) RH = true := by
    rw [eRH]
    refine bdH_consI (by simp only [ltB, decide_eq_true_eq]; omega) (cwR_all (by omega)) (bdH_cons1 (by simp only [ltB, decide_eq_true_eq]; omega) (bdH_cons1 (by simp only [ltB, decide_eq_true_eq]; omega) (bdH_cons1 (by simp only [ltB, decide_eq_true_eq]; omega) (MH_lt (by omega) (by omega)))))
  refine Tr.mono (Tr_in (kk := k + 11) (V := RV) (RH := RH) (by omega) (by rw [eRV]; simp [bd, bd1, bd0, ltB]) hb ?_) (fun _ _ _ h => ⟨h.1, h.2.1.trans eRV, h.2.2.trans eRH⟩)
  have cG := cloneG (glR L) L.gl.length (gf L.st) (m + 1) (k + 2) (glR_len L) (by omega) (by omega) (rows_one_of _ _ fun _ => rfl) (fun i hi => by rw [glR_get hi]; rfl) (by omega) (Γ := Γ)
  have cK := wI (klR L) L.kl.length (m + 2) (k + 4) (klR_len L) (by omega) (by omega) (rows_one_of _ _ fun _ => rfl) (by omega) (Γ := Γ)
  have cU := wI (ulR L) L.ul.length (m + 3) (k + 6) (ulR_len L) (by omega) (by omega) (rows_one_of _ _ fun _ => rfl) (by omega) (Γ := Γ)
  have ht0 : L.tl.length = 0 := by rw [ht]; rfl
  have cT : Tr Tryz.prog Γ 63 (k + 8) [.sl tk 0 L.tl.length] [(tk, ⟨8, true, tlR L⟩)] (fun k1 r1 H1 => k1 = k + 8 + 2 ∧ r1 = .rd 8 L.tl.length (tf L.st) ∧ H1 = [(tk, ⟨8, true, tlR L⟩)]) := by
    rw [ht0]; exact cloneT0 (tlR L) (tf L.st) tk (k + 8) (by omega)
  refine Tr_at Tryz.func30 rfl 45 rfl (Nat.le_of_ble_eq_true rfl) ?_
  simp only [MH, LH]
  have kp : Kp [0,1,2,3,4,5,29,30,31,32] (fun i => i - k) := kpI
  refine wlL ?_ <;> and_intros <;> first | exact hdT | (apply zM; (repeat intro ht); apply zM; (repeat intro hg); apply zM)
  refine clL [.gen (.rd 2 L.gl.length (gf L.st)) (k + 4) [(m + 1, ⟨2, true, glR L⟩)] [(m + 1, ⟨2, true, glR L⟩)]] ?_ <;> and_intros <;> first | exact hdT | (apply zM; (repeat intro ht); apply zM; (repeat intro hg); apply zM)
  refine wlL ?_ <;> and_intros <;> first | exact hdT | (apply zM; (repeat intro ht); apply zM; (repeat intro hg); apply zM)
  have kp : Kp [0,1,2,3,4,5,29,30,31,32] (fun i => if i = m + 2 then 1 else if i = m + 3 then 2 else if i = tk then 3 else if k ≤ i then i - k + 4 else 0) := kpI
  refine dlL [.gen (.sl (k + 5) 0 L.kl.length) (k + 6) [(m + 2, ⟨1, true, klR L⟩)] [(k + 5, ⟨1, true, klR L⟩), (m + 2, ⟨1, true, klR L⟩)], .gen (.sl (k + 7) 0 L.ul.length) (k + 8) [(m + 3, ⟨1, true, ulR L⟩)] [(k + 7, ⟨1, true, ulR L⟩), (m + 3, ⟨1, true, ulR L⟩)], .gen (.rd 8 L.tl.length (tf L.st)) (k + 10) [(tk, ⟨8, true, tlR L⟩)] [(tk, ⟨8, true, tlR L⟩)]] ?_ <;> and_intros <;> first | exact hdT | (apply zM; (repeat intro ht); apply zM; (repeat intro hg); apply zM)
  refine wlL ?_ <;> and_intros <;> first | exact hdT | (apply zM; (repeat intro ht); apply zM; (repeat intro hg); apply zM)
  obtain ⟨crow, ecr⟩ : ∃ r : List AVal, r = [.lit (.int .i64 L.cpus), .lit (.int .u64 L.credit), .rd 2 L.gl.length (gf L.st), .sl (k + 5) 0 L.kl.length, .sl (k + 7) 0 L.ul.length, .rd 8 L.tl.length (tf L.st), .sl (m + 5) 0 L.sl.length] := ⟨_, rfl⟩
  obtain ⟨zrow, ezr⟩ : ∃ r : List AVal, r = [.lit (.int .i64 0), .lit (.int .u64 0), .lit (.slice none 0 0), .lit (.slice none 0 0), .lit (.slice none 0 0), .lit (.slice none 0 0), .lit (.slice none 0 0)] := ⟨_, rfl⟩
  obtain ⟨F, hF0, hF1⟩ : ∃ F : Nat → Heap, (∀ i, i ≤ g0 → F i = (k + 10, ⟨1, false, cwR (k + 3) n L g0 i⟩) :: (k + 5, ⟨1, true, klR L⟩) :: (k + 7, ⟨1, true, ulR L⟩) :: (k + 1, ⟨7, true, [zrow]⟩) :: (k, ⟨7, false, [crow]⟩) :: MH m tk L) ∧ (∀ i, g0 < i → F i = (k + 10, ⟨1, false, cwR (k + 3) n L g0 i⟩) :: (k + 3, ⟨3, true, slR L g0⟩) :: (k + 5, ⟨1, true, klR L⟩) :: (k + 7, ⟨1, true, ulR L⟩) :: (k + 1, ⟨7, true, [zrow]⟩) :: (k, ⟨7, false, [crow]⟩) :: MH m tk L) := ⟨fun i => if i ≤ g0 then _ else _, fun i hi => if_pos hi, fun i hi => if_neg (by omega)⟩
  refine M_forO (X := Nat) rfl [0,1,2,3,4,5,29,30,31,32] (k + 11) (fun i => [(31, .lit (.int .i64 (i : Int)))]) (fun i => F i) (fun i => i ≤ L.sl.length) (fun i => L.sl.length - i) 0 ?_ (Nat.zero_le _) ?_
  · rw [← cwR_zero (x := k + 3) (n := n) (L := L) (g0 := g0), hF0 0 (Nat.zero_le _), ecr, ezr]
    simp only [MH, LH]
    refine rRL ?_ <;> first | exact hdT | apply zN
    refine Mv.trans (Go.Proofs.T.Mv.impure (k + 10) (by simp (disch := omega) only [AM.look, nq0, ↓reduceIte]; rfl)) ?_
    refine rRL ?_ <;> first | exact hdT | apply zN
    exact wkD
  intro i hi
  by_cases hi2 : i < L.sl.length
  · have hrow := hS.rows i hi2
    have hcget : (cwR (k + 3) n L g0 i)[i]? = some [.lit (.slice none 0 0)] := cwR_nil hi2
    rcases Nat.lt_trichotomy i g0 with hig | hig | hig
    · have cS := cloneS L i n m tk (k + 11) hm (by omega) hi2 hrow (by omega) (by omega) (Γ := Γ)
      have hset := cwR_set (x := k + 3) (n := n) (L := L) (g0 := g0) (r := ssf L.st i) hi2 (by rw [if_neg (by omega)])
      rw [ssf, show L.st.nsp i = n from hrow] at hset
      rw [hF0 i (by omega)]
      rw [ecr, ezr]
      simp only [MH, LH]
      have uU := zA @hrow (zA @hset @hcget)
      refine rRL ?_ <;> first | exact hdT | apply zN
      have kp : Kp [0,1,2,3,4,5,29,30,31,32] (fun i => if k ≤ i then i - k + 1 else 0) := kpI
      refine wlL ?_ <;> and_intros <;> first | exact hdT | (apply zM; (repeat intro ht); apply zM; (repeat intro hg); apply zM)
      rw [← ecr, ← ezr]
      refine clL [.far (.rd 3 n (sf L.st i)) (k + 13) [(k + 10, ⟨1, false, cwR (k + 3) n L g0 i⟩), (k + 5, ⟨1, true, klR L⟩), (k + 7, ⟨1, true, ulR L⟩), (k + 1, ⟨7, true, [zrow]⟩), (k, ⟨7, false, [crow]⟩)] (MH m tk L) (MH m tk L)] ?_ <;> and_intros <;> first | exact hdT | (apply zM; (repeat intro ht); apply zM; (repeat intro hg); apply zM)
      · rw [look_MH6 hm hi2]; rfl
      · intro q; simp only [MH, LH, mrow, ecr, ezr, List.cons_append, List.nil_append]
      · exact MH_apart (fun i hi => by simp only [AM.look]; repeat (rw [if_neg (by omega)])) rfl
      all_goals (try exact cS)
      rw [ecr, ezr]
      simp only [MH, LH]
      refine rRL ?_ <;> first | exact hdT | apply zN
      refine wlL ?_ <;> and_intros <;> first | exact hdT | (apply zM; (repeat intro ht); apply zM; (repeat intro hg); apply zM)
      refine ⟨i + 1, by omega, by omega, ?_⟩
      rw [hF0 (i + 1) (by omega), ecr, ezr]
      simp only [MH, LH]
      refine rRL ?_ <;> first | exact hdT | apply zN
      exact wkD
    · subst hig
      have cS := wS L i n m tk (k + 11) hm (by omega) hi2 hrow (by omega) (by omega) (Γ := Γ)
      have hset := cwR_sw (x := k + 3) (n := n) (L := L) (g0 := i) (y := k + 12) hi2 (by omega)
      rw [hF0 i (by omega)]
      rw [ecr, ezr]
      simp only [MH, LH]
      have uU := zA @hrow (zA @hset @hcget)
      refine rRL ?_ <;> first | exact hdT | apply zN
      have kp : Kp [0,1,2,3,4,5,29,30,31,32] (fun i => if k ≤ i then i - k + 1 else 0) := kpI
      refine wlL ?_ <;> and_intros <;> first | exact hdT | (apply zM; (repeat intro ht); apply zM; (repeat intro hg); apply zM)
      rw [← ecr, ← ezr]
      refine clL [.far (.sl (k + 12) 0 n) (k + 13) [(k + 10, ⟨1, false, cwR (k + 3) n L i i⟩), (k + 5, ⟨1, true, klR L⟩), (k + 7, ⟨1, true, ulR L⟩), (k + 1, ⟨7, true, [zrow]⟩), (k, ⟨7, false, [crow]⟩)] (MH m tk L) ((k + 12, ⟨3, true, slR L i⟩) :: MH m tk L)] ?_ <;> and_intros <;> first | exact hdT | (apply zM; (repeat intro ht); apply zM; (repeat intro hg); apply zM)
      · rw [look_MH6 hm hi2]; rfl
      · intro q; simp only [MH, LH, mrow, ecr, ezr, List.cons_append, List.nil_append]
      · intro q hq; rcases key_new hq with rfl | hq <;> (first | have := keyB_MH hq | skip) <;> simp only [AM.look] <;> (repeat rw [if_neg (by omega)])
      all_goals (try exact cS)
      rw [ecr, ezr]
      simp only [MH, LH]
      refine rRL ?_ <;> first | exact hdT | apply zN
      refine wlL ?_ <;> and_intros <;> first | exact hdT | (apply zM; (repeat intro ht); apply zM; (repeat intro hg); apply zM)
      refine ⟨i + 1, by omega, by omega, ?_⟩
      rw [hF1 (i + 1) (by omega), ecr, ezr]
      refine Mv.trans (Mv.swap (k + 12) (k + 3) ⟨by omega, by omega⟩ ⟨by omega, by omega⟩) ?_
      simp only [MH, LH]
      refine rRL ?_ <;> first | exact hdT | apply zN
      exact wkD
    · have cS := cloneS L i n m tk (k + 11) hm (by omega) hi2 hrow (by omega) (by omega) (Γ := Γ)
      have hset := cwR_set (x := k + 3) (n := n) (L := L) (g0 := g0) (r := ssf L.st i) hi2 (by rw [if_neg (by omega)])
      rw [ssf, show L.st.nsp i = n from hrow] at hset
      rw [hF1 i (by omega)]
      rw [ecr, ezr]
      simp only [MH, LH]
      have uU := zA @hrow (zA @hset @hcget)
      refine rRL ?_ <;> first | exact hdT | apply zN
      have kp : Kp [0,1,2,3,4,5,29,30,31,32] (fun i => if k ≤ i then i - k + 1 else 0) := kpI
      refine wlL ?_ <;> and_intros <;> first | exact hdT | (apply zM; (repeat intro ht); apply zM; (repeat intro hg); apply zM)
      rw [← ecr, ← ezr]
      refine clL [.far (.rd 3 n (sf L.st i)) (k + 13) [(k + 10, ⟨1, false, cwR (k + 3) n L g0 i⟩), (k + 3, ⟨3, true, slR L g0⟩), (k + 5, ⟨1, true, klR L⟩), (k + 7, ⟨1, true, ulR L⟩), (k + 1, ⟨7, true, [zrow]⟩), (k, ⟨7, false, [crow]⟩)] (MH m tk L) (MH m tk L)] ?_ <;> and_intros <;> first | exact hdT | (apply zM; (repeat intro ht); apply zM; (repeat intro hg); apply zM)
      · rw [look_MH6 hm hi2]; rfl
      · intro q; simp only [MH, LH, mrow, ecr, ezr, List.cons_append, List.nil_append]
      · exact MH_apart (fun i hi => by simp only [AM.look]; repeat (rw [if_neg (by omega)])) rfl
      all_goals (try exact cS)
      rw [ecr, ezr]
      simp only [MH, LH]
      refine rRL ?_ <;> first | exact hdT | apply zN
      refine wlL ?_ <;> and_intros <;> first | exact hdT | (apply zM; (repeat intro ht); apply zM; (repeat intro hg); apply zM)
      refine ⟨i + 1, by omega, by omega, ?_⟩
      rw [hF1 (i + 1) (by omega), ecr, ezr]
      simp only [MH, LH]
      refine rRL ?_ <;> first | exact hdT | apply zN
      exact wkD
  · have hil : i = L.sl.length := by omega
    rw [hF1 i (by omega)]
    subst hil
    rw [ecr, ezr]
    simp only [MH, LH]
    refine rRL ?_ <;> first | exact hdT | apply zN
    have kp : Kp [0,1,2,3,4,5,29,30,31,32] (fun i => if k ≤ i then i - k + 1 else 0) := kpI
    refine wlL ?_ <;> and_intros <;> first | exact hdT | (apply zM; (repeat intro ht); apply zM; (repeat intro hg); apply zM)
    have uU := Go.AM.uU; refine cRD ?_; apply zN
    refine ⟨?_, ?_⟩
    · rw [eRV]
    · rw [eRH]
      simp only [MH, LH]
      refine rRL ?_ <;> first | exact hdT | apply zN
end Go.Proofs.T
end
