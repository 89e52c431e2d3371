import Derived.Test.YtkiadljldlppbaaGreatDoorZAR
import Derived.Test.YtkiadljldlppbaaGreatDoorRows
set_option linter.unusedVariables false
set_option linter.unusedSimpArgs false
section
namespace Go.Proofs.T
open Go Go.AM Go.Proofs
set_option maxRecDepth 20000
variable {Γ : List (Nat × List AVal)}
set_option maxHeartbeats 16000000 in
theorem rndD (L : LSt) (n : Nat) (hS : Rt0 L n) (o : Opn) (m tk k : Nat) (hm : m + 6 + L.sl.length ≤ tk) (hk : tk < k) (c : Nat) (hc : o.cpu = (c : Int)) (hcn : c < n) (i : Nat) (hi2 : i < L.tl.length) (p : Int × Int) (W b : Int) (hwp : AM.Pure Tryz.prog Γ 84 [.rp (mcL L), .lit (.int .i64 (c : Int))] (.lit (.int .i64 W))) (hyes : mayP L c p.1 i) (hca : 2 * (L.tsk i).weight ≤ IntKind.i64.wrap (p.2 - W)) (y : Nat) (hb : b = (y : Int)) (hy : y < L.tl.length) (q2 : ¬ (L.tsk y).weight < (L.tsk i).weight) (N : Nat → Fr → Heap → Prop) (Q : AQ) (hN : ∀ k1 fr1 H1, Mv k k1 fr1 H1 (k + 1) (ovr [0,1,3,4,5,6,7,8,9,10,11,12,13,14,19,25,26,27,40,48,49,50,51,116,120] [(50, .lit (.int .i64 ((i + 1 : Nat) : Int))), (10, .lit (.int .i64 (b)))] [(0, .ptr m 0 0), (3, .ptr k 0 0), (6, .lit (.int .i64 p.1)), (7, .lit (.int .i64 p.2)), (48, .sl tk 0 L.tl.length), (49, .lit (.int .i64 (L.tl.length : Int)))]) ((k, ⟨8, true, [opc o]⟩) :: MH m tk L) → N k1 fr1 H1) :
    AM.W Tryz.prog Γ 136 k (cat (bodyOf Tryz.f39) [0, 0, 1, 0, 1, 1, 1, 1, 1]) (thenQ N Q) (k + 1) (ovr [0,1,3,4,5,6,7,8,9,10,11,12,13,14,19,25,26,27,40,48,49,50,51,116,120] [(50, .lit (.int .i64 (i : Int))), (10, .lit (.int .i64 b))] [(0, .ptr m 0 0), (3, .ptr k 0 0), (6, .lit (.int .i64 p.1)), (7, .lit (.int .i64 p.2)), (48, .sl tk 0 L.tl.length), (49, .lit (.int .i64 (L.tl.length : Int)))]) ((k, ⟨8, true, [opc o]⟩) :: MH m tk L) := by
  have hnt := hS.nt
  have hcp := hS.cpus
  have hnu := hS.nu
  have hn1 := hS.n1
  have hn64 := hS.n64
  have hns := hS.ns
  have hneg : ((c : Int) < 0) = False := eq_false (by omega)
  have hO : opc o = [.lit (.int .u8 o.kind), .lit (.int .i64 (c : Int)), .lit (.int .i64 o.task), .lit (.int .i64 o.group), .lit (.int .i64 o.weight), .lit (.int .i64 o.to), .lit (.int .i64 o.ticks), .lit (.int .u64 o.mask)] := by rw [← hc]; rfl
  obtain ⟨NM, eNM⟩ : ∃ x, x = (MH m tk L).map (·.1) := ⟨_, rfl⟩
  have hNM : nub (NM.map (fun i => if k ≤ i then i - k + 1 else 0)) = [0] := by rw [eNM]; exact MH_names hm hk (fun i hi => if_neg (by omega))
  have hT := hS.tk i hi2
  have hTe := hT.e
  simp only [ent, decide_eq_true_eq] at hTe
  obtain ⟨d, hd⟩ : ∃ d : Nat, (L.tsk i).cpu = (d : Int) := ⟨(L.tsk i).cpu.toNat, by have := hT.c0; omega⟩
  have hdn : d < n := by have := hT.c1; omega
  have hmb : IntKind.u64.wrap ((BitVec.ofInt IntKind.u64.bits ((L.tsk i).mask.fdiv (2 ^ min c 64)) &&& BitVec.ofInt IntKind.u64.bits 1).toNat : Int) = (L.tsk i).mask / 2 ^ c % 2 := by
    have := mask_bit (x := (L.tsk i).mask) (c := (c : Int)) hT.m0 hT.m1 (by omega) (by omega)
    rwa [Int.toNat_natCast] at this
  have hmay : mayP L c p.1 i ↔ (L.tsk i).ready = true ∧ (d : Int) = p.1 ∧ (L.tsk i).mask / 2 ^ c % 2 = 1 ∧ L.cur d ≠ (L.tsk i).id := by unfold mayP; rw [hd, Int.toNat_natCast]
  have hw2 : IntKind.i64.wrap (2 * (L.tsk i).weight) = 2 * (L.tsk i).weight := wrap_i64 (by omega) (by omega)
  obtain ⟨V, eV⟩ : ∃ V, V = IntKind.i64.wrap (p.2 - W) := ⟨_, rfl⟩
  have eV2 := eV.symm
  have hcan : canP L p.2 W i b ↔ 2 * (L.tsk i).weight ≤ V ∧ (b < 0 ∨ (L.tsk b.toNat).weight < (L.tsk i).weight) := by unfold canP; rw [← eV]
  rw [hO] at hN ⊢
  simp only [MH, LH]
  try (simp -dsimp -implicitDefEqProofs (disch := omega) only [go_sem, nq0, eq_self, ↓reduceIte])
  obtain ⟨r1, r2, r3, r4⟩ := hmay.1 hyes
  rw [← eV] at hca
  subst hb
  have q1 : (2 * (L.tsk i).weight ≤ V) = True := eq_true hca
  have q3 : ((y : Int) < 0) = False := eq_false (by omega)
  have q4 : ((L.tsk y).weight < (L.tsk i).weight) = False := eq_false q2
  have r2b : ((d : Int) == p.1) = true := by rw [beq_iff_eq]; exact r2
  have r4b : (L.cur d != (L.tsk i).id) = true := by simp [r4]
  have kp : Kp [0,1,3,4,5,6,7,8,9,10,11,12,13,14,19,25,26,27,40,48,49,50,51,116,120] (fun i => if k ≤ i then i - k + 1 else 0) := kpI
  have uU := zA @hd (zA @hmb (zA @hneg (zA @hNM (zA @hw2 (zA @eV2 (zA @r1 (zA @r2b (zA @r3 (zA @r4b (zA @q1 (zA @q3 @q4)))))))))))
  refine wlL ?_; refine zq1 ⟨fun ht => ⟨⟨?_⟩⟩⟩
  refine dlL [.raw (some 95) ⟨.lit (.int .i64 W), k + 2, [], NM⟩] ?_; refine zq2 ⟨⟨⟨?_⟩⟩⟩ ⟨⟨⟨?_⟩⟩⟩
  all_goals (first | exact lend (loc := [(k + 1, ⟨8, true, _⟩), (k, ⟨8, true, _⟩)]) hm rfl (by kernel_rfl) rfl rfl rfl (fun x hx => by simp only [List.mem_cons, List.not_mem_nil, or_false] at hx; rcases hx with hx | hx <;> rw [hx] <;> simp only [] <;> omega) hwp eNM | skip)
  all_goals ((refine wlL ?_; refine zq1 ⟨fun ht => ⟨⟨?_⟩⟩⟩))
  all_goals (refine hN _ _ _ ?_)
  all_goals (try (simp only [MH, LH]))
  all_goals (try (simp -dsimp -implicitDefEqProofs (disch := omega) only [go_sem, nq0, hd, hmb, hneg, hNM, hw2, eV2, r1, r2b, r3, r4b, q1, q3, q4, eq_self, ↓reduceIte]))
  all_goals (exact wkD)
end Go.Proofs.T
end
section
namespace Go.Proofs.T
open Go Go.AM Go.Proofs
set_option maxRecDepth 20000
variable {Γ : List (Nat × List AVal)}
set_option maxHeartbeats 16000000 in
theorem balance (L : LSt) (n : Nat) (hS : Rt0 L n) (o : Opn) (m tk k : Nat) (hm : m + 6 + L.sl.length ≤ tk) (hk : tk < k) : OpOk Γ 39 L n o m tk k := by
  have hnt := hS.nt
  have hcp := hS.cpus
  have hnu := hS.nu
  have hn1 := hS.n1
  have hn64 := hS.n64
  have hns := hS.ns
  have hcpu := cpu L o.cpu m tk (k + 1) hm (by omega) (Γ := Γ)
  by_cases h1 : 0 ≤ o.cpu ∧ o.cpu < L.cpus
  rotate_left
  · rw [decide_eq_false h1] at hcpu
    refine ⟨L, 0, 300, tk, k, hS, ⟨Fwd.refl L, .inr rfl⟩, hm, ⟨hk, .inl rfl⟩, Nat.le_refl _, ?_⟩
    obtain ⟨RH, eRH⟩ : ∃ x : Heap, x = MH m tk L := ⟨_, rfl⟩; obtain ⟨RV, eRV⟩ : ∃ x : AVal, x = res2 (0) 300 := ⟨_, rfl⟩; refine Tr.mono (Tr_in (k := k) (V := RV) (RH := RH) (by omega) (by rw [eRV]; rfl) (by rw [eRH]; exact MH_lt (by omega) (by omega)) ?_) (fun _ _ _ h => ⟨h.1, h.2.1.trans eRV, h.2.2.trans eRH⟩)
    refine Tr_at Tryz.func39 rfl 136 rfl (Nat.le_of_ble_eq_true rfl) ?_
    simp only [MH, LH]
    have kp : Kp [0,1,3,4,5,6,7,8,9,10,11,12,13,14,19,25,26,27,40,48,49,50,51,116,120] (fun i => if k ≤ i then i - k + 1 else 0) := kpI
    refine wlL ?_; refine zq1 ⟨⟨⟨?_⟩⟩⟩
    refine clL [.far (.lit (.bool false)) (k + 1) [(k, ⟨8, true, [opc o]⟩)] (MH m tk L) (MH m tk L)] ?_; refine zq3 ⟨⟨⟨?_⟩⟩⟩ ⟨⟨⟨?_⟩⟩⟩ ⟨⟨⟨?_⟩⟩⟩
    · intro q; simp only [MH, LH, mrow, opc, List.cons_append, List.nil_append]
    · exact MH_apart (fun i hi => by simp only [AM.look]; repeat (rw [if_neg (by omega)])) rfl
    simp only [MH, LH]
    refine rRL ?_; apply zN
    refine wlL ?_; refine zq1 ⟨fun ht => ⟨⟨?_⟩⟩⟩
    have uU := Go.AM.uU; refine cRD ?_; apply zN
    refine ⟨?_, ?_⟩
    · rw [eRV]; rfl
    · rw [eRH]
      simp only [MH, LH]
      exact rRL hdT
  rw [decide_eq_true h1] at hcpu
  obtain ⟨c, hc⟩ : ∃ c : Nat, o.cpu = (c : Int) := ⟨o.cpu.toNat, by omega⟩
  rw [hc] at hcpu
  have hcn : c < n := by omega
  have hneg : ((c : Int) < 0) = False := eq_false (by omega)
  have hO : opc o = [.lit (.int .u8 o.kind), .lit (.int .i64 (c : Int)), .lit (.int .i64 o.task), .lit (.int .i64 o.group), .lit (.int .i64 o.weight), .lit (.int .i64 o.to), .lit (.int .i64 o.ticks), .lit (.int .u64 o.mask)] := by rw [← hc]; rfl
  obtain ⟨NM, eNM⟩ : ∃ x, x = (MH m tk L).map (·.1) := ⟨_, rfl⟩
  have hNM : nub (NM.map (fun i => if k ≤ i then i - k + 1 else 0)) = [0] := by rw [eNM]; exact MH_names hm hk (fun i hi => if_neg (by omega))
  have hwp := weightP L (c : Int) (by omega) (Γ := Γ)
  obtain ⟨W, eW⟩ : ∃ W, W = wtL L (c : Int) L.tl.length := ⟨_, rfl⟩
  rw [← eW] at hwp
  obtain ⟨fm, efm⟩ : ∃ fm, fm = fmN L c n := ⟨_, rfl⟩
  obtain ⟨B, eB⟩ : ∃ B, B = bsN L c fm.1 fm.2 W L.tl.length := ⟨_, rfl⟩
  have hBst : Bst L c B := by rw [eB]; exact bsN_ok (Nat.le_refl _)
  suffices hmain : ∀ (RV : AVal) (RH : Heap) (L' : LSt), L'.sl.length = L.sl.length → (B = -1 → RV = res2 0 6 ∧ RH = MH m tk L) → (∀ j : Nat, B = (j : Int) → j < L.tl.length ∧ RV = res2 (L.tsk j).id 0 ∧ RH = MH m tk L' ∧ Tr Tryz.prog Γ 83 (k + 1) [.ptr m 0 0, .lit (.int .i64 (j : Int)), .lit (.int .i64 (c : Int))] (MH m tk L) (fun k1 r1 H1 => k1 = k + 1 ∧ r1 = .tup [] ∧ H1 = MH m tk L')) → Tr Tryz.prog Γ 39 k [.ptr m 0 0, .agg (opc o)] (MH m tk L) (fun k1 r1 H1 => r1 = RV ∧ leH H1 RH) by
    rcases hBst with hb | ⟨j, hb, hj⟩
    · refine ⟨L, 0, 6, tk, k, hS, ⟨Fwd.refl L, .inr rfl⟩, hm, ⟨hk, .inl rfl⟩, Nat.le_refl _, ?_⟩
      obtain ⟨RH, eRH⟩ : ∃ x : Heap, x = MH m tk L := ⟨_, rfl⟩
      obtain ⟨RV, eRV⟩ : ∃ x : AVal, x = res2 0 6 := ⟨_, rfl⟩
      refine Tr.mono (Tr_in (kk := k) (V := RV) (RH := RH) (by omega) (by rw [eRV]; rfl) (by rw [eRH]; exact MH_lt (by omega) (by omega)) ?_) (fun _ _ _ h => ⟨h.1, h.2.1.trans eRV, h.2.2.trans eRH⟩)
      exact hmain RV RH L rfl (fun _ => ⟨eRV, eRH⟩) (fun j h => by omega)
    · obtain ⟨L', hL', hF', hmove⟩ := move L n hS j hj.1 c hcn hj.2.2.1 (cur_other hS hj.1 hj.2.2.2) m tk (k + 1) hm (by omega) (Γ := Γ)
      have hLs := hF'.ns
      refine ⟨L', (L.tsk j).id, 0, tk, k, hL', ⟨hF', .inl rfl⟩, hm, ⟨hk, .inl rfl⟩, Nat.le_refl _, ?_⟩
      obtain ⟨RH, eRH⟩ : ∃ x : Heap, x = MH m tk L' := ⟨_, rfl⟩
      obtain ⟨RV, eRV⟩ : ∃ x : AVal, x = res2 (L.tsk j).id 0 := ⟨_, rfl⟩
      refine Tr.mono (Tr_in (kk := k) (V := RV) (RH := RH) (by omega) (by rw [eRV]; rfl) (by rw [eRH]; exact MH_lt (by omega) (by omega)) ?_) (fun _ _ _ h => ⟨h.1, h.2.1.trans eRV, h.2.2.trans eRH⟩)
      exact hmain RV RH L' hLs (fun h => by omega) (fun q hq => by
        obtain rfl : q = j := by omega
        exact ⟨hj.1, eRV, eRH, hmove⟩)
  intro RV RH L' hL' hno hyes
  refine Tr_at Tryz.func39 rfl 136 rfl (Nat.le_of_ble_eq_true rfl) ?_
  simp only [MH, LH]
  have kp : Kp [0,1,3,4,5,6,7,8,9,10,11,12,13,14,19,25,26,27,40,48,49,50,51,116,120] (fun i => if k ≤ i then i - k + 1 else 0) := kpI
  have uU := @hc
  refine wlL ?_; refine zq1 ⟨⟨⟨?_⟩⟩⟩
  refine clL [.far (.lit (.bool true)) (k + 1) [(k, ⟨8, true, [opc o]⟩)] (MH m tk L) (MH m tk L)] ?_; refine zq3 ⟨⟨⟨?_⟩⟩⟩ ⟨⟨⟨?_⟩⟩⟩ ⟨⟨⟨?_⟩⟩⟩
  · intro q; simp only [MH, LH, mrow, opc, hc, List.cons_append, List.nil_append]
  · exact MH_apart (fun i hi => by simp only [AM.look]; repeat (rw [if_neg (by omega)])) rfl
  simp only [MH, LH]
  refine rRL ?_; apply zN
  refine wlL ?_; refine zq1 ⟨fun ht => ⟨⟨?_⟩⟩⟩
  refine M_forO (X := Nat) rfl [0,1,3,4,5,6,7,8,9,10,11,12,13,14,19,25,26,27,40,48,49,50,51,116,120] (k + 1) (fun j => [(26, .lit (.int .i64 (j : Int))), (6, .lit (.int .i64 (fmN L c j).1)), (7, .lit (.int .i64 (fmN L c j).2))]) (fun j => (k, ⟨8, true, [opc o]⟩) :: MH m tk L) (fun j => j ≤ n) (fun j => n - j) 0 ?_ (Nat.zero_le _) ?_
  · simp only [MH, LH]
    try simp only [opc, hc]
    rw [fmN]
    refine rRL ?_; apply zN
    exact wkD
  intro j hj
  obtain ⟨p, ep⟩ : ∃ p, p = fmN L c j := ⟨_, rfl⟩
  rw [← ep]
  simp only [MH, LH]
  try simp only [opc, hc]
  refine rRL ?_; apply zN
  by_cases hj2 : j < n
  · have hw := weight L (j : Int) m tk (k + 1) hm (by omega) (by omega) (Γ := Γ)
    obtain ⟨w, ew⟩ : ∃ w, w = wtL L (j : Int) L.tl.length := ⟨_, rfl⟩
    rw [← ew] at hw
    have hsu : fmN L c (j + 1) = if (j : Int) ≠ c ∧ p.2 < w then ((j : Int), w) else p := by rw [fmN, ← ep, ← ew]
    refine wlL ?_; refine zq1 ⟨fun ht => ⟨⟨?_⟩⟩⟩
    refine clL [.far (.lit (.int .i64 w)) (k + 1) [(k, ⟨8, true, [opc o]⟩)] (MH m tk L) (MH m tk L)] ?_; refine zq3 ⟨⟨⟨?_⟩⟩⟩ ⟨⟨⟨?_⟩⟩⟩ ⟨⟨⟨?_⟩⟩⟩
    · intro q; simp only [MH, LH, mrow, opc, hc, List.cons_append, List.nil_append]
    · exact MH_apart (fun i hi => by simp only [AM.look]; repeat (rw [if_neg (by omega)])) rfl
    simp only [MH, LH]
    refine rRL ?_; apply zN
    by_cases hq : (j : Int) ≠ c ∧ p.2 < w
    · rw [if_pos hq] at hsu
      refine wlL ?_; refine zq1 ⟨fun ht => ⟨fun hg => ⟨?_⟩⟩⟩
      refine ⟨j + 1, by omega, by omega, ?_⟩
      rw [hsu]
      simp only [MH, LH]
      try simp only [opc, hc]
      refine rRL ?_; apply zN
      exact wkD
    · rw [if_neg hq] at hsu
      refine wlL ?_; refine zq2 ⟨fun ht => ⟨fun hg => ⟨?_⟩⟩⟩ ⟨fun ht => ⟨fun hg => ⟨?_⟩⟩⟩
      all_goals (refine ⟨j + 1, by omega, by omega, ?_⟩)
      all_goals (rw [hsu])
      all_goals (try (simp only [MH, LH]))
      all_goals (try simp only [opc, hc])
      all_goals (try (simp -dsimp -implicitDefEqProofs (disch := omega) only [go_sem, nq0, hc, eq_self, ↓reduceIte]))
      all_goals (exact wkD)
  have hjn : j = n := by omega
  rw [hjn, ← efm] at ep
  subst ep
  refine wlL ?_; refine zq1 ⟨fun ht => ⟨⟨?_⟩⟩⟩
  refine W_mv (Mv.wk (fr1 := [(0, .ptr m 0 0), (3, .ptr k 0 0), (6, .lit (.int .i64 p.1)), (7, .lit (.int .i64 p.2)), (48, .sl tk 0 L.tl.length), (49, .lit (.int .i64 (L.tl.length : Int))), (50, .lit (.int .i64 0)), (10, .lit (.int .i64 (-1)))]) (k1 := k + 1) (H1 := (k, ⟨8, true, [opc o]⟩) :: MH m tk L) (wk_low (by omega) (by simp -dsimp -implicitDefEqProofs (disch := omega) only [go_sem, nq0, hc, List.map_append, eq_self, ↓reduceIte]) (by rw [hO]; simp only [MH, LH]; simp -dsimp -implicitDefEqProofs (disch := omega) only [go_sem, nq0, hc, List.map_append, eq_self, ↓reduceIte]) (by simp -dsimp -implicitDefEqProofs (disch := omega) only [go_sem, nq0, nq5, ltB_iff, List.map_append, eq_self, ↓reduceIte]) (by rw [hO]; simp only [MH, LH]; simp -dsimp -implicitDefEqProofs (disch := omega) only [go_sem, nq0, nq5, ltB_iff, List.map_append, eq_self, ↓reduceIte]))) ?_
  refine M_forO (X := Nat) rfl [0,1,3,4,5,6,7,8,9,10,11,12,13,14,19,25,26,27,40,48,49,50,51,116,120] (k + 1) (fun i => [(50, .lit (.int .i64 (i : Int))), (10, .lit (.int .i64 (bsN L c p.1 p.2 W i)))]) (fun i => (k, ⟨8, true, [opc o]⟩) :: MH m tk L) (fun i => i ≤ L.tl.length) (fun i => L.tl.length - i) 0 ?_ (Nat.zero_le _) ?_
  · rw [bsN, hO]
    simp only [MH, LH]
    try (simp -dsimp -implicitDefEqProofs (disch := omega) only [go_sem, nq0, hc, eq_self, ↓reduceIte])
    exact wkD
  intro i hi
  obtain ⟨b, eb⟩ : ∃ b, b = bsN L c p.1 p.2 W i := ⟨_, rfl⟩
  have hB : Bst L c b := by rw [eb]; exact bsN_ok hi
  rw [← eb]
  by_cases hi2 : i < L.tl.length
  · have hsu : bsN L c p.1 p.2 W (i + 1) = if mayP L c p.1 i ∧ canP L p.2 W i b then (i : Int) else b := by rw [bsN, ← eb]
    by_cases hmay : mayP L c p.1 i
    rotate_left
    · refine rndS L n hS o m tk k hm hk c hc hcn i hi2 p W b hwp hmay _ _ (fun k1 fr1 H1 h => ⟨i + 1, by omega, by omega, ?_⟩)
      rw [hsu, if_neg (fun h => hmay h.1)]
      exact h
    by_cases hca : 2 * (L.tsk i).weight ≤ IntKind.i64.wrap (p.2 - W)
    rotate_left
    · refine rndA L n hS o m tk k hm hk c hc hcn i hi2 p W b hwp hmay hca _ _ (fun k1 fr1 H1 h => ⟨i + 1, by omega, by omega, ?_⟩)
      rw [hsu, if_neg (fun h => hca h.2.1)]
      exact h
    rcases hB with hb | ⟨y, hb, hy⟩
    · refine rndB L n hS o m tk k hm hk c hc hcn i hi2 p W b hwp hmay hca hb _ _ (fun k1 fr1 H1 h => ⟨i + 1, by omega, by omega, ?_⟩)
      rw [hsu, if_pos ⟨hmay, hca, .inl (by omega)⟩]
      exact h
    · by_cases q2 : (L.tsk y).weight < (L.tsk i).weight
      · refine rndC L n hS o m tk k hm hk c hc hcn i hi2 p W b hwp hmay hca y hb hy.1 q2 _ _ (fun k1 fr1 H1 h => ⟨i + 1, by omega, by omega, ?_⟩)
        rw [hsu, if_pos ⟨hmay, hca, .inr (by rw [hb, Int.toNat_natCast]; exact q2)⟩]
        exact h
      · refine rndD L n hS o m tk k hm hk c hc hcn i hi2 p W b hwp hmay hca y hb hy.1 q2 _ _ (fun k1 fr1 H1 h => ⟨i + 1, by omega, by omega, ?_⟩)
        rw [hsu, if_neg (fun h => by
          have := h.2.2
          rw [hb, Int.toNat_natCast] at this
          omega)]
        exact h
  rw [hO]
  simp only [MH, LH]
  try (simp -dsimp -implicitDefEqProofs (disch := omega) only [go_sem, nq0, hc, eq_self, ↓reduceIte])
  have hil : i = L.tl.length := by omega
  rw [hil, ← eB] at eb
  subst eb
  rcases hB with hb | ⟨y, hb, hy⟩
  · obtain ⟨eRV, eRH⟩ := hno hb
    subst hb
    refine wlL ?_; refine zq1 ⟨fun ht ht => ⟨⟨?_⟩⟩⟩
    have uU := @hc; refine cRD ?_; apply zN
    refine ⟨?_, ?_⟩
    · rw [eRV]; rfl
    · rw [eRH]
      simp only [MH, LH]
      exact rRL hdT
  · obtain ⟨hy1, eRV, eRH, hmv⟩ := hyes y hb
    subst hb
    refine wlL ?_; refine zq1 ⟨fun ht ht => ⟨⟨?_⟩⟩⟩
    refine clL [.far (.tup []) (k + 1) [(k, ⟨8, true, [opc o]⟩)] (MH m tk L) (MH m tk L')] ?_; refine zq3 ⟨⟨⟨?_⟩⟩⟩ ⟨⟨⟨?_⟩⟩⟩ ⟨⟨⟨?_⟩⟩⟩
    · intro q; simp only [MH, LH, mrow, opc, hc, List.cons_append, List.nil_append]
    · exact MH_apart (fun i hi => by simp only [AM.look]; repeat (rw [if_neg (by omega)])) hL'
    simp only [MH, LH]
    refine rRL ?_; apply zN
    refine wlL ?_; refine zq1 ⟨⟨⟨?_⟩⟩⟩
    have uU := @hc; refine cRD ?_; apply zN
    refine ⟨?_, ?_⟩
    · rw [eRV]; rfl
    · rw [eRH]
      simp only [MH, LH]
      exact rRL hdT
end Go.Proofs.T
end
section
namespace Go.Proofs.T
open Go Go.AM Go.Proofs
set_option maxRecDepth 20000
variable {Γ : List (Nat × List AVal)}
structure OpnOk (o : Opn) : Prop where
  k1 : 1 ≤ o.kind
  k2 : o.kind ≤ 10
  m0 : 0 ≤ o.mask
  m1 : o.mask < 18446744073709551616
def opF (kd : Int) : FuncId := if kd = 1 then 31 else if kd = 2 then 32 else if kd = 3 then 33 else if kd = 4 then 33 else if kd = 5 then 34 else if kd = 6 then 35 else if kd = 7 then 36 else if kd = 8 then 37 else if kd = 9 then 38 else 39
theorem op_all (L : LSt) (n : Nat) (hS : Rt0 L n) (o : Opn) (hl : L.tl.length < 1000) (ho : OpnOk o) (m tk k : Nat) (hm : m + 6 + L.sl.length ≤ tk) (hk : tk < k) : OpOk Γ (opF o.kind) L n o m tk k := by
  unfold opF
  repeat' split
  · exact spawn L n hS o hl ⟨ho.m0, ho.m1⟩ m tk k hm hk
  · exact rouse L n hS o m tk k hm hk
  · exact leave L n hS o m tk k hm hk
  · exact leave L n hS o m tk k hm hk
  · exact tick L n hS o m tk k hm hk
  · exact pick L n hS o m tk k hm hk
  · exact reweight L n hS o m tk k hm hk
  · exact regroup L n hS o m tk k hm hk
  · exact migrate L n hS o m tk k hm hk
  · exact balance L n hS o m tk k hm hk
def stepR (m : Nat) : List (List AVal) := [[.bfn 31 m 0 0], [.bfn 32 m 0 0], [.bfn 33 m 0 0], [.bfn 33 m 0 0], [.bfn 34 m 0 0], [.bfn 35 m 0 0], [.bfn 36 m 0 0], [.bfn 37 m 0 0], [.bfn 38 m 0 0], [.bfn 39 m 0 0]]
theorem stepR_get {m : Nat} {kd : Int} (h1 : 1 ≤ kd) (h2 : kd ≤ 10) : (stepR m)[(kd - 1).toNat]? = some [.bfn (opF kd) m 0 0] := by
  obtain ⟨q, rfl⟩ : ∃ q : Nat, kd = (q : Int) + 1 := ⟨(kd - 1).toNat, by omega⟩
  have hq : q < 10 := by omega
  have e : ((q : Int) + 1 - 1).toNat = q := by omega
  rw [e]
  match q, hq with
  | 0, _ => rfl
  | 1, _ => rfl
  | 2, _ => rfl
  | 3, _ => rfl
  | 4, _ => rfl
  | 5, _ => rfl
  | 6, _ => rfl
  | 7, _ => rfl
  | 8, _ => rfl
  | 9, _ => rfl
  | q + 10, h => omega
theorem opF_call {kd : Int} : callable Tryz.prog (opF kd) = true := by
  unfold opF
  repeat' split
  all_goals (first | exact y13 | exact y14 | exact y15 | exact y16 | exact y17 | exact y18 | exact y19 | exact y20 | exact y21)
set_option maxHeartbeats 8000000 in
theorem mdo (L : LSt) (n : Nat) (hS : Rt L n) (o : Opn) (hl : L.tl.length < 1000) (ho : OpnOk o) (m tk k : Nat) (hm : m + 6 + L.sl.length ≤ tk) (hk : tk < k) :
    ∃ L' a e tk' k', Rt L' n ∧ Later L L' ∧ L'.tl.length ≤ L.tl.length + 1 ∧ m + 6 + L.sl.length ≤ tk' ∧ tk' < k' ∧ (tk' = tk ∨ k ≤ tk') ∧ k ≤ k' ∧
      Tr Tryz.prog Γ 14 k [.ptr m 0 0, .agg (opc o)] (MH m tk L) (fun k1 r1 H1 => k1 = k' ∧ r1 = res2 a e ∧ H1 = MH m tk' L') := by
  obtain ⟨M, a, e, tk', k', hM, ⟨hF, hU⟩, h1, ⟨h2, h2'⟩, h3, hT⟩ := op_all L n hS.r0 o hl ho m tk (k + 2) hm (by omega) (Γ := Γ)
  have hMl := hF.ns
  have hkd : IntKind.u8.wrap (o.kind - 1) = o.kind - 1 := wrap_u8 (by have := ho.k1; omega) (by have := ho.k2; omega)
  have hko := ho.k1
  have hk2 := ho.k2
  have hget := stepR_get (m := m) hko hk2
  obtain ⟨SR, eSR⟩ : ∃ x, x = stepR m := ⟨_, rfl⟩
  rw [← eSR] at hget
  have hSRl : SR.length = 10 := by rw [eSR]; rfl
  have hcal : callable Tryz.prog (opF o.kind) = true := opF_call
  simp only [opc, res2] at hT
  by_cases he : e = 0
  · obtain ⟨hR, hRf, hRF, hRt⟩ := riseL_ok hM
    have hrise := rise M n hM m tk' k' (by omega) h2 (Γ := Γ)
    have hRl := hRF.ns
    have hLat := hF.later.trans hRF.later
    refine ⟨riseL M n, a, 0, tk', k', ⟨hR, hRf, cfg_later hS.r0 hR hLat hS.cfg⟩, hLat, by rw [hRt]; exact hF.nt, h1, h2, by omega, by omega, ?_⟩
    subst he
    obtain ⟨RH, eRH⟩ : ∃ x : Heap, x = MH m tk' (riseL M n) := ⟨_, rfl⟩
    obtain ⟨RV, eRV⟩ : ∃ x : AVal, x = res2 a 0 := ⟨_, rfl⟩
    refine Tr.mono (Tr_in (kk := k') (V := RV) (RH := RH) (by omega) (by rw [eRV]; rfl) (by rw [eRH]; exact MH_lt (by omega) (by omega)) ?_) (fun _ _ _ h => ⟨h.1, h.2.1.trans eRV, h.2.2.trans eRH⟩)
    refine Tr_at Tryz.func14 rfl 67 rfl (Nat.le_of_ble_eq_true rfl) ?_
    simp only [MH, LH]
    have kp : Kp [0,1,3,4,5,6,7,8,17,49,62] (fun i => if k ≤ i then i - k + 1 else 0) := kpI
    have uU := @hkd
    refine wlL ?_; refine zq1 ⟨fun ht ht => ⟨fun hg => ⟨?_⟩⟩⟩
    rw [show ([[.bfn 31 m 0 0], [.bfn 32 m 0 0], [.bfn 33 m 0 0], [.bfn 33 m 0 0], [.bfn 34 m 0 0], [.bfn 35 m 0 0], [.bfn 36 m 0 0], [.bfn 37 m 0 0], [.bfn 38 m 0 0], [.bfn 39 m 0 0]] : List (List AVal)) = SR by rw [eSR]; rfl]
    refine S_drw rfl [0,1,3,4,5,6,7,8,17,49,62] [.far (.tup [.lit (.int .i64 a), .lit (.int .i64 0)]) k' [(k + 1, ⟨1, false, SR⟩), (k, ⟨8, true, [opc o]⟩)] (MH m tk L) (MH m tk' M)] (by kernel_rfl) rfl (fun K hK => ?_); simp -dsimp -implicitDefEqProofs (disch := omega) only [go_sem, nq0, hkd, hget, hSRl, hcal, eq_self, ↓reduceIte]; (repeat' (first | (refine And.intro ?_ ?_) | (refine gs_both (fun hb => ?_) (fun hb => ?_) <;> (have hg := hb; (try simp only [nfb] at hg); simp -dsimp -implicitDefEqProofs (disch := omega) only [go_sem, nq0, hkd, hget, hSRl, hcal, hb, hg, eq_self, ↓reduceIte]; clear hb; (try simp only [nfe] at hg))))); (all_goals (try omega))
    · intro q; simp only [MH, LH, mrow, opc, List.cons_append, List.nil_append]
    · exact MH_apart (fun i hi => by simp only [AM.look]; repeat (rw [if_neg (by omega)])) hMl
    refine hK _ _ _ _ (drawC (by simp only [List.map_cons, List.map_nil, shC, List.isEmpty_cons, List.isEmpty_nil, List.isEmpty_map, MH_ie, isEmpty_app, Bool.and_false]; rfl) (by decide +kernel) (by
      simp only [List.all_cons, List.all_nil, Bool.and_true, Bool.true_and]
      exact callOut_lt (MH_lt (by omega) (by omega)) (MH_lt (by omega) (by omega)))) (fun hx => ?_)
    clear hx hK
    simp only [MH, LH]
    have uU := zA @hkd (zA @hget (zA @hSRl @hcal))
    refine rRL ?_; apply zN
    refine wlL ?_; refine zq1 ⟨fun ht => ⟨⟨?_⟩⟩⟩
    refine clL [.far (.tup []) k' [(k + 1, ⟨1, false, SR⟩), (k, ⟨8, true, [opc o]⟩)] (MH m tk' M) (MH m tk' (riseL M n))] ?_; refine zq3 ⟨⟨⟨?_⟩⟩⟩ ⟨⟨⟨?_⟩⟩⟩ ⟨⟨⟨?_⟩⟩⟩
    · intro q; simp only [MH, LH, mrow, opc, List.cons_append, List.nil_append]
    · exact MH_apart (fun i hi => by simp only [AM.look]; repeat (rw [if_neg (by omega)])) hRl
    simp only [MH, LH]
    refine rRL ?_; apply zN
    refine wlL ?_; refine zq1 ⟨⟨⟨?_⟩⟩⟩
    have uU := zA @hkd (zA @hget (zA @hSRl @hcal)); refine cRD ?_; apply zN
    refine ⟨?_, ?_⟩
    · rw [eRV]; rfl
    · rw [eRH]
      simp only [MH, LH]
      exact rRL hdT
  · obtain rfl : M = L := hU.resolve_left he
    refine ⟨M, 0, e, tk', k', hS, Later.refl M, Nat.le_succ _, h1, h2, by omega, by omega, ?_⟩
    obtain ⟨RH, eRH⟩ : ∃ x : Heap, x = MH m tk' M := ⟨_, rfl⟩
    obtain ⟨RV, eRV⟩ : ∃ x : AVal, x = res2 0 e := ⟨_, rfl⟩
    refine Tr.mono (Tr_in (kk := k') (V := RV) (RH := RH) (by omega) (by rw [eRV]; rfl) (by rw [eRH]; exact MH_lt (by omega) (by omega)) ?_) (fun _ _ _ h => ⟨h.1, h.2.1.trans eRV, h.2.2.trans eRH⟩)
    refine Tr_at Tryz.func14 rfl 67 rfl (Nat.le_of_ble_eq_true rfl) ?_
    simp only [MH, LH]
    have kp : Kp [0,1,3,4,5,6,7,8,17,49,62] (fun i => if k ≤ i then i - k + 1 else 0) := kpI
    have uU := @hkd
    refine wlL ?_; refine zq1 ⟨fun ht ht => ⟨fun hg => ⟨?_⟩⟩⟩
    rw [show ([[.bfn 31 m 0 0], [.bfn 32 m 0 0], [.bfn 33 m 0 0], [.bfn 33 m 0 0], [.bfn 34 m 0 0], [.bfn 35 m 0 0], [.bfn 36 m 0 0], [.bfn 37 m 0 0], [.bfn 38 m 0 0], [.bfn 39 m 0 0]] : List (List AVal)) = SR by rw [eSR]; rfl]
    refine S_drw rfl [0,1,3,4,5,6,7,8,17,49,62] [.far (.tup [.lit (.int .i64 a), .lit (.int .i64 e)]) k' [(k + 1, ⟨1, false, SR⟩), (k, ⟨8, true, [opc o]⟩)] (MH m tk M) (MH m tk' M)] (by kernel_rfl) rfl (fun K hK => ?_); simp -dsimp -implicitDefEqProofs (disch := omega) only [go_sem, nq0, hkd, hget, hSRl, hcal, eq_self, ↓reduceIte]; (repeat' (first | (refine And.intro ?_ ?_) | (refine gs_both (fun hb => ?_) (fun hb => ?_) <;> (have hg := hb; (try simp only [nfb] at hg); simp -dsimp -implicitDefEqProofs (disch := omega) only [go_sem, nq0, hkd, hget, hSRl, hcal, hb, hg, eq_self, ↓reduceIte]; clear hb; (try simp only [nfe] at hg))))); (all_goals (try omega))
    · intro q; simp only [MH, LH, mrow, opc, List.cons_append, List.nil_append]
    · exact MH_apart (fun i hi => by simp only [AM.look]; repeat (rw [if_neg (by omega)])) hMl
    refine hK _ _ _ _ (drawC (by simp only [List.map_cons, List.map_nil, shC, List.isEmpty_cons, List.isEmpty_nil, List.isEmpty_map, MH_ie, isEmpty_app, Bool.and_false]; rfl) (by decide +kernel) (by
      simp only [List.all_cons, List.all_nil, Bool.and_true, Bool.true_and]
      exact callOut_lt (MH_lt (by omega) (by omega)) (MH_lt (by omega) (by omega)))) (fun hx => ?_)
    clear hx hK
    simp only [MH, LH]
    have uU := zA @hkd (zA @hget (zA @hSRl @hcal))
    refine rRL ?_; apply zN
    refine wlL ?_; refine zq1 ⟨fun ht => ⟨⟨?_⟩⟩⟩
    have uU := zA @hkd (zA @hget (zA @hSRl @hcal)); refine cRD ?_; apply zN
    refine ⟨?_, ?_⟩
    · rw [eRV]; rfl
    · rw [eRH]
      simp only [MH, LH]
      exact rRL hdT
end Go.Proofs.T
end
section
namespace Go.Proofs.T
open Go Go.AM Go.Proofs
set_option maxRecDepth 20000
variable {Γ : List (Nat × List AVal)}
structure Sm where
  kind : Int
  cpu : Int
  task : Int
  group : Int
  to : Int
  weight : Int
  ticks : Int
  mask : Int
def smc (x : Sm) : List AVal := [.lit (.int .u8 x.kind), .lit (.int .u8 x.cpu), .lit (.int .u8 x.task), .lit (.int .u8 x.group), .lit (.int .u8 x.to), .lit (.int .u16 x.weight), .lit (.int .u32 x.ticks), .lit (.int .u8 x.mask)]
structure SmOk (x : Sm) : Prop where
  k0 : 0 ≤ x.kind ∧ x.kind ≤ 255
  c0 : 0 ≤ x.cpu ∧ x.cpu ≤ 255
  t0 : 0 ≤ x.task ∧ x.task ≤ 255
  g0 : 0 ≤ x.group ∧ x.group ≤ 255
  o0 : 0 ≤ x.to ∧ x.to ≤ 255
  w0 : 0 ≤ x.weight ∧ x.weight ≤ 65535
  i0 : 0 ≤ x.ticks ∧ x.ticks ≤ 4294967295
  m0 : 0 ≤ x.mask ∧ x.mask ≤ 255
def kindL : List Int := [1, 1, 1, 2, 2, 3, 3, 4, 5, 5, 5, 5, 6, 6, 6, 6, 7, 8, 9, 10]
def mskZ (to cpu : Int) : Int := IntKind.u64.wrap ((BitVec.ofInt IntKind.u64.bits (IntKind.u64.wrap (IntKind.u64.wrap (1 * 2 ^ min (1 + to).toNat 64) - 1)) ||| BitVec.ofInt IntKind.u64.bits (IntKind.u64.wrap (1 * 2 ^ min cpu.toNat 64))).toNat : Int)
def opn (x : Sm) : Opn := ⟨kindL.getD (x.kind % 20).toNat 0, x.cpu % 4, 1 + x.task % 12, x.group % 6, 1 + x.weight, x.to % 4, 1 + x.ticks % 16777216, if x.mask % 4 > 0 then mskZ (x.to % 4) (x.cpu % 4) else x.mask⟩
def opL (f : Nat → Sm) (i : Nat) : List (List AVal) := (List.range i).map fun j => opc (opn (f j))
theorem opL_zero (f : Nat → Sm) : opL f 0 = [] := rfl
theorem opL_succ (f : Nat → Sm) (i : Nat) : opL f (i + 1) = opL f i ++ [opc (opn (f i))] := range_snoc
theorem opL_len (f : Nat → Sm) (i : Nat) : (opL f i).length = i := by simp [opL]
attribute [go_sem] opL_len smc
theorem kind_get {q : Nat} (h : q < 20) : (kindL.map fun k => AVal.lit (.int .u8 k))[q]? = some (.lit (.int .u8 (kindL.getD q 0))) := by
  have : q < kindL.length := h
  simp [List.getD, this]
set_option maxHeartbeats 4000000 in
theorem lscript (f : Nat → Sm) (hf : ∀ i, SmOk (f i)) (nl most q : Nat) (hq : q = min nl most) (hn : q ≤ 1000) (hm2 : most ≤ 1000) (hnl : nl ≤ 9223372036854775807) : AM.Pure Tryz.prog Γ 10 [.rd 8 nl (fun i => smc (f i)), .lit (.int .i64 (most : Int))] (.rd 8 q (fun i => opc (opn (f i)))) := by
  refine Pure_at Tryz.func10 rfl 79 rfl (Nat.le_of_ble_eq_true rfl) rfl fun k => ?_
  have e0 : (if (nl : Int) < (most : Int) then (nl : Int) else (most : Int)) = (q : Int) := by split <;> omega
  have e1 : (if (most : Int) < (nl : Int) then (most : Int) else (nl : Int)) = (q : Int) := by split <;> omega
  have kp : Kp [0,1,4,5,7,8,14,15,16,17,53] (fun i => i - k) := kpI
  have uU := zA @e0 @e1
  refine wl ?_; refine zq1 ⟨⟨⟨?_⟩⟩⟩
  refine M_forO (X := Nat) rfl [0,1,4,5,7,8,14,15,16,17,53] (k + 1) (fun i => [(16, .lit (.int .i64 (i : Int))), (5, accV k (opL f i))]) (fun i => accH k 8 (opL f i) []) (fun i => i ≤ q) (fun i => q - i) 0 ?_ (Nat.zero_le _) ?_
  · rw [opL_zero]
    refine rR ?_; apply zN
    exact Mv.wk (wk_low (by omega) (by simp -dsimp -implicitDefEqProofs only [go_sem, e0, e1, List.map_append, eq_self, ↓reduceIte]) (by simp -dsimp -implicitDefEqProofs only [go_sem, e0, e1, List.map_append, eq_self, ↓reduceIte]) (by simp -dsimp -implicitDefEqProofs only [go_sem, e0, e1, List.map_append, eq_self, ↓reduceIte]) (by simp -dsimp -implicitDefEqProofs only [go_sem, e0, e1, List.map_append, eq_self, ↓reduceIte]))
  intro i hi
  obtain ⟨hk0, hc0, ht0, hg0, ho0, hw0, hi0, hm0⟩ := hf i
  obtain ⟨y, ey⟩ : ∃ y, y = f i := ⟨_, rfl⟩
  rw [← ey] at hk0 hc0 ht0 hg0 ho0 hw0 hi0 hm0
  have hqi : (((q - 0 : Nat) : Int)) = (q : Int) := by omega
  have uU := zA @hqi @Nat.sub_zero
  refine rR ?_; apply zN
  by_cases hi2 : i < q
  · have a1 : IntKind.i64.wrap y.cpu = y.cpu := wrap_i64 (by omega) (by omega)
    have a2 : IntKind.i64.wrap y.task = y.task := wrap_i64 (by omega) (by omega)
    have a3 : IntKind.i64.wrap y.group = y.group := wrap_i64 (by omega) (by omega)
    have a4 : IntKind.i64.wrap y.to = y.to := wrap_i64 (by omega) (by omega)
    have a5 : IntKind.i64.wrap y.weight = y.weight := wrap_i64 (by omega) (by omega)
    have a6 : IntKind.u64.wrap y.mask = y.mask := wrap_u64 (by omega) (by omega)
    have b1 : y.cpu.tmod 4 = y.cpu % 4 := Int.tmod_eq_emod_of_nonneg (by omega)
    have b2 : y.task.tmod 12 = y.task % 12 := Int.tmod_eq_emod_of_nonneg (by omega)
    have b3 : y.group.tmod 6 = y.group % 6 := Int.tmod_eq_emod_of_nonneg (by omega)
    have b4 : y.to.tmod 4 = y.to % 4 := Int.tmod_eq_emod_of_nonneg (by omega)
    have b5 : y.ticks.tmod 16777216 = y.ticks % 16777216 := Int.tmod_eq_emod_of_nonneg (by omega)
    have b6 : y.mask.tmod 4 = y.mask % 4 := Int.tmod_eq_emod_of_nonneg (by omega)
    have b7 : y.kind.tmod 20 = y.kind % 20 := Int.tmod_eq_emod_of_nonneg (by omega)
    have c1 : IntKind.i64.wrap (y.cpu % 4) = y.cpu % 4 := wrap_i64 (by omega) (by omega)
    have c2 : IntKind.i64.wrap (y.task % 12) = y.task % 12 := wrap_i64 (by omega) (by omega)
    have c3 : IntKind.i64.wrap (y.group % 6) = y.group % 6 := wrap_i64 (by omega) (by omega)
    have c4 : IntKind.i64.wrap (y.to % 4) = y.to % 4 := wrap_i64 (by omega) (by omega)
    have c5 : IntKind.u32.wrap (y.ticks % 16777216) = y.ticks % 16777216 := wrap_u32 (by omega) (by omega)
    have c6 : IntKind.u8.wrap (y.mask % 4) = y.mask % 4 := wrap_u8 (by omega) (by omega)
    have c7 : IntKind.u8.wrap (y.kind % 20) = y.kind % 20 := wrap_u8 (by omega) (by omega)
    have d1 : IntKind.i64.wrap (1 + y.task % 12) = 1 + y.task % 12 := wrap_i64 (by omega) (by omega)
    have d2 : IntKind.i64.wrap (1 + y.weight) = 1 + y.weight := wrap_i64 (by omega) (by omega)
    have d3 : IntKind.i64.wrap (y.ticks % 16777216) = y.ticks % 16777216 := wrap_i64 (by omega) (by omega)
    have d4 : IntKind.i64.wrap (1 + y.ticks % 16777216) = 1 + y.ticks % 16777216 := wrap_i64 (by omega) (by omega)
    have d5 : IntKind.i64.wrap (1 + y.to % 4) = 1 + y.to % 4 := wrap_i64 (by omega) (by omega)
    obtain ⟨q1, hq1⟩ : ∃ q1 : Nat, y.kind % 20 = (q1 : Int) := ⟨(y.kind % 20).toNat, by omega⟩
    have g1 := kind_get (q := q1) (by omega)
    simp only [kindL, List.map_cons, List.map_nil] at g1
    rw [← Nat.mul_one q1] at g1
    have hq20 : (0 ≤ (q1 : Int) ∧ (q1 : Int) < 20) = True := eq_true (by omega)
    have s1 : (1 + y.to % 4 < 0) = False := eq_false (by omega)
    have s2 : (y.cpu % 4 < 0) = False := eq_false (by omega)
    have ey2 := ey.symm
    have uU := zA @hqi (zA @Nat.sub_zero (zA @ey2 (zA @a1 (zA @a2 (zA @a3 (zA @a4 (zA @a5 (zA @a6 (zA @b1 (zA @b2 (zA @b3 (zA @b4 (zA @b5 (zA @b6 (zA @b7 (zA @c1 (zA @c2 (zA @c3 (zA @c4 (zA @c5 (zA @c6 (zA @c7 (zA @d1 (zA @d2 (zA @d3 (zA @d4 (zA @d5 (zA @hq1 (zA @g1 (zA @hq20 (zA @s1 @s2)))))))))))))))))))))))))))))))
    refine wl ?_; refine zq2 ⟨fun ht ht => ⟨⟨?_⟩⟩⟩ ⟨fun ht ht => ⟨⟨?_⟩⟩⟩
    · refine ⟨i + 1, by omega, by omega, ?_⟩
      have ho : opc (opn (f i)) = [.lit (.int .u8 ([1, 1, 1, 2, 2, 3, 3, 4, 5, 5, 5, 5, 6, 6, 6, 6, 7, 8, 9, 10].getD (q1 * 1) 0)), .lit (.int .i64 (y.cpu % 4)), .lit (.int .i64 (1 + y.task % 12)), .lit (.int .i64 (y.group % 6)), .lit (.int .i64 (1 + y.weight)), .lit (.int .i64 (y.to % 4)), .lit (.int .i64 (1 + y.ticks % 16777216)), .lit (.int .u64 (mskZ (y.to % 4) (y.cpu % 4)))] := by
        rw [← ey]
        simp only [opc, opn, hq1, Int.toNat_natCast, Nat.mul_one, kindL]
        rw [if_pos (by omega)]
        first | rfl | skip
      rw [mskZ] at ho
      rw [opL_succ, ho]
      refine rR ?_; apply zN
      exact Mv.app (k + 4) (k) ⟨by omega, by omega⟩ ⟨by omega, by omega⟩ (wk_low (by omega) (by simp -dsimp -implicitDefEqProofs only [go_sem, hqi, Nat.sub_zero, ey2, a1, a2, a3, a4, a5, a6, b1, b2, b3, b4, b5, b6, b7, c1, c2, c3, c4, c5, c6, c7, d1, d2, d3, d4, d5, hq1, g1, hq20, s1, s2, List.map_append, eq_self, ↓reduceIte]) (by simp -dsimp -implicitDefEqProofs only [go_sem, hqi, Nat.sub_zero, ey2, a1, a2, a3, a4, a5, a6, b1, b2, b3, b4, b5, b6, b7, c1, c2, c3, c4, c5, c6, c7, d1, d2, d3, d4, d5, hq1, g1, hq20, s1, s2, List.map_append, eq_self, ↓reduceIte]) (by simp -dsimp -implicitDefEqProofs only [go_sem, hqi, Nat.sub_zero, ey2, a1, a2, a3, a4, a5, a6, b1, b2, b3, b4, b5, b6, b7, c1, c2, c3, c4, c5, c6, c7, d1, d2, d3, d4, d5, hq1, g1, hq20, s1, s2, List.map_append, eq_self, ↓reduceIte]) (by simp -dsimp -implicitDefEqProofs only [go_sem, hqi, Nat.sub_zero, ey2, a1, a2, a3, a4, a5, a6, b1, b2, b3, b4, b5, b6, b7, c1, c2, c3, c4, c5, c6, c7, d1, d2, d3, d4, d5, hq1, g1, hq20, s1, s2, List.map_append, eq_self, ↓reduceIte]))
    · refine ⟨i + 1, by omega, by omega, ?_⟩
      have ho : opc (opn (f i)) = [.lit (.int .u8 ([1, 1, 1, 2, 2, 3, 3, 4, 5, 5, 5, 5, 6, 6, 6, 6, 7, 8, 9, 10].getD (q1 * 1) 0)), .lit (.int .i64 (y.cpu % 4)), .lit (.int .i64 (1 + y.task % 12)), .lit (.int .i64 (y.group % 6)), .lit (.int .i64 (1 + y.weight)), .lit (.int .i64 (y.to % 4)), .lit (.int .i64 (1 + y.ticks % 16777216)), .lit (.int .u64 y.mask)] := by
        rw [← ey]
        simp only [opc, opn, hq1, Int.toNat_natCast, Nat.mul_one, kindL]
        rw [if_neg (by omega)]
        first | rfl | skip
      rw [opL_succ, ho]
      refine rR ?_; apply zN
      exact Mv.app (k + 4) (k) ⟨by omega, by omega⟩ ⟨by omega, by omega⟩ (wk_low (by omega) (by simp -dsimp -implicitDefEqProofs only [go_sem, hqi, Nat.sub_zero, ey2, a1, a2, a3, a4, a5, a6, b1, b2, b3, b4, b5, b6, b7, c1, c2, c3, c4, c5, c6, c7, d1, d2, d3, d4, d5, hq1, g1, hq20, s1, s2, List.map_append, eq_self, ↓reduceIte]) (by simp -dsimp -implicitDefEqProofs only [go_sem, hqi, Nat.sub_zero, ey2, a1, a2, a3, a4, a5, a6, b1, b2, b3, b4, b5, b6, b7, c1, c2, c3, c4, c5, c6, c7, d1, d2, d3, d4, d5, hq1, g1, hq20, s1, s2, List.map_append, eq_self, ↓reduceIte]) (by simp -dsimp -implicitDefEqProofs only [go_sem, hqi, Nat.sub_zero, ey2, a1, a2, a3, a4, a5, a6, b1, b2, b3, b4, b5, b6, b7, c1, c2, c3, c4, c5, c6, c7, d1, d2, d3, d4, d5, hq1, g1, hq20, s1, s2, List.map_append, eq_self, ↓reduceIte]) (by simp -dsimp -implicitDefEqProofs only [go_sem, hqi, Nat.sub_zero, ey2, a1, a2, a3, a4, a5, a6, b1, b2, b3, b4, b5, b6, b7, c1, c2, c3, c4, c5, c6, c7, d1, d2, d3, d4, d5, hq1, g1, hq20, s1, s2, List.map_append, eq_self, ↓reduceIte]))
  · have hi' : i = q := by omega
    subst hi'
    refine wl ?_; refine zq1 ⟨fun ht => ⟨⟨?_⟩⟩⟩
    refine M_racc rfl (id := k) (s := 8) (l := opL f i) 4 (by simp -dsimp -implicitDefEqProofs only [go_sem, hqi, Nat.sub_zero, List.map_append, eq_self, ↓reduceIte]) (by simp -dsimp -implicitDefEqProofs only [go_sem, hqi, Nat.sub_zero, List.map_append, eq_self, ↓reduceIte]) ?_
    refine ⟨_, rfl, ?_⟩
    rw [rows, opL_len]
    exact VLe.copy' _ _ _
theorem mskZ_ok (a b : Int) : 0 ≤ mskZ a b ∧ mskZ a b < 18446744073709551616 := by
  unfold mskZ
  rw [IntKind.wrap_u64]
  omega
theorem opn_ok {x : Sm} (hx : SmOk x) : OpnOk (opn x) := by
  have hk := hx.k0
  have hm := hx.m0
  obtain ⟨q, hq⟩ : ∃ q : Nat, x.kind % 20 = (q : Int) := ⟨(x.kind % 20).toNat, by omega⟩
  have hq2 : q < 20 := by omega
  have hkd : (opn x).kind = kindL.getD q 0 := by simp only [opn, hq, Int.toNat_natCast]
  have hall : ∀ q, q < 20 → 1 ≤ kindL.getD q 0 ∧ kindL.getD q 0 ≤ 10 := by decide
  have := hall q hq2
  have hmask : 0 ≤ (opn x).mask ∧ (opn x).mask < 18446744073709551616 := by
    show 0 ≤ (if x.mask % 4 > 0 then mskZ (x.to % 4) (x.cpu % 4) else x.mask) ∧ (if x.mask % 4 > 0 then mskZ (x.to % 4) (x.cpu % 4) else x.mask) < 18446744073709551616
    split
    · exact mskZ_ok _ _
    · omega
  exact ⟨by omega, by omega, hmask.1, hmask.2⟩
end Go.Proofs.T
end
section
namespace Go.Proofs.T
open Go Go.AM Go.Proofs Go.ChangeShapes Go.WideShapes Go.ChangeAt Go.WideMaps Go.WideElems Go.RowKit Go.Proofs.YtkiadljldlppbaaGreatDoor
set_option maxRecDepth 100000
theorem ownK : ownKnob Tryz.prog.godebug = none := by kernel_rfl
theorem laidOut : laidOutB Tryz.prog = true := by kernel_rfl
section
variable {H : Type} {enc : TypeId × Value → H} {P : Program} {w : World} {base : Nat} {sp : Nat → Bool} {held : Bool} {fuel : Nat} {t : TypeId} {cs : List Value} {x : DataW H × List MemPlace} {G : Nat → Prop}
theorem dec_field {fs : Array Field} (ht : P.underlying t = some (.struct fs)) (h : DataW.trod enc P w base sp held fuel t cs = some x) :
    cs.length = P.cellsOf t ∧ ∃ n, ∀ (i : Nat) (f : Field), fs[i]? = some f → ∃ y, DataW.trod enc P w base sp held n f.type ((cs.drop f.offset).take (P.cellsOf f.type)) = some y := by
  obtain ⟨xs, n, _, _, h1, h2, h3⟩ := DataW.trod_struct ht h
  refine ⟨h1, n, fun i f hf => ?_⟩
  have hi : i < xs.length := by rw [h2]; exact (Array.getElem?_eq_some_iff.1 hf).1
  exact ⟨xs[i], by rw [h3 i f hf, List.getElem?_eq_getElem hi]⟩
theorem len8 {cs : List Value} (h : cs.length = 8) : ∃ a b c d e f g i, cs = [a, b, c, d, e, f, g, i] := by
  match cs, h with
  | [a, b, c, d, e, f, g, i], _ => exact ⟨a, b, c, d, e, f, g, i, rfl⟩
theorem len13 {cs : List Value} (h : cs.length = 13) : ∃ a b c d0 d1 d2 d3 d4 e0 e1 e2 e3 e4, cs = [a, b, c, d0, d1, d2, d3, d4, e0, e1, e2, e3, e4] := by
  match cs, h with
  | [a, b, c, d0, d1, d2, d3, d4, e0, e1, e2, e3, e4], _ => exact ⟨a, b, c, d0, d1, d2, d3, d4, e0, e1, e2, e3, e4, rfl⟩
theorem u8_rng {n : Int} (h : (Lit.int .u8 n).wf = true) : 0 ≤ n ∧ n ≤ 255 := by
  simp [Lit.wf] at h
  have e1 : IntKind.u8.min = 0 := rfl
  have e2 : IntKind.u8.max = 255 := rfl
  omega
theorem u16_rng {n : Int} (h : (Lit.int .u16 n).wf = true) : 0 ≤ n ∧ n ≤ 65535 := by
  simp [Lit.wf] at h
  have e1 : IntKind.u16.min = 0 := rfl
  have e2 : IntKind.u16.max = 65535 := rfl
  omega
theorem u32_rng' {n : Int} (h : (Lit.int .u32 n).wf = true) : 0 ≤ n ∧ n ≤ 4294967295 := by
  simp [Lit.wf] at h
  have e1 : IntKind.u32.min = 0 := rfl
  have e2 : IntKind.u32.max = 4294967295 := rfl
  omega
theorem dec_arr5 {e : TypeId} {k : IntKind} {c0 c1 c2 c3 c4 : Value} (ht : P.underlying t = some (.array 5 e)) (he : P.underlying e = some (.int k)) (hc : P.cellsOf e = 1) (h : DataW.trod enc P w base sp held fuel t [c0, c1, c2, c3, c4] = some x) :
    ∃ f : Nat → Int, (∀ i, i < 5 → (Lit.int k (f i)).wf = true) ∧ Dec w G [.lit (.int k (f 0)), .lit (.int k (f 1)), .lit (.int k (f 2)), .lit (.int k (f 3)), .lit (.int k (f 4))] [c0, c1, c2, c3, c4] := by
  obtain ⟨xs, m, _, _, _, hl, hx⟩ := DataW.trod_array ht h
  rw [hc] at hx
  have each : ∀ i (hi : i < 5) c, ([c0, c1, c2, c3, c4].drop (i * 1)).take 1 = [c] → ∃ n, Dec w G [.lit (.int k n)] [c] ∧ (Lit.int k n).wf = true := fun i hi c hcx => by
    have h1 := hx i hi
    rw [hcx, List.getElem?_eq_getElem (by omega)] at h1
    exact dec_int he h1
  obtain ⟨a0, d0, w0⟩ := each 0 (by omega) c0 rfl
  obtain ⟨a1, d1, w1⟩ := each 1 (by omega) c1 rfl
  obtain ⟨a2, d2, w2⟩ := each 2 (by omega) c2 rfl
  obtain ⟨a3, d3, w3⟩ := each 3 (by omega) c3 rfl
  obtain ⟨a4, d4, w4⟩ := each 4 (by omega) c4 rfl
  refine ⟨fun i => [a0, a1, a2, a3, a4].getD i 0, fun i hi => ?_, d0.app (d1.app (d2.app (d3.app d4)))⟩
  match i, hi with
  | 0, _ => exact w0
  | 1, _ => exact w1
  | 2, _ => exact w2
  | 3, _ => exact w3
  | 4, _ => exact w4
theorem dec_nums (h : DataW.trod enc Tryz.prog w base sp held fuel 27 cs = some x) : ∃ a : Nums, NumsOk a ∧ Dec w G a.cells cs := by
  obtain ⟨hl, m, hf⟩ := dec_field Tryz.underlying27 h
  have hl13 : cs.length = 13 := hl.trans (by kernel_rfl)
  obtain ⟨c0, c1, c2, p0, p1, p2, p3, p4, w0, w1, w2, w3, w4, rfl⟩ := len13 hl13
  obtain ⟨_, h0⟩ := hf 0 _ rfl
  obtain ⟨_, h1⟩ := hf 1 _ rfl
  obtain ⟨_, h2⟩ := hf 2 _ rfl
  obtain ⟨_, h3⟩ := hf 3 _ rfl
  obtain ⟨_, h4⟩ := hf 4 _ rfl
  obtain ⟨a0, d0, r0⟩ := dec_int (G := G) Tryz.underlying5 h0
  obtain ⟨a1, d1, r1⟩ := dec_int (G := G) Tryz.underlying5 h1
  obtain ⟨a2, d2, r2⟩ := dec_int (G := G) Tryz.underlying22 h2
  obtain ⟨f, r3, d3⟩ := dec_arr5 (G := G) Tryz.underlying23 Tryz.underlying5 (by kernel_rfl) h3
  obtain ⟨g, r4, d4⟩ := dec_arr5 (G := G) Tryz.underlying25 Tryz.underlying24 (by kernel_rfl) h4
  have e0 := u8_rng r0
  have e1 := u8_rng r1
  have e2 := u32_rng' r2
  exact ⟨⟨a0, a1, a2, f, g⟩, ⟨e0.1, e0.2, e1.1, e1.2, e2.1, e2.2, fun i hi => u8_rng (r3 i hi), fun i hi => u16_rng (r4 i hi)⟩, d0.app (d1.app (d2.app (d3.app d4)))⟩
theorem dec_small {n : Nat} {y : DataW H × List MemPlace} (hl : cs.length = 8) (h : DataW.trod enc Tryz.prog w base sp held n 88 cs = some y) : ∃ a : Sm, SmOk a ∧ Dec w G (smc a) cs := by
  obtain ⟨_, m, hf⟩ := dec_field Tryz.underlying88 h
  obtain ⟨c0, c1, c2, c3, c4, c5, c6, c7, rfl⟩ := len8 hl
  obtain ⟨_, h0⟩ := hf 0 _ rfl
  obtain ⟨_, h1⟩ := hf 1 _ rfl
  obtain ⟨_, h2⟩ := hf 2 _ rfl
  obtain ⟨_, h3⟩ := hf 3 _ rfl
  obtain ⟨_, h4⟩ := hf 4 _ rfl
  obtain ⟨_, h5⟩ := hf 5 _ rfl
  obtain ⟨_, h6⟩ := hf 6 _ rfl
  obtain ⟨_, h7⟩ := hf 7 _ rfl
  obtain ⟨a0, d0, r0⟩ := dec_int (G := G) Tryz.underlying5 h0
  obtain ⟨a1, d1, r1⟩ := dec_int (G := G) Tryz.underlying5 h1
  obtain ⟨a2, d2, r2⟩ := dec_int (G := G) Tryz.underlying5 h2
  obtain ⟨a3, d3, r3⟩ := dec_int (G := G) Tryz.underlying5 h3
  obtain ⟨a4, d4, r4⟩ := dec_int (G := G) Tryz.underlying5 h4
  obtain ⟨a5, d5, r5⟩ := dec_int (G := G) Tryz.underlying24 h5
  obtain ⟨a6, d6, r6⟩ := dec_int (G := G) Tryz.underlying22 h6
  obtain ⟨a7, d7, r7⟩ := dec_int (G := G) Tryz.underlying5 h7
  exact ⟨⟨a0, a1, a2, a3, a4, a5, a6, a7⟩, ⟨u8_rng r0, u8_rng r1, u8_rng r2, u8_rng r3, u8_rng r4, u16_rng r5, u32_rng' r6, u8_rng r7⟩, d0.app (d1.app (d2.app (d3.app (d4.app (d5.app (d6.app d7))))))⟩
theorem dec_smalls (hG : ∀ b, b < w.heap.size → G b) (h : DataW.trod enc Tryz.prog w base sp held fuel 28 cs = some x) : ∃ (n : Nat) (f : Nat → Sm), (∀ i, SmOk (f i)) ∧ Dec w G [.rd 8 n (fun i => smc (f i))] cs :=
  dec_slice (G := G) smc SmOk ⟨0, 0, 0, 0, 0, 0, 0, 0⟩ ⟨by simp, by simp, by simp, by simp, by simp, by simp, by simp, by simp⟩ (sz := 8) (by omega) Tryz.underlying28 (by kernel_rfl) hG (fun n cs y hl hy => dec_small hl hy) h
end
section
variable {H : Type} {enc : TypeId × Value → H} {W : World} {d : DataW H} {p : List MemPlace} {r : Reach} {base : Nat} {v : Value}
theorem nums_of (ho : Value.okWide Tryz.prog W r base 27 v) (h : DataW.Trod enc Tryz.prog W 0 (fun _ => true) true 27 v d p) :
    ∃ a : Nums, NumsOk a ∧ V W (fun b => b < W.heap.size) noNames noAllow (.agg a.cells) v := by
  unfold Value.okWide at ho
  rw [Tryz.underlying27] at ho
  obtain ⟨cs, rfl, _⟩ := ho
  obtain ⟨fuel, h⟩ := h
  obtain ⟨a, ha, hd⟩ := dec_nums (G := fun b => b < W.heap.size) h
  exact ⟨a, ha, V.of_dec hd⟩
theorem smalls_of (ho : Value.okWide Tryz.prog W r base 28 v) (h : DataW.Trod enc Tryz.prog W 0 (fun _ => true) true 28 v d p) :
    ∃ (n : Nat) (f : Nat → Sm), n ≤ 9223372036854775807 ∧ (∀ i, SmOk (f i)) ∧ V W (fun b => b < W.heap.size) noNames noAllow (.rd 8 n (fun i => smc (f i))) v := by
  obtain ⟨a, len, cap, rfl⟩ := okWide_slice Tryz.underlying28 ho
  obtain ⟨fuel, h⟩ := h
  obtain ⟨n, f, hf, hd⟩ := dec_smalls (G := fun b => b < W.heap.size) (fun b hb => hb) h
  obtain ⟨c, hc, hv⟩ := hd.2 0 _ rfl
  have e : c = .slice a len cap := by
    simp [Value.cells] at hc
    exact hc.symm
  subst e
  refine ⟨n, f, ?_, hf, hv⟩
  cases hv with
  | rd0 => omega
  | rd _ _ _ h => exact h
end
end Go.Proofs.T
end
section
namespace Go.Proofs.T
open Go Go.AM Go.Proofs
set_option maxRecDepth 20000
variable {Γ : List (Nat × List AVal)}
theorem apC {α : Type} {a : α} {l m : List α} : List.append (a :: l) m = a :: List.append l m := rfl
theorem apE {α : Type} {m : List α} : List.append [] m = m := rfl
section
variable {P : Program} {nt kb : Nat} {Q : AQ} {k : Nat} {fr : Fr} {H : Heap} {c : Code} {p : List Nat}
theorem S_regE {id : Nat} {l l' : List Oper} (hc : cat c p = .region id l.toArray false) (hl : l = l') (keep : List Nat) (cs : List Orc) (hd : dstOk nt l'.toArray = true)
    (h : ∀ K : List Foot → Nat → Fr → Heap → Prop, (∀ tr k' fr' H', (kb ≤ k' → Q .normal k' (restr keep fr') H') → K tr k' fr' H') → RunS P Γ l'.toArray l' cs k fr H K .mk) : AM.W P Γ nt kb (cat c p) Q k fr H := by
  subst hl; exact S_reg hc keep cs hd h
end
def ckB (s : St) (i : Nat) : Bool := decide (s.clk i < 0 ∨ 281474976710656 < s.clk i)
theorem ckOut (t : Int) : AM.Pure Tryz.prog Γ 92 [.lit (.int .i64 t)] (.lit (.bool (decide (t < 0 ∨ 281474976710656 < t)))) := by
  refine Pure_at Tryz.func92 rfl 9 rfl (Nat.le_of_ble_eq_true rfl) rfl fun k => ?_
  have kp : Kp [0,2] (fun i => i - k) := kpI
  refine wl ?_; refine zq2 ⟨⟨fun hg => ⟨?_⟩⟩⟩ ⟨⟨fun hg => ⟨?_⟩⟩⟩
  all_goals (refine C_ret rfl ⟨_, rfl, VLe.of_eq ?_⟩)
  all_goals (simp only [AVal.lit.injEq, Value.bool.injEq]; rw [Bool.eq_iff_iff]; simp only [beq_iff_eq, bne_iff_ne, ne_eq, decide_eq_true_eq, decide_eq_false_iff_not, Bool.and_eq_true, Bool.or_eq_true, Bool.not_eq_true', beq_eq_false_iff_ne, Bool.false_eq_true, Bool.true_eq_false, true_iff, false_iff, iff_true, iff_false]; omega)
theorem ckIdx (s : St) (n : Nat) (hn : n ≤ 1000) : AM.Pure Tryz.prog Γ 116 [.rd 1 n (kf s), .fn 92 []] (.lit (.int .i64 (idx (ckB s) n))) := by
  refine Pure_at Tryz.func116 rfl 19 rfl (Nat.le_of_ble_eq_true rfl) rfl fun k => ?_
  have kp : Kp [0,1,4,5,7,8,9,16] (fun i => i - k) := kpI
  refine wl ?_; refine zq1 ⟨⟨⟨?_⟩⟩⟩
  refine M_forO (X := Nat) rfl [0,1,4,5,7,8,9,16] k (fun i => [(8, .lit (.int .i64 (i : Int)))]) (fun i => []) (fun i => i ≤ n ∧ ∀ j, j < i → ckB s j = false) (fun i => n - i) 0 ?_ ⟨Nat.zero_le _, fun j hj => absurd hj (Nat.not_lt_zero _)⟩ ?_
  · refine rR ?_; apply zN
    exact wkF
  rintro i ⟨hi, hall⟩
  refine rR ?_; apply zN
  refine wl ?_; refine zq2 ⟨fun ht => ⟨⟨?_⟩⟩⟩ ⟨fun ht => ⟨⟨?_⟩⟩⟩
  · refine cl [.ret (.lit (.bool (ckB s i)))] ?_; refine zq2 ⟨⟨⟨?_⟩⟩⟩ ⟨⟨⟨?_⟩⟩⟩
    · exact ckOut (s.clk i)
    refine wl ?_; refine zq2 ⟨fun ht => ⟨⟨?_⟩⟩⟩ ⟨fun ht => ⟨⟨?_⟩⟩⟩
    · refine C_ret rfl ⟨_, rfl, VLe.of_eq ?_⟩
      rw [idx, f0_some hall ht (by omega)]
    · refine ⟨i + 1, ⟨by omega, fun j hj => ?_⟩, by omega, ?_⟩
      · by_cases he : j = i
        · subst he; exact ht
        · exact hall j (by omega)
      · refine rR ?_; apply zN
        exact wkF
  · refine C_ret rfl ⟨_, rfl, VLe.of_eq ?_⟩
    rw [idx, f0_none (fun j hj => hall j (by omega))]
theorem ckAny (s : St) (n : Nat) (hn : n ≤ 1000) : AM.Pure Tryz.prog Γ 91 [.rd 1 n (kf s), .fn 92 []] (.lit (.bool (anyB (ckB s) n))) := by
  refine Pure_at Tryz.func91 rfl 9 rfl (Nat.le_of_ble_eq_true rfl) rfl fun k => ?_
  have kp : Kp [0,1,4] (fun i => i - k) := kpI
  refine wl ?_; refine zq1 ⟨⟨⟨?_⟩⟩⟩
  refine cl [.ret (.lit (.int .i64 (idx (ckB s) n)))] ?_; refine zq2 ⟨⟨⟨?_⟩⟩⟩ ⟨⟨⟨?_⟩⟩⟩
  · exact ckIdx s n hn
  refine C_ret rfl ⟨_, rfl, VLe.of_eq ?_⟩
  rw [idx_any]
def okTk (s : St) (n : Nat) (t : Tk) : Bool := decide (1 ≤ t.id ∧ t.id ≤ 65535 ∧ 0 ≤ t.group ∧ t.group < s.ns ∧ 0 ≤ t.cpu ∧ t.cpu < n ∧ (1 ≤ t.weight ∧ t.weight ≤ 65536) ∧ t.mask / 2 ^ n = 0 ∧ t.mask / 2 ^ t.cpu.toNat % 2 = 1 ∧ ent t.v t.r t.weight = true)
set_option maxHeartbeats 4000000 in
theorem rightTask (s : St) (t : Tk) (n : Nat) (h1 : 1 ≤ n) (h2 : n ≤ 64) (hc : s.cpus = n) (hm0 : 0 ≤ t.mask) (hm1 : t.mask < 18446744073709551616) (hns : s.ns ≤ 1000) :
    AM.Pure Tryz.prog Γ 94 [.agg s.cells, .agg (tkc t)] (.lit (.bool (okTk s n t))) := by
  obtain ⟨T, eT⟩ : ∃ T, T = tkc t := ⟨_, rfl⟩
  obtain ⟨RV, eRV⟩ : ∃ v, v = AVal.lit (.bool (okTk s n t)) := ⟨_, rfl⟩
  rw [← eRV]
  refine Pure_at Tryz.func94 rfl 72 rfl (Nat.le_of_ble_eq_true rfl) (by rw [eRV]; rfl) fun k => ?_
  by_cases hcp : 0 ≤ t.cpu ∧ t.cpu < n
  · have hneg : (t.cpu < 0) = False := eq_false (by omega)
    have hmb := mask_bit (x := t.mask) (c := t.cpu) hm0 hm1 hcp.1 (by omega)
    have hw := mweighs t.weight (Γ := Γ)
    have hwd := mwide t.mask n h1 h2 hm0 hm1 (Γ := Γ)
    have kp : Kp [0,1,2,3,4] (fun i => i - k) := kpI
    have uU := zA @hc (zA @tkc.eq_1 (zA @apC (zA @apE (zA @hneg @hmb))))
    refine wl ?_; refine zq1 ⟨⟨⟨?_⟩⟩⟩
    refine S_regE (l' := ?l) rfl ?hl [0,1,2,3,4] [.ret (.lit (.bool (decide (1 ≤ t.weight ∧ t.weight ≤ 65536)))), .ret (.lit (.bool (decide (t.mask / 2 ^ n ≠ 0)))), .ret (enc t.v t.r t.weight), .ret (.lit (.bool (ent t.v t.r t.weight)))] ?hd (fun K hK => ?h)
    case hl => simp only [apC, apE]; (try rfl)
    case hd => rfl
    refine rR ?_; apply zN
    ((repeat' (first | (refine And.intro ?_ ?_) | (refine gs_both (fun hb => ?_) (fun hb => ?_) <;> (have hg := hb; (try simp only [nfb] at hg); simp -dsimp -implicitDefEqProofs only [go_sem, hc, tkc, apC, apE, hneg, hmb, hb, hg, eq_self, ↓reduceIte]; clear hb; (try simp only [nfe] at hg))))))
    all_goals (try (first | exact hw | exact hwd))
    all_goals (try (exact mentity _ _ _ (by omega) (by omega)))
    all_goals (try (exact chargeRight _ _ _ (by omega) (by omega)))
    any_goals (refine hK _ _ _ _ (fun hx => ?_))
    all_goals (try (clear hx hK))
    all_goals (try (simp -dsimp -implicitDefEqProofs only [go_sem, hc, tkc, apC, apE, hneg, hmb, eq_self, ↓reduceIte]))
    all_goals (refine C_ret rfl ⟨_, rfl, ?_⟩)
    all_goals (rw [eRV]; refine VLe.of_eq ?_; simp only [okTk])
    all_goals (first
      | (rw [decide_eq_false (fun h => by
          obtain ⟨a1, a2, a3, a4, a5, a6, a7, a8, a9, a10⟩ := h
          first | omega | exact hg a8 | exact hg a7 | exact hg a9)])
      | (congr 2; rw [Bool.eq_iff_iff, decide_eq_true_eq]; exact ⟨fun h => ⟨by assumption, by assumption, by assumption, by assumption, by assumption, by assumption, by assumption, Classical.byContradiction (by assumption), by assumption, h⟩, fun h => h.2.2.2.2.2.2.2.2.2⟩))
  · skip
    have hw := mweighs t.weight (Γ := Γ)
    have hwd := mwide t.mask n h1 h2 hm0 hm1 (Γ := Γ)
    have kp : Kp [0,1,2,3,4] (fun i => i - k) := kpI
    have uU := zA @hc (zA @tkc.eq_1 (zA @apC (zA @apE @Nat.le_refl)))
    refine wl ?_; refine zq1 ⟨⟨⟨?_⟩⟩⟩
    refine S_regE (l' := ?l) rfl ?hl [0,1,2,3,4] [.ret (.lit (.bool (decide (1 ≤ t.weight ∧ t.weight ≤ 65536)))), .ret (.lit (.bool (decide (t.mask / 2 ^ n ≠ 0)))), .ret (enc t.v t.r t.weight), .ret (.lit (.bool (ent t.v t.r t.weight)))] ?hd (fun K hK => ?h)
    case hl => simp only [apC, apE]; (try rfl)
    case hd => rfl
    refine rR ?_; apply zN
    ((repeat' (first | (refine And.intro ?_ ?_) | (refine gs_both (fun hb => ?_) (fun hb => ?_) <;> (have hg := hb; (try simp only [nfb] at hg); simp -dsimp -implicitDefEqProofs only [go_sem, hc, tkc, apC, apE, Nat.le_refl, hb, hg, eq_self, ↓reduceIte]; clear hb; (try simp only [nfe] at hg))))))
    all_goals (try (exfalso; omega))
    all_goals (try (first | exact hw | exact hwd))
    all_goals (try (exact mentity _ _ _ (by omega) (by omega)))
    all_goals (try (exact chargeRight _ _ _ (by omega) (by omega)))
    any_goals (refine hK _ _ _ _ (fun hx => ?_))
    all_goals (try (clear hx hK))
    all_goals (try (simp -dsimp -implicitDefEqProofs only [go_sem, hc, tkc, apC, apE, Nat.le_refl, eq_self, ↓reduceIte]))
    all_goals (refine C_ret rfl ⟨_, rfl, ?_⟩)
    all_goals (rw [eRV]; refine VLe.of_eq ?_; simp only [okTk])
    all_goals (first
      | (rw [decide_eq_false (fun h => by
          obtain ⟨a1, a2, a3, a4, a5, a6, a7, a8, a9, a10⟩ := h
          first | omega | exact hg a8 | exact hg a7 | exact hg a9)])
      | (congr 2; rw [Bool.eq_iff_iff, decide_eq_true_eq]; exact ⟨fun h => ⟨by assumption, by assumption, by assumption, by assumption, by assumption, by assumption, by assumption, Classical.byContradiction (by assumption), by assumption, h⟩, fun h => h.2.2.2.2.2.2.2.2.2⟩))
end Go.Proofs.T
end
section
namespace Go.Proofs.T
open Go Go.AM Go.Proofs
set_option maxRecDepth 20000
variable {Γ : List (Nat × List AVal)}
def SpP (s : St) (n g c : Nat) : Prop := ent (s.sp g c).v (s.sp g c).r (s.wt g) = true ∧ (g = 0 → (s.sp g c).v = 0 ∧ (s.sp g c).r = 0)
structure ShP (s : St) (n : Nat) : Prop where
  nk : s.nk = n
  nu : s.nu = n
  ns : s.ns = s.ng
  ck : ∀ i, i < s.nk → ckB s i = false
  sp : ∀ g, g < s.ns → s.nsp g = n ∧ ∀ c, c < n → SpP s n g c
  tk : ∀ i, i < s.nt → (0 < i → (s.tsk (i - 1)).id < (s.tsk i).id) ∧ okTk s n (s.tsk i) = true
theorem anyB_all {p : Nat → Bool} : ∀ {n : Nat}, anyB p n = false → ∀ i, i < n → p i = false
  | 0, _, i, hi => absurd hi (Nat.not_lt_zero _)
  | n + 1, h, i, hi => by
    rw [anyB, Bool.or_eq_false_iff] at h
    rcases Nat.lt_succ_iff_lt_or_eq.1 hi with h' | rfl
    · exact anyB_all h.1 i h'
    · exact h.2
set_option maxHeartbeats 8000000 in
theorem mshaped (s : St) (hs : s.Small) (hk : Kinds s) (n : Nat) (h1 : 1 ≤ n) (h2 : n ≤ 64) (hc : s.cpus = n) (hm : modCfg s = true) (hwt : ∀ g, g < s.ng → 1 ≤ s.wt g ∧ s.wt g ≤ 65536) (b : Bool) (hb : b = true ↔ ShP s n) :
    AM.Pure Tryz.prog Γ 52 [.agg s.cells] (.lit (.bool b)) := by
  obtain ⟨hng, hnk, hnu, hnt, hns, hnsp⟩ := id hs
  have hno : ¬ ShP s n → b = false := fun h => by
    cases hb' : b with
    | false => rfl
    | true => exact absurd (hb.1 hb') h
  have hrc := rightConfig (depthOk Γ) s
  rw [hm] at hrc
  have hca := ckAny s s.nk hnk (Γ := Γ)
  refine Pure_at Tryz.func52 rfl 123 rfl (Nat.le_of_ble_eq_true rfl) rfl fun k => ?_
  have kp : Kp [0,1,2,3,4,6,7,8,40,43,45,46,47,48,57,58,59,60,61,91,95,96,97,98,121] (fun i => i - k) := kpI
  refine wl ?_; refine zq1 ⟨⟨⟨?_⟩⟩⟩
  refine cl [.ret (.lit (.bool true))] ?_; refine zq4 ⟨⟨⟨?_⟩⟩⟩ ⟨⟨fun hg hg => ⟨?_⟩⟩⟩ ⟨⟨fun hg hg => ⟨?_⟩⟩⟩ ⟨⟨fun hg => ⟨?_⟩⟩⟩
  all_goals (try exact hrc)
  · refine wl ?_; refine zq2 ⟨fun ht => ⟨⟨?_⟩⟩⟩ ⟨fun ht => ⟨⟨?_⟩⟩⟩
    · have hbf := hno fun h => by
        have := h.ns
        omega
      subst hbf
      refine C_ret rfl ⟨_, rfl, VLe.refl _⟩
    refine cl [.ret (.lit (.bool (anyB (ckB s) s.nk)))] ?_; refine zq1 ⟨⟨⟨?_⟩⟩⟩
    all_goals (try exact hca)
    have hnn : s.nk = n := by omega
    have hsg : s.ns = s.ng := by omega
    cases hck : anyB (ckB s) s.nk with
    | true =>
      have hbf := hno fun h => by
        have := anyB_false h.ck
        rw [hck] at this; cases this
      subst hbf
      have uU := @hck
      refine wl ?_; refine zq1 ⟨fun ht => ⟨⟨?_⟩⟩⟩
      refine C_ret rfl ⟨_, rfl, VLe.refl _⟩
    | false =>
      have uU := @hck
      refine wl ?_; refine zq1 ⟨fun ht => ⟨⟨?_⟩⟩⟩
      refine M_forO (X := Nat) rfl [0,1,2,3,4,6,7,8,40,43,45,46,47,48,57,58,59,60,61,91,95,96,97,98,121] (k + 1) (fun g => [(47, .lit (.int .i64 (g : Int)))]) (fun g => [(k, ⟨7, true, [s.cells]⟩)]) (fun g => g ≤ s.ns ∧ ∀ g', g' < g → s.nsp g' = n ∧ ∀ c, c < n → SpP s n g' c) (fun g => s.ns - g) 0 ?_ ⟨Nat.zero_le _, fun g' h => absurd h (Nat.not_lt_zero _)⟩ ?_
      · have uU := Go.AM.uU
        refine rR ?_; apply zN
        exact wkF
      rintro g ⟨hg1, hall⟩
      have uU := Go.AM.uU
      refine rR ?_; apply zN
      by_cases hgn : g < s.ns
      · have hw := hwt g (by omega)
        have hsp := hnsp g hgn
        refine wl ?_; refine zq2 ⟨fun ht ht => ⟨⟨?_⟩⟩⟩ ⟨fun ht ht => ⟨⟨?_⟩⟩⟩
        · have hbf := hno fun h => ht (by rw [(h.sp g hgn).1, hc])
          subst hbf
          refine C_ret rfl ⟨_, rfl, VLe.refl _⟩
        have hpn : s.nsp g = n := by omega
        refine M_forO (X := Nat) rfl [0,1,2,3,4,6,7,8,40,43,45,46,47,48,57,58,59,60,61,91,95,96,97,98,121] (k + 1) (fun c => [(60, .lit (.int .i64 (c : Int)))]) (fun c => [(k, ⟨7, true, [s.cells]⟩)]) (fun c => c ≤ s.nsp g ∧ ∀ c', c' < c → SpP s n g c') (fun c => s.nsp g - c) 0 ?_ ⟨Nat.zero_le _, fun c' h => absurd h (Nat.not_lt_zero _)⟩ ?_
        · refine rR ?_; apply zN
          exact wkF
        rintro c ⟨hc1, hal⟩
        refine rR ?_; apply zN
        by_cases hcn : c < s.nsp g
        · have he := mentity (s.sp g c).v (s.sp g c).r (s.wt g) (by omega) (by omega) (Γ := Γ)
          have hch := chargeRight (s.sp g c).v (s.sp g c).r (s.wt g) (by omega) (by omega) (Γ := Γ)
          have hwr : IntKind.u32.wrap (s.wt g) = s.wt g := wrap_u32 (by omega) (by omega)
          have uU := @hwr
          refine wl ?_; refine zq1 ⟨fun ht => ⟨⟨?_⟩⟩⟩
          refine dl [.ret (enc (s.sp g c).v (s.sp g c).r (s.wt g)), .ret (.lit (.bool (ent (s.sp g c).v (s.sp g c).r (s.wt g))))] ?_; refine zq4 ⟨⟨fun hg hg hg => ⟨?_⟩⟩⟩ ⟨⟨fun hg hg hg => ⟨?_⟩⟩⟩ ⟨⟨fun hg hg => ⟨?_⟩⟩⟩ ⟨⟨fun hg => ⟨?_⟩⟩⟩
          all_goals (try (first | exact he | exact hch))
          · refine wl ?_; refine zq2 ⟨fun ht => ⟨⟨?_⟩⟩⟩ ⟨fun ht => ⟨⟨?_⟩⟩⟩
            · have hbf := hno fun h => by
                have := ((h.sp g hgn).2 c (by omega)).2 (by omega)
                omega
              subst hbf
              refine C_ret rfl ⟨_, rfl, VLe.refl _⟩
            · refine ⟨c + 1, ⟨by omega, fun c' hc' => ?_⟩, by omega, ?_⟩
              · rcases Nat.lt_succ_iff_lt_or_eq.1 hc' with h | rfl
                · exact hal c' h
                · exact ⟨by assumption, fun _ => ⟨by omega, by omega⟩⟩
              · refine rR ?_; apply zN
                (have uU := @hwr; exact wkU)
          · have hbf := hno fun h => by
              have := ((h.sp g hgn).2 c (by omega)).2 (by omega)
              omega
            subst hbf
            refine wl ?_; refine zq1 ⟨fun ht => ⟨⟨?_⟩⟩⟩
            refine C_ret rfl ⟨_, rfl, VLe.refl _⟩
          · refine wl ?_; refine zq1 ⟨fun ht => ⟨⟨?_⟩⟩⟩
            · refine ⟨c + 1, ⟨by omega, fun c' hc' => ?_⟩, by omega, ?_⟩
              · rcases Nat.lt_succ_iff_lt_or_eq.1 hc' with h | rfl
                · exact hal c' h
                · exact ⟨by assumption, fun h => absurd h (by omega)⟩
              · refine rR ?_; apply zN
                (have uU := @hwr; exact wkU)
          · have hbf := hno fun h => by
              have := ((h.sp g hgn).2 c (by omega)).1
              rw [hg] at this; cases this
            subst hbf
            refine wl ?_; refine zq1 ⟨fun ht => ⟨⟨?_⟩⟩⟩
            refine C_ret rfl ⟨_, rfl, VLe.refl _⟩
        · have hcn : c = s.nsp g := by omega
          subst hcn
          refine wl ?_; refine zq1 ⟨fun ht => ⟨⟨?_⟩⟩⟩
          refine ⟨g + 1, ⟨by omega, fun g' hg' => ?_⟩, by omega, ?_⟩
          · rcases Nat.lt_succ_iff_lt_or_eq.1 hg' with h | rfl
            · exact hall g' h
            · exact ⟨hpn, fun c hc => hal c (by omega)⟩
          · refine rR ?_; apply zN
            exact wkF
      · have hgn : g = s.ns := by omega
        subst hgn
        refine wl ?_; refine zq1 ⟨fun ht => ⟨⟨?_⟩⟩⟩
        refine M_forO (X := Nat) rfl [0,1,2,3,4,6,7,8,40,43,45,46,47,48,57,58,59,60,61,91,95,96,97,98,121] (k + 1) (fun i => [(97, .lit (.int .i64 (i : Int)))]) (fun i => [(k, ⟨7, true, [s.cells]⟩)]) (fun i => i ≤ s.nt ∧ ∀ j, j < i → (0 < j → (s.tsk (j - 1)).id < (s.tsk j).id) ∧ okTk s n (s.tsk j) = true) (fun i => s.nt - i) 0 ?_ ⟨Nat.zero_le _, fun j h => absurd h (Nat.not_lt_zero _)⟩ ?_
        · refine rR ?_; apply zN
          exact wkF
        rintro i ⟨hi1, hti⟩
        refine rR ?_; apply zN
        by_cases hin : i < s.nt
        · have hrt := rightTask s (s.tsk i) n h1 h2 hc (hk.wf.mask0 i) (hk.wf.mask1 i) hns (Γ := Γ)
          simp only [tkc] at hrt
          refine wl ?_; refine zq1 ⟨fun ht => ⟨⟨?_⟩⟩⟩
          cases hok : okTk s n (s.tsk i) with
          | false =>
            have hbf := hno fun h => by
              have := (h.tk i hin).2
              rw [hok] at this; cases this
            subst hbf
            rw [hok] at hrt
            rcases i with _ | j
            · skip
              refine dl [.ret (.lit (.bool false))] ?_; refine zq2 ⟨⟨⟨?_⟩⟩⟩ ⟨⟨⟨?_⟩⟩⟩
              all_goals (try exact hrt)
              refine wl ?_; refine zq1 ⟨fun ht => ⟨⟨?_⟩⟩⟩
              refine C_ret rfl ⟨_, rfl, VLe.refl _⟩
            · have hj1 : IntKind.i64.wrap ((j : Int) + 1 - 1) = (j : Int) := by rw [show (j : Int) + 1 - 1 = j by omega]; exact wrap_i64 (by omega) (by omega)
              have hj2 : (0 : Int) < (j : Int) + 1 := by omega
              have hj3 : j < s.nt := by omega
              have uU := zA @hj1 (zA @hj2 @hj3)
              refine dl [.ret (.lit (.bool false))] ?_; refine zq3 ⟨⟨fun hg => ⟨?_⟩⟩⟩ ⟨⟨fun hg => ⟨?_⟩⟩⟩ ⟨⟨fun hg => ⟨?_⟩⟩⟩
              all_goals (try exact hrt)
              · refine wl ?_; refine zq1 ⟨fun ht => ⟨⟨?_⟩⟩⟩
                refine C_ret rfl ⟨_, rfl, VLe.refl _⟩
              · refine wl ?_; refine zq1 ⟨fun ht => ⟨⟨?_⟩⟩⟩
                refine C_ret rfl ⟨_, rfl, VLe.refl _⟩
          | true =>
            rw [hok] at hrt
            rcases i with _ | j
            · skip
              refine dl [.ret (.lit (.bool true))] ?_; refine zq2 ⟨⟨⟨?_⟩⟩⟩ ⟨⟨⟨?_⟩⟩⟩
              all_goals (try exact hrt)
              refine wl ?_; refine zq1 ⟨fun ht => ⟨⟨?_⟩⟩⟩
              refine ⟨0 + 1, ⟨by omega, fun j' hj' => ?_⟩, by omega, ?_⟩
              · obtain rfl : j' = 0 := by omega
                exact ⟨fun h => absurd h (Nat.lt_irrefl _), hok⟩
              · refine rR ?_; apply zN
                exact wkF
            · have hj1 : IntKind.i64.wrap ((j : Int) + 1 - 1) = (j : Int) := by rw [show (j : Int) + 1 - 1 = j by omega]; exact wrap_i64 (by omega) (by omega)
              have hj2 : (0 : Int) < (j : Int) + 1 := by omega
              have hj3 : j < s.nt := by omega
              have uU := zA @hj1 (zA @hj2 @hj3)
              refine dl [.ret (.lit (.bool true))] ?_; refine zq3 ⟨⟨fun hg => ⟨?_⟩⟩⟩ ⟨⟨fun hg => ⟨?_⟩⟩⟩ ⟨⟨fun hg => ⟨?_⟩⟩⟩
              all_goals (try exact hrt)
              · refine wl ?_; refine zq1 ⟨fun ht => ⟨⟨?_⟩⟩⟩
                refine ⟨j + 1 + 1, ⟨by omega, fun j' hj' => ?_⟩, by omega, ?_⟩
                · rcases Nat.lt_succ_iff_lt_or_eq.1 hj' with h | rfl
                  · exact hti j' h
                  · refine ⟨fun _ => ?_, hok⟩
                    rw [Nat.add_sub_cancel]
                    omega
                · refine rR ?_; apply zN
                  (have uU := zA @hj1 (zA @hj2 @hj3); exact wkU)
              · have hbf := hno fun h => by
                  have := (h.tk (j + 1) hin).1 (by omega)
                  rw [Nat.add_sub_cancel] at this
                  omega
                subst hbf
                refine wl ?_; refine zq1 ⟨fun ht => ⟨⟨?_⟩⟩⟩
                refine C_ret rfl ⟨_, rfl, VLe.refl _⟩
        · have hin : i = s.nt := by omega
          subst hin
          have hbt : b = true := hb.2 ⟨hnn, by omega, hsg, anyB_all hck, fun g hg => ⟨(hall g hg).1, (hall g hg).2⟩, fun i hi => hti i hi⟩
          subst hbt
          refine wl ?_; refine zq1 ⟨fun ht => ⟨⟨?_⟩⟩⟩
          refine C_ret rfl ⟨_, rfl, VLe.refl _⟩
  · have hbf := hno fun h => hg (by rw [h.nu, hc])
    subst hbf
    refine wl ?_; refine zq1 ⟨fun ht => ⟨⟨?_⟩⟩⟩
    refine C_ret rfl ⟨_, rfl, VLe.refl _⟩
  · have hbf := hno fun h => hg (by rw [h.nk, hc])
    subst hbf
    refine wl ?_; refine zq1 ⟨fun ht => ⟨⟨?_⟩⟩⟩
    refine C_ret rfl ⟨_, rfl, VLe.refl _⟩
end Go.Proofs.T
end
section
namespace Go.Proofs.T
open Go Go.AM Go.Proofs
set_option maxRecDepth 20000
attribute [local irreducible] putO del
variable {Γ : List (Nat × List AVal)}
theorem mshapedF (s : St) (hm : modCfg s = false) : AM.Pure Tryz.prog Γ 52 [.agg s.cells] (.lit (.bool false)) := by
  have hrc := rightConfig (depthOk Γ) s
  rw [hm] at hrc
  refine Pure_at Tryz.func52 rfl 123 rfl (Nat.le_of_ble_eq_true rfl) rfl fun k => ?_
  have kp : Kp [0,1,2,3,4,6,7,8,40,43,45,46,47,48,57,58,59,60,61,91,95,96,97,98,121] (fun i => i - k) := kpI
  refine wl ?_; refine zq1 ⟨⟨⟨?_⟩⟩⟩
  refine cl [.ret (.lit (.bool false))] ?_; refine zq2 ⟨⟨⟨?_⟩⟩⟩ ⟨⟨⟨?_⟩⟩⟩
  all_goals (try exact hrc)
  refine wl ?_; refine zq1 ⟨fun ht => ⟨⟨?_⟩⟩⟩
  refine C_ret rfl ⟨_, rfl, VLe.refl _⟩
theorem mrightF (s : St) (hsh : AM.Pure Tryz.prog Γ 52 [.agg s.cells] (.lit (.bool false))) : AM.Pure Tryz.prog Γ 22 [.agg s.cells] (.lit (.bool false)) := by
  refine Pure_at Tryz.func22 rfl 81 rfl (Nat.le_of_ble_eq_true rfl) rfl fun k => ?_
  have kp : Kp [0,1,2,3,4,5,6,7,8,9,10,13,18,19,20,21,52,54,55,56,57,78] (fun i => i - k) := kpI
  refine wl ?_; refine zq1 ⟨⟨⟨?_⟩⟩⟩
  refine cl [.ret (.lit (.bool false))] ?_; refine zq2 ⟨⟨⟨?_⟩⟩⟩ ⟨⟨⟨?_⟩⟩⟩
  all_goals (try exact hsh)
  refine wl ?_; refine zq1 ⟨fun ht => ⟨⟨?_⟩⟩⟩
  refine C_ret rfl ⟨_, rfl, VLe.refl _⟩
def CurP (L : LSt) (c : Nat) : Prop := L.cur c = 0 ∨ ∃ j, j < L.tl.length ∧ (L.tsk j).ready = true ∧ (L.tsk j).cpu = c ∧ (L.tsk j).id = L.cur c
def FlP (L : LSt) (c : Nat) : Prop := ∀ g, g < L.sl.length → ∀ x, lst L g c = some x → x.v ≤ (L.sp g c).floor
set_option maxHeartbeats 1500000 in
theorem mright (L : LSt) (n : Nat) (hs : L.st.Small) (hsh : AM.Pure Tryz.prog Γ 52 [.agg L.st.cells] (.lit (.bool true))) (hP : ShP L.st n) (hso : Sorted L) (hS : Shp L n) (hns : 0 < L.sl.length)
    (b : Bool) (hb : b = true ↔ ∀ c, c < n → CurP L c ∧ FlP L c) : AM.Pure Tryz.prog Γ 22 [.agg L.st.cells] (.lit (.bool b)) := by
  have hno : ¬ (∀ c, c < n → CurP L c ∧ FlP L c) → b = false := fun h => by
    cases hb' : b with
    | false => rfl
    | true => exact absurd (hb.1 hb') h
  obtain ⟨hng, hnk, hnu, hnt, hns', hnsp⟩ := id hs
  have e1 : L.st.nu = n := hP.nu
  have e0 : L.st.ns = L.sl.length := rfl
  refine Pure_at Tryz.func22 rfl 81 rfl (Nat.le_of_ble_eq_true rfl) rfl fun k => ?_
  have kp : Kp [0,1,2,3,4,5,6,7,8,9,10,13,18,19,20,21,52,54,55,56,57,78] (fun i => i - k) := kpI
  refine wl ?_; refine zq1 ⟨⟨⟨?_⟩⟩⟩
  refine cl [.ret (.lit (.bool true))] ?_; refine zq2 ⟨⟨⟨?_⟩⟩⟩ ⟨⟨⟨?_⟩⟩⟩
  all_goals (try exact hsh)
  refine wl ?_; refine zq1 ⟨fun ht => ⟨⟨?_⟩⟩⟩
  refine W_mv (Mv.freeze (k + 1) (by simp -dsimp -implicitDefEqProofs only [go_sem, eq_self, ↓reduceIte]; rfl) rfl) ?_; simp -dsimp -implicitDefEqProofs only [frzF, frz_app, go_sem, eq_self, ↓reduceIte]
  refine M_forO (X := Nat) rfl [0,1,2,3,4,5,6,7,8,9,10,13,18,19,20,21,52,54,55,56,57,78] (k + 2) (fun c => [(20, .lit (.int .i64 (c : Int)))]) (fun c => [(k, ⟨7, true, [L.st.cells]⟩)]) (fun c => c ≤ L.st.nu ∧ ∀ c', c' < c → CurP L c' ∧ FlP L c') (fun c => L.st.nu - c) 0 ?_ ⟨Nat.zero_le _, fun c' h => absurd h (Nat.not_lt_zero _)⟩ ?_
  · refine rR ?_; apply zN
    exact wkF
  rintro c ⟨hc1, hall⟩
  refine rR ?_; apply zN
  by_cases hcn : c < L.st.nu
  · obtain ⟨r, hr⟩ := find_ex L (L.cur c)
    have hfd := findP L (L.cur c) r hr hso hS.nt (Γ := Γ)
    refine wl ?_; refine zq1 ⟨fun ht => ⟨⟨?_⟩⟩⟩
    refine cl [.ret (.lit (.int .i64 r))] ?_; refine zq2 ⟨⟨⟨?_⟩⟩⟩ ⟨⟨⟨?_⟩⟩⟩
    all_goals (try exact hfd)
    refine M_midO (X := Unit) rfl [0,1,2,3,4,5,6,7,8,9,10,13,18,19,20,21,52,54,55,56,57,78] (k + 2) (fun _ => []) (fun _ => [(k, ⟨7, true, [L.st.cells]⟩)]) (fun _ => CurP L c) ?_ ?_
    · by_cases h0 : L.cur c = 0
      · have hcp : CurP L c := .inl h0
        clear hfd hr hall
        have h0' : L.st.cur c = 0 := h0
        have uU := zA @h0' @h0
        refine wl ?_; refine zq7 ⟨⟨fun hg hg => ⟨?_⟩⟩⟩ ⟨⟨fun hg hg hg => ⟨?_⟩⟩⟩ ⟨fun ht => ⟨fun hg hg hg => ⟨?_⟩⟩⟩ ⟨fun ht => ⟨fun hg hg hg => ⟨?_⟩⟩⟩ ⟨fun ht => ⟨fun hg hg hg => ⟨?_⟩⟩⟩ ⟨fun ht => ⟨fun hg hg => ⟨?_⟩⟩⟩ ⟨fun ht => ⟨fun hg => ⟨?_⟩⟩⟩
        all_goals (try exact absurd trivial ‹¬True›)
        all_goals (refine ⟨(), hcp, ?_⟩; (have uU := zA @h0' @h0; exact wkU))
      · have h0' : ¬ L.st.cur c = 0 := h0
        rcases hr with ⟨rfl, hnone⟩ | ⟨i, hi, rfl, hid⟩
        · have hncp : ¬ CurP L c := fun h => by
            rcases h with h | ⟨j, hj, _, _, h⟩
            · exact absurd h h0
            · exact absurd h (hnone j hj)
          have hbf := hno fun h => hncp (h c (by omega)).1
          subst hbf
          clear hfd hall
          have uU := zA @h0' @h0
          refine wl ?_; refine zq1 ⟨fun ht => ⟨fun hg => ⟨?_⟩⟩⟩
          all_goals (try exact absurd trivial ‹¬True›)
          all_goals (refine C_ret rfl ⟨_, rfl, VLe.refl _⟩)
        · have hi' : i < L.st.nt := hi
          have hcb' : CurP L c → (L.tsk i).ready = true ∧ (L.tsk i).cpu = c := fun h => by
            rcases h with h1 | ⟨j, hj, h2, h3, h4⟩
            · exact absurd h1 h0
            · have : j = i := by
                rcases Nat.lt_trichotomy j i with e | e | e
                · have := hso j i e hi; omega
                · exact e
                · have := hso i j e hj; omega
              subst this
              exact ⟨h2, h3⟩
          have e8 : (i : Int).toNat = i := Int.toNat_natCast i
          have e9 : ((i : Int) < 0) = False := eq_false (by omega)
          cases hrd : (L.tsk i).ready with
          | false =>
            have hbf := hno fun h => by
              have := (hcb' (h c (by omega)).1).1
              rw [hrd] at this; cases this
            subst hbf
            have hrd' : (L.st.tsk i).ready = false := hrd
            clear hfd hall hcb'
            have uU := zA @h0' (zA @h0 (zA @hrd (zA @hrd' (zA @hi' (zA @e8 @e9)))))
            refine wl ?_; refine zq1 ⟨fun ht => ⟨fun hg => ⟨?_⟩⟩⟩
            all_goals (try exact absurd trivial ‹¬True›)
            all_goals (refine C_ret rfl ⟨_, rfl, VLe.refl _⟩)
          | true =>
            have hrd' : (L.st.tsk i).ready = true := hrd
            by_cases hcp : (L.tsk i).cpu = c
            · have hcpp : CurP L c := .inr ⟨i, hi, hrd, hcp, hid⟩
              have hcp' : (L.st.tsk i).cpu = c := hcp
              have hbn : ((c : Int) != (c : Int)) = false := by simp
              clear hfd hall hcb'
              have uU := zA @h0' (zA @h0 (zA @hrd (zA @hrd' (zA @hi' (zA @e8 (zA @e9 (zA @hcp (zA @hcp' @hbn))))))))
              refine wl ?_; refine zq1 ⟨fun ht => ⟨fun hg => ⟨?_⟩⟩⟩
              all_goals (try exact absurd trivial ‹¬True›)
              all_goals (refine ⟨(), hcpp, ?_⟩; (have uU := zA @h0' (zA @h0 (zA @hrd (zA @hrd' (zA @hi' (zA @e8 (zA @e9 (zA @hcp (zA @hcp' @hbn)))))))); exact wkU))
            · have hbf := hno fun h => hcp (hcb' (h c (by omega)).1).2
              subst hbf
              have hcp' : ¬ (L.st.tsk i).cpu = c := hcp
              have hne : ((L.st.tsk i).cpu != (c : Int)) = true := by simpa using hcp'
              clear hfd hall hcb'
              have uU := zA @h0' (zA @h0 (zA @hrd (zA @hrd' (zA @hi' (zA @e8 (zA @e9 (zA @hcp (zA @hcp' @hne))))))))
              refine wl ?_; refine zq1 ⟨fun ht => ⟨fun hg => ⟨?_⟩⟩⟩
              all_goals (try exact absurd trivial ‹¬True›)
              all_goals (refine C_ret rfl ⟨_, rfl, VLe.refl _⟩)
    · rintro _ hcur
      have hcn' : c < n := by omega
      clear hfd hr
      refine rR ?_; apply zN
      refine wl ?_; refine zq1 ⟨⟨⟨?_⟩⟩⟩
      refine M_forO (X := Nat) rfl [0,1,2,3,4,5,6,7,8,9,10,13,18,19,20,21,52,54,55,56,57,78] (k + 2) (fun g => [(56, .lit (.int .i64 (g : Int)))]) (fun g => [(k, ⟨7, true, [L.st.cells]⟩)]) (fun g => g ≤ L.sl.length ∧ ∀ g', g' < g → ∀ x, lst L g' c = some x → x.v ≤ (L.sp g' c).floor) (fun g => L.sl.length - g) 0 ?_ ⟨Nat.zero_le _, fun g' h => absurd h (Nat.not_lt_zero _)⟩ ?_
      · refine rR ?_; apply zN
        exact wkF
      rintro g ⟨hg1, hgall⟩
      refine rR ?_; apply zN
      by_cases hgn : g < L.sl.length
      · have hgn' : g < L.st.ns := hgn
        have hle := leastP L n c hS hcn' L.sl.length g hgn (Nat.sub_le _ _) (Γ := Γ)
        have hrow : L.st.nsp g = n := (hP.sp g hgn).1
        cases hl : lst L g c with
        | none =>
          rw [show leastF L L.sl.length g c = none from hl] at hle
          have uU := zA @hgn (zA @hgn' @hrow)
          refine wl ?_; refine zq1 ⟨fun ht => ⟨⟨?_⟩⟩⟩
          refine cl [.ret (.tup [.agg [.lit (.int .u64 18446744073709551615), .lit (.int .u64 18446744073709551615), .lit (.int .u64 18446744073709551615)], .lit (.bool false)])] ?_; refine zq2 ⟨⟨⟨?_⟩⟩⟩ ⟨⟨⟨?_⟩⟩⟩
          all_goals (try exact hle)
          refine wl ?_; refine zq1 ⟨⟨⟨?_⟩⟩⟩
          refine dl [] ?_; refine zq1 ⟨⟨⟨?_⟩⟩⟩
          refine wl ?_; refine zq1 ⟨fun ht => ⟨⟨?_⟩⟩⟩
          refine ⟨g + 1, ⟨by omega, fun g' hg' => ?_⟩, by omega, ?_⟩
          · rcases Nat.lt_succ_iff_lt_or_eq.1 hg' with h | rfl
            · exact hgall g' h
            · intro x hx; rw [hl] at hx; cases hx
          · refine rR ?_; apply zN
            (have uU := zA @hgn (zA @hgn' @hrow); exact wkU)
        | some x =>
          rw [show leastF L L.sl.length g c = some x from hl] at hle
          have uU := zA @hgn (zA @hgn' @hrow)
          refine wl ?_; refine zq1 ⟨fun ht => ⟨⟨?_⟩⟩⟩
          refine cl [.ret (.tup [.agg [.lit (.int .u64 x.v), .lit (.int .u64 x.b), .lit (.int .u64 x.x)], .lit (.bool true)])] ?_; refine zq2 ⟨⟨⟨?_⟩⟩⟩ ⟨⟨⟨?_⟩⟩⟩
          all_goals (try exact hle)
          refine wl ?_; refine zq1 ⟨⟨⟨?_⟩⟩⟩
          refine dl [.ret (.lit (.int .u64 x.v))] ?_; refine zq2 ⟨⟨⟨?_⟩⟩⟩ ⟨⟨⟨?_⟩⟩⟩
          all_goals (try exact memberV _ _ _)
          refine wl ?_; refine zq2 ⟨fun ht => ⟨⟨?_⟩⟩⟩ ⟨fun ht => ⟨⟨?_⟩⟩⟩
          · have hbf := hno fun h => by
              have := (h c (by omega)).2 g hgn x hl
              have ht' : (L.sp g c).floor < x.v := by assumption
              omega
            subst hbf
            refine C_ret rfl ⟨_, rfl, VLe.refl _⟩
          · refine ⟨g + 1, ⟨by omega, fun g' hg' => ?_⟩, by omega, ?_⟩
            · rcases Nat.lt_succ_iff_lt_or_eq.1 hg' with h | rfl
              · exact hgall g' h
              · intro y hy
                rw [hl] at hy
                cases hy
                have ht' : x.v ≤ (L.sp g' c).floor := by assumption
                exact ht'
            · refine rR ?_; apply zN
              (have uU := zA @hgn (zA @hgn' @hrow); exact wkU)
      · have hgn : g = L.sl.length := by omega
        subst hgn
        refine wl ?_; refine zq1 ⟨fun ht => ⟨⟨?_⟩⟩⟩
        refine ⟨c + 1, ⟨by omega, fun c' hc' => ?_⟩, by omega, ?_⟩
        · rcases Nat.lt_succ_iff_lt_or_eq.1 hc' with h | rfl
          · exact hall c' h
          · exact ⟨hcur, fun g hg => hgall g hg⟩
        · refine rR ?_; apply zN
          exact wkF
  · have hcn : c = L.st.nu := by omega
    subst hcn
    have hbt : b = true := hb.2 fun c hc => hall c (by omega)
    subst hbt
    refine wl ?_; refine zq1 ⟨fun ht => ⟨⟨?_⟩⟩⟩
    refine C_ret rfl ⟨_, rfl, VLe.refl _⟩
end Go.Proofs.T
end
section
namespace Go.Proofs.T
open Go Go.AM Go.Proofs
set_option maxRecDepth 20000
variable {Γ : List (Nat × List AVal)}
def grR (s : St) : List (List AVal) := (List.range s.ng).map (gf s)
theorem copyConfigO (s : St) (hs : s.Small) (hpos : 0 < s.ng) (k : Nat) :
    Tr Tryz.prog Γ 50 k [.agg s.cfg] [] (fun k1 r1 H1 => k1 = k + 3 ∧ r1 = .agg [.lit (.int .i64 s.cpus), .lit (.int .u64 s.credit), .sl (k + 2) 0 s.ng] ∧ H1 = [(k + 2, ⟨2, true, grR s⟩)]) := by
  have hng := hs.ng
  obtain ⟨RH, eRH⟩ : ∃ x : Heap, x = [(k + 2, ⟨2, true, grR s⟩)] := ⟨_, rfl⟩
  refine Tr.mono (Tr_in (kk := k + 3) (V := .agg [.lit (.int .i64 s.cpus), .lit (.int .u64 s.credit), .sl (k + 2) 0 s.ng]) (RH := RH) (by omega) (by simp [bd, bd1, bd0, ltB]) (by rw [eRH]; exact bdH_cons1 (by simp only [ltB, decide_eq_true_eq]; omega) rfl) ?_) (fun _ _ _ h => ⟨h.1, h.2.1, h.2.2.trans eRH⟩)
  refine Tr_at Tryz.func50 rfl 10 rfl (Nat.le_of_ble_eq_true rfl) ?_
  have hne : s.ng ≠ 0 := by omega
  have eg : (List.range s.ng).map (gf s) = grR s := rfl
  have hone : ((grR s).all fun row => row.all AM.one) = true := rows_one_of _ _ fun _ => rfl
  have kp : Kp [0,1,2,3] (fun i => i - k) := kpI
  have uU := zA @hne (zA @hpos (zA @eg @hone))
  refine wl ?_; refine zq1 ⟨⟨⟨?_⟩⟩⟩
  have uU := zA @hne (zA @hpos (zA @eg @hone)); refine cR ?_; apply zN
  refine ⟨rfl, ?_⟩
  rw [eRH]
  exact rR hdT
def klR' (s : St) : List (List AVal) := (List.range s.nk).map (kf s)
end Go.Proofs.T
end
section
namespace Go.Proofs.T
open Go Go.AM Go.Proofs
set_option maxRecDepth 20000
variable {Γ : List (Nat × List AVal)}
def oR (s : St) (k i : Nat) : List (List AVal) := (List.range i).map fun j => if j < 3 then [.sl (k + (3 + j)) 0 (s.nsp j)] else ssf s j
theorem oR_succ {s : St} {k i : Nat} : oR s k (i + 1) = oR s k i ++ [if i < 3 then [.sl (k + (3 + i)) 0 (s.nsp i)] else ssf s i] := range_snoc
theorem oR_len {s : St} {k i : Nat} : (oR s k i).length = i := by simp [oR]
theorem oR_one {s : St} {k i : Nat} : ((oR s k i).all fun row => row.all AM.one) = true := all_rows fun j => by
  split <;> rfl
theorem oR_bd {s : St} {k i k' : Nat} (h : k + 6 ≤ k') : ((oR s k i).all fun row => row.all (bd0 (ltB k'))) = true := by
  rw [List.all_eq_true]
  intro row hr
  simp only [oR, List.mem_map] at hr
  obtain ⟨j, _, rfl⟩ := hr
  split
  · simp [bd0, ltB]; omega
  · rfl
theorem oR_sw' {s : St} {k i a : Nat} (ha : k + 6 ≤ a) : (oR s k i).map (fun row => row.map (sw0 a (k + 2))) = oR s k i := by
  unfold oR
  rw [List.map_map]
  refine List.map_congr_left fun j hj => ?_
  simp only [Function.comp]
  split
  · simp only [List.map_cons, List.map_nil, sw0, sw]
    rw [if_neg (by omega), if_neg (by omega)]
  · rfl
theorem oR_frz {s : St} {k i id : Nat} {B : Blk} (h : k + 6 ≤ id) : (oR s k i).map (fun row => row.map (frz0 id B)) = oR s k i := by
  unfold oR
  rw [List.map_map]
  refine List.map_congr_left fun j hj => ?_
  simp only [Function.comp]
  split
  · simp only [List.map_cons, List.map_nil, frz0]
    rw [if_neg (by omega)]
  · rfl
theorem oR1 {s : St} {k : Nat} : oR s k 1 = [[.sl (k + 3) 0 (s.nsp 0)]] := rfl
theorem oR2 {s : St} {k : Nat} : oR s k 2 = [[.sl (k + 3) 0 (s.nsp 0)], [.sl (k + 4) 0 (s.nsp 1)]] := rfl
theorem oR3 {s : St} {k : Nat} : oR s k 3 = [[.sl (k + 3) 0 (s.nsp 0)], [.sl (k + 4) 0 (s.nsp 1)], [.sl (k + 5) 0 (s.nsp 2)]] := rfl
def sRs (s : St) (g : Nat) : List (List AVal) := (List.range (s.nsp g)).map (sf s g)
def inn (s : St) (k : Nat) : Nat → Heap
  | 0 => []
  | 1 => [(k + 2, ⟨1, false, oR s k 1⟩), (k + 3, ⟨3, true, sRs s 0⟩)]
  | 2 => [(k + 2, ⟨1, false, oR s k 2⟩), (k + 3, ⟨3, true, sRs s 0⟩), (k + 4, ⟨3, true, sRs s 1⟩)]
  | i + 3 => [(k + 2, ⟨1, false, oR s k (i + 3)⟩), (k + 3, ⟨3, true, sRs s 0⟩), (k + 4, ⟨3, true, sRs s 1⟩), (k + 5, ⟨3, true, sRs s 2⟩)]
def inv4 (k : Nat) : Nat → AVal
  | 0 => .lit (.slice none 0 0)
  | i + 1 => .sl (k + 2) 0 (i + 1)
theorem inn_ge {s : St} {k i : Nat} (h : 3 ≤ i) : inn s k i = [(k + 2, ⟨1, false, oR s k i⟩), (k + 3, ⟨3, true, sRs s 0⟩), (k + 4, ⟨3, true, sRs s 1⟩), (k + 5, ⟨3, true, sRs s 2⟩)] := by
  obtain ⟨j, rfl⟩ : ∃ j, i = j + 3 := ⟨i - 3, by omega⟩
  rfl
theorem inv4_ge {k i : Nat} (h : 3 ≤ i) : inv4 k i = .sl (k + 2) 0 i := by
  obtain ⟨j, rfl⟩ : ∃ j, i = j + 3 := ⟨i - 3, by omega⟩
  rfl
theorem copyIntsG (n : Nat) (f : Nat → List AVal) (hn : n ≤ 1000) (hpos : 0 < n) (hone : (((List.range n).map f).all fun row => row.all AM.one) = true) (k : Nat) :
    Tr Tryz.prog Γ 51 k [.rd 1 n f] [] (fun k1 r1 H1 => k1 = k + 1 ∧ r1 = .sl k 0 n ∧ H1 = [(k, ⟨1, true, (List.range n).map f⟩)]) := by
  obtain ⟨R, eR⟩ : ∃ R, R = (List.range n).map f := ⟨_, rfl⟩
  rw [← eR] at hone ⊢
  obtain ⟨RH, eRH⟩ : ∃ x : Heap, x = [(k, ⟨1, true, R⟩)] := ⟨_, rfl⟩
  refine Tr.mono (Tr_in (kk := k + 1) (V := .sl k 0 n) (RH := RH) (by omega) (by simp [bd, bd1, bd0, ltB]) (by rw [eRH]; exact bdH_cons1 (by simp only [ltB, decide_eq_true_eq]; omega) rfl) ?_) (fun _ _ _ h => ⟨h.1, h.2.1, h.2.2.trans eRH⟩)
  refine Tr_at Tryz.func51 rfl 7 rfl (Nat.le_of_ble_eq_true rfl) ?_
  have hne : n ≠ 0 := by omega
  have eg := eR.symm
  have kp : Kp [0,2,3] (fun i => i - k) := kpI
  have uU := zA @hne (zA @hpos (zA @eg @hone))
  refine wl ?_; refine zq1 ⟨⟨⟨?_⟩⟩⟩
  have uU := zA @hne (zA @hpos (zA @eg @hone)); refine cR ?_; apply zN
  refine ⟨rfl, ?_⟩
  rw [eRH]
  exact rR hdT
def tkR' (s : St) : List (List AVal) := (List.range s.nt).map (tf s)
def ulR' (s : St) : List (List AVal) := (List.range s.nu).map (uf s)
theorem Mv.rowN {kb k : Nat} {fr : Fr} {H : Heap} (id : Nat) {s : Nat} {l : List (List AVal)} {r : List AVal} (r' : List AVal) (hH : AM.look H id = some ⟨s, false, l ++ [r]⟩) (hr : VLes r r') :
    Mv kb k fr H k fr ((id, ⟨s, false, l ++ [r']⟩) :: del H id) := fun hk => Mv.wk ⟨hk, fun t v h => ⟨v, h, VLe.refl v⟩, fun i B hB => by
  rw [look_cons_del] at hB
  split at hB
  · rename_i he
    subst he
    cases hB
    obtain ⟨h1, h2⟩ := hr.spec
    refine ⟨_, hH, rfl, fun q row' hq => ?_, fun h => by cases h⟩
    rw [List.getElem?_append] at hq
    split at hq
    · rename_i hlt
      exact ⟨row', by rw [List.getElem?_append_left hlt]; exact hq, rfl, fun c u v hu hv => by rw [hu] at hv; cases hv; exact VLe.refl _⟩
    · rename_i hge
      have hq0 : q - l.length = 0 := by
        have := (List.getElem?_eq_some_iff.1 hq).1
        simp at this; exact this
      rw [hq0] at hq
      cases hq
      exact ⟨r, by rw [List.getElem?_append_right (by omega), hq0]; rfl, h1, fun c u v hu hv => h2 c u v hu hv⟩
  · exact ⟨B, hB, BLe.refl B⟩, .inl rfl⟩ hk
set_option maxHeartbeats 8000000 in
theorem copyStateA (s : St) (hs : s.Small) (h3 : 3 ≤ s.ns) (hp : ∀ g, g < s.ns → 0 < s.nsp g) (hg0 : 0 < s.ng) (hk0 : 0 < s.nk) (hu0 : 0 < s.nu) (ht0 : 0 < s.nt) (k : Nat) :
    Tr Tryz.prog Γ 21 k [.agg s.cells] [] (fun k1 r1 H1 => k1 = k + 12 ∧ r1 = .agg [.lit (.int .i64 s.cpus), .lit (.int .u64 s.credit), .sl (k + 8) 0 s.ng, .sl (k + 9) 0 s.nk, .sl (k + 10) 0 s.nu, .sl (k + 11) 0 s.nt, .sl (k + 2) 0 s.ns] ∧
      H1 = [(k + 11, ⟨8, true, tkR' s⟩), (k + 10, ⟨1, true, ulR' s⟩), (k + 9, ⟨1, true, klR' s⟩), (k + 8, ⟨2, true, grR s⟩), (k + 5, ⟨3, true, sRs s 2⟩), (k + 4, ⟨3, true, sRs s 1⟩), (k + 3, ⟨3, true, sRs s 0⟩), (k + 2, ⟨1, false, oR s k s.ns⟩)]) := by
  obtain ⟨hng, hnk, hnu, hnt, hns, hnsp⟩ := id hs
  obtain ⟨V, eV⟩ : ∃ v : AVal, v = .agg [.lit (.int .i64 s.cpus), .lit (.int .u64 s.credit), .sl (k + 8) 0 s.ng, .sl (k + 9) 0 s.nk, .sl (k + 10) 0 s.nu, .sl (k + 11) 0 s.nt, .sl (k + 2) 0 s.ns] := ⟨_, rfl⟩
  obtain ⟨RH, eRH⟩ : ∃ x : Heap, x = [(k + 11, ⟨8, true, tkR' s⟩), (k + 10, ⟨1, true, ulR' s⟩), (k + 9, ⟨1, true, klR' s⟩), (k + 8, ⟨2, true, grR s⟩), (k + 5, ⟨3, true, sRs s 2⟩), (k + 4, ⟨3, true, sRs s 1⟩), (k + 3, ⟨3, true, sRs s 0⟩), (k + 2, ⟨1, false, oR s k s.ns⟩)] := ⟨_, rfl⟩
  refine Tr.mono (Tr_in (kk := k + 12) (V := V) (RH := RH) (by omega) (by rw [eV]; simp [bd, bd1, bd0, ltB]) ?_ ?_) (fun _ _ _ h => ⟨h.1, h.2.1.trans eV, h.2.2.trans eRH⟩)
  · have := oR_bd (s := s) (k := k) (i := s.ns) (k' := k + 12) (by omega)
    rw [eRH]
    simp only [bdH, List.all_cons, List.all_nil, this, ltB, Bool.true_or, Bool.false_or, Bool.and_true, Bool.and_eq_true, decide_eq_true_eq]
    repeat' (first | (refine And.intro ?_ ?_) | omega | trivial)
  refine Tr_at Tryz.func21 rfl 44 rfl (Nat.le_of_ble_eq_true rfl) ?_
  have kp : Kp [0,1,2,3,4,5,6,11] (fun i => i - k) := kpI
  refine wl ?_; refine zq1 ⟨⟨⟨?_⟩⟩⟩
  refine M_forO (X := Nat) rfl [0,1,2,3,4,5,6,11] (k + 6) (fun i => [(5, .lit (.int .i64 (i : Int))), (4, inv4 k i)]) (fun i => (k + 1, ⟨7, true, [zst]⟩) :: (k, ⟨7, true, [s.cells]⟩) :: inn s k i) (fun i => i ≤ s.ns) (fun i => s.ns - i) 0 ?_ (Nat.zero_le _) ?_
  · rw [show inv4 k 0 = .lit (.slice none 0 0) from rfl, show inn s k 0 = [] from rfl]
    refine Mv.trans (Mv.raise (k2 := k + 6) (by omega)) ?_
    refine rR ?_; apply zN
    exact wkF
  intro i hi
  by_cases hi2 : i < s.ns
  · have hpos : 0 < s.nsp i := hp i hi2
    have hle : s.nsp i ≤ 1000 := hnsp i hi2
    have hz : ¬ s.nsp i = 0 := by omega
    have er : (List.range (s.nsp i)).map (sf s i) = sRs s i := rfl
    have hso : ((sRs s i).all fun row => row.all AM.one) = true := rows_one_of _ _ fun _ => rfl
    have hsl : (sRs s i).length = s.nsp i := by simp [sRs]
    have hoo := oR_one (s := s) (k := k) (i := i)
    have hbd := oR_bd (s := s) (k := k) (i := i) (k' := k + 6) (Nat.le_refl _)
    by_cases hi3 : 3 ≤ i
    · rw [inn_ge hi3, inv4_ge hi3]
      have hi0 : ¬ i = 0 := by omega
      have uU := zA @hz (zA @hpos (zA @er (zA @hso (zA @oR_len (zA @hoo @hi0)))))
      refine rR ?_; apply zN
      refine wl ?_; refine zq1 ⟨fun ht => ⟨⟨?_⟩⟩⟩
      refine ⟨i + 1, by omega, by omega, ?_⟩
      rw [inn_ge (show 3 ≤ i + 1 by omega), inv4_ge (show 3 ≤ i + 1 by omega), oR_succ, if_neg (by omega)]
      have hfz : ∀ (B : Blk), (oR s k i).map (fun row => row.map (frz0 (k + 6) B)) = oR s k i := fun B => oR_frz (Nat.le_refl _)
      have hsw : (oR s k i).map (fun row => row.map (sw0 (k + 8) (k + 2))) = oR s k i := oR_sw' (by omega)
      refine Mv.trans (Mv.freeze (k + 6) (by simp -dsimp -implicitDefEqProofs only [go_sem, hfz, hsl, eq_self, ↓reduceIte]; rfl) rfl) ?_
      simp -dsimp -implicitDefEqProofs only [frzF, frz_app, go_sem, hfz, hsl, eq_self, ↓reduceIte]
      refine Mv.trans (Mv.rowN (k + 8) (ssf s i) (by simp -dsimp -implicitDefEqProofs only [go_sem, hfz, hsl, List.map_append, Flt.row, eq_self, ↓reduceIte]; rfl) (.cons (VLe.copy' _ _ _) .nil)) ?_
      exact Mv.app (k + 8) (k + 2) ⟨by omega, by omega⟩ ⟨by omega, by omega⟩ (wk_low (by omega) (by simp -dsimp -implicitDefEqProofs only [go_sem, hsw, hbd, hz, List.map_append, Flt.row, eq_self, ↓reduceIte]) (by simp -dsimp -implicitDefEqProofs only [go_sem, hsw, hbd, hz, List.map_append, Flt.row, eq_self, ↓reduceIte]) (by simp -dsimp -implicitDefEqProofs only [go_sem, hsw, hbd, hz, List.map_append, Flt.row, eq_self, ↓reduceIte]) (by simp -dsimp -implicitDefEqProofs only [go_sem, hsw, hbd, hz, List.map_append, Flt.row, eq_self, ↓reduceIte]))
    · obtain rfl | rfl | rfl : i = 0 ∨ i = 1 ∨ i = 2 := by omega
      · rw [show inv4 k 0 = .lit (.slice none 0 0) from rfl, show inn s k 0 = [] from rfl]
        have uU := zA @hz (zA @hpos (zA @er (zA @hso (zA @oR_len (zA @oR1 (zA @oR2 @oR3))))))
        refine rR ?_; apply zN
        refine wl ?_; refine zq1 ⟨fun ht => ⟨⟨?_⟩⟩⟩
        refine ⟨0 + 1, by omega, by omega, ?_⟩
        rw [show inv4 k (0 + 1) = .sl (k + 2) 0 1 from rfl, show inn s k (0 + 1) = [(k + 2, ⟨1, false, oR s k 1⟩), (k + 3, ⟨3, true, sRs s 0⟩)] from rfl]
        refine Mv.trans (Mv.swap (k + 6) (k + 3) ⟨by omega, by omega⟩ ⟨by omega, by omega⟩) ?_
        refine rR ?_; apply zN
        exact Mv.app (k + 8) (k + 2) ⟨by omega, by omega⟩ ⟨by omega, by omega⟩ (wk_low (by omega) (by simp -dsimp -implicitDefEqProofs only [go_sem, hz, hpos, er, hso, oR_len, oR1, oR2, oR3, List.map_append, Flt.row, eq_self, ↓reduceIte]) (by simp -dsimp -implicitDefEqProofs only [go_sem, hz, hpos, er, hso, oR_len, oR1, oR2, oR3, List.map_append, Flt.row, eq_self, ↓reduceIte]) (by simp -dsimp -implicitDefEqProofs only [go_sem, hz, hpos, er, hso, oR_len, oR1, oR2, oR3, List.map_append, Flt.row, eq_self, ↓reduceIte]) (by simp -dsimp -implicitDefEqProofs only [go_sem, hz, hpos, er, hso, oR_len, oR1, oR2, oR3, List.map_append, Flt.row, eq_self, ↓reduceIte]))
      · rw [show inv4 k 1 = .sl (k + 2) 0 1 from rfl, show inn s k 1 = [(k + 2, ⟨1, false, oR s k 1⟩), (k + 3, ⟨3, true, sRs s 0⟩)] from rfl]
        have uU := zA @hz (zA @hpos (zA @er (zA @hso (zA @oR_len (zA @oR1 (zA @oR2 @oR3))))))
        refine rR ?_; apply zN
        refine wl ?_; refine zq1 ⟨fun ht => ⟨⟨?_⟩⟩⟩
        refine ⟨1 + 1, by omega, by omega, ?_⟩
        rw [show inv4 k (1 + 1) = .sl (k + 2) 0 2 from rfl, show inn s k (1 + 1) = [(k + 2, ⟨1, false, oR s k 2⟩), (k + 3, ⟨3, true, sRs s 0⟩), (k + 4, ⟨3, true, sRs s 1⟩)] from rfl]
        refine Mv.trans (Mv.swap (k + 6) (k + 4) ⟨by omega, by omega⟩ ⟨by omega, by omega⟩) ?_
        refine rR ?_; apply zN
        exact Mv.app (k + 8) (k + 2) ⟨by omega, by omega⟩ ⟨by omega, by omega⟩ (wk_low (by omega) (by simp -dsimp -implicitDefEqProofs only [go_sem, hz, hpos, er, hso, oR_len, oR1, oR2, oR3, List.map_append, Flt.row, eq_self, ↓reduceIte]) (by simp -dsimp -implicitDefEqProofs only [go_sem, hz, hpos, er, hso, oR_len, oR1, oR2, oR3, List.map_append, Flt.row, eq_self, ↓reduceIte]) (by simp -dsimp -implicitDefEqProofs only [go_sem, hz, hpos, er, hso, oR_len, oR1, oR2, oR3, List.map_append, Flt.row, eq_self, ↓reduceIte]) (by simp -dsimp -implicitDefEqProofs only [go_sem, hz, hpos, er, hso, oR_len, oR1, oR2, oR3, List.map_append, Flt.row, eq_self, ↓reduceIte]))
      · rw [show inv4 k 2 = .sl (k + 2) 0 2 from rfl, show inn s k 2 = [(k + 2, ⟨1, false, oR s k 2⟩), (k + 3, ⟨3, true, sRs s 0⟩), (k + 4, ⟨3, true, sRs s 1⟩)] from rfl]
        have uU := zA @hz (zA @hpos (zA @er (zA @hso (zA @oR_len (zA @oR1 (zA @oR2 @oR3))))))
        refine rR ?_; apply zN
        refine wl ?_; refine zq1 ⟨fun ht => ⟨⟨?_⟩⟩⟩
        refine ⟨2 + 1, by omega, by omega, ?_⟩
        rw [show inv4 k (2 + 1) = .sl (k + 2) 0 3 from rfl, show inn s k (2 + 1) = [(k + 2, ⟨1, false, oR s k 3⟩), (k + 3, ⟨3, true, sRs s 0⟩), (k + 4, ⟨3, true, sRs s 1⟩), (k + 5, ⟨3, true, sRs s 2⟩)] from rfl]
        refine Mv.trans (Mv.swap (k + 6) (k + 5) ⟨by omega, by omega⟩ ⟨by omega, by omega⟩) ?_
        refine rR ?_; apply zN
        exact Mv.app (k + 8) (k + 2) ⟨by omega, by omega⟩ ⟨by omega, by omega⟩ (wk_low (by omega) (by simp -dsimp -implicitDefEqProofs only [go_sem, hz, hpos, er, hso, oR_len, oR1, oR2, oR3, List.map_append, Flt.row, eq_self, ↓reduceIte]) (by simp -dsimp -implicitDefEqProofs only [go_sem, hz, hpos, er, hso, oR_len, oR1, oR2, oR3, List.map_append, Flt.row, eq_self, ↓reduceIte]) (by simp -dsimp -implicitDefEqProofs only [go_sem, hz, hpos, er, hso, oR_len, oR1, oR2, oR3, List.map_append, Flt.row, eq_self, ↓reduceIte]) (by simp -dsimp -implicitDefEqProofs only [go_sem, hz, hpos, er, hso, oR_len, oR1, oR2, oR3, List.map_append, Flt.row, eq_self, ↓reduceIte]))
  · have hi' : i = s.ns := by omega
    subst hi'
    rw [inn_ge h3, inv4_ge h3]
    refine rR ?_; apply zN
    refine wl ?_; refine zq1 ⟨fun ht => ⟨⟨?_⟩⟩⟩
    have hcc := copyConfigO s hs hg0 (k + 6) (Γ := Γ)
    have hck := copyIntsG s.nk (kf s) hnk hk0 (rows_one_of _ _ fun _ => rfl) (k + 9) (Γ := Γ)
    have hcu := copyIntsG s.nu (uf s) hnu hu0 (rows_one_of _ _ fun _ => rfl) (k + 10) (Γ := Γ)
    have et : (List.range s.nt).map (tf s) = tkR' s := rfl
    have hto : ((tkR' s).all fun row => row.all AM.one) = true := rows_one_of _ _ fun _ => rfl
    have hne : ¬ s.nt = 0 := by omega
    have hobd := fun k' (h : k + 6 ≤ k') => oR_bd (s := s) (k := k) (i := s.ns) (k' := k') h
    have uU := zA @hne (zA @ht0 (zA @et @hto))
    refine dl [.gen (.agg [.lit (.int .i64 s.cpus), .lit (.int .u64 s.credit), .sl (k + 8) 0 s.ng]) (k + 9) [] [(k + 8, ⟨2, true, grR s⟩)], .gen (.sl (k + 9) 0 s.nk) (k + 10) [] [(k + 9, ⟨1, true, klR' s⟩)], .gen (.sl (k + 10) 0 s.nu) (k + 11) [] [(k + 10, ⟨1, true, ulR' s⟩)]] ?_; refine zq4 ⟨⟨⟨?_⟩⟩⟩ ⟨⟨⟨?_⟩⟩⟩ ⟨⟨⟨?_⟩⟩⟩ ⟨⟨⟨?_⟩⟩⟩
    all_goals (try (first | exact hcc | exact hck | exact hcu))
    refine wl ?_; refine zq1 ⟨⟨⟨?_⟩⟩⟩
    have uU := zA @hne (zA @ht0 (zA @et @hto)); refine cR ?_; apply zN
    refine ⟨eV.symm, ?_⟩
    rw [eRH]
    exact rR hdT
end Go.Proofs.T
end
